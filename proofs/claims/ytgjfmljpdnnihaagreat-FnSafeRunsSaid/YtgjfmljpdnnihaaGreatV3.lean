/-
  Running the program over pure contents, and that it follows (part 3). Nothing here is a claim.
-/
import Derived.Lib.AppendStr
import Derived.MapKept
import Derived.Test.YtgjfmljpdnnihaaGreatV2
set_option linter.unusedSimpArgs false
namespace Go.Proofs.YtgjfmljpdnnihaaGreat
set_option linter.defProp false
open Go.RowKit
set_option linter.unusedVariables false
def dT:Nat:=89999
def oZ(af:bk)(k:aa Nat):bk:=λb=>match af b with
 |some q=>bif k.isSuffixOf q then some (q.take (q.length-k.length)++[dT])else bif cz dT q then none else some q
 |none=>none
def Qe(σ:S)(c:mV)(args:aa Operand)(q:Nat):Bool:=match ji σ c.ps args with
 |some C=>!cM q ((kO 0 C).map (·.1))&&C.any λD=>Nat.beq D.root dT
 |none=>false
def F0{X:Type}(N:Nat)(σ:S)(D:aj Tmp)(c:mV)(args:aa Operand)(k:S->aj X):aj X:=
 match args with
 | .tmp t :: _=>(match σ.t t with
  | .lf (.own [j,i,s,q])=>(match σ.m q with
   | some (.sl (.sl tc (o+2) E l))=>if s=aB tc then (if hi:i<l.length then (match (enc tc o l[i])[j]? with
    | some y=>bif Nat.ble N 20000&&Nat.ble 20000 q&&Nat.blt q 60000&&Qe ((σ.cX [q,dT] [dT] [(dT,.sl y)]).set t (.lf (.own [dT]))) c args q then nE N ((σ.cX [q,dT] [dT] [(dT,.sl y)]).set t (.lf (.own [dT]))) D c args λC=>(match C.m dT with
      | some (.sl I)=>(match dec tc o (splice (enc tc o l[i]) j [I])with
       |some e=>k ((C.drop dT).root q (.sl (.sl tc (o+2) E (l.set i e))))
       |none=>none)
      |_=>none)else none
    |none=>none)else none)else none
   |_=>none)
  |_=>none)
 |_=>none
section
variable {P:Program} {w w':World} {w0:Wd} {B N:Nat} {af dj az:bk} {ρ eR ρ':Nat->Loc} {σ:S} {a:Act} {X:Type} {d:Nat} {r:X} {o:Oper} {K:aa Nat} {m:Nat->aj aP}
def J5{b:Nat}(h:af b=none):oZ af K b=none:=by simp[oZ,h]
def ahh{b:Nat}{p:aa Nat}(h:af b=some (p++K)):oZ af K b=some (p++[dT]):=by
 have C:K.isSuffixOf _=true:=List.isSuffixOf_iff_suffix.2 ⟨p,rfl⟩;simp[oZ,h,C]
def Qf{b:Nat}{k:aa Nat}(h:af b=some k)(C:¬ K <:+ k)(D:cz dT k=false):oZ af K b=some k:=by
 have C:K.isSuffixOf k=false:=by
  grind
 simp[oZ,h,C,D]
def RV.cut{k:aa Nat}{x:V}{v:Value}(h:RV w B af k x v)(p:aa Nat)(D:k=p++K\/x.aG=true):RV w B (oZ af K) (p++[dT]) x v:=
 h.map (Q:=λk C=>∃ p,k=p++K/\C=p++[dT]) (dz _) (λb _ h=>⟨rfl,J5 h⟩) (λb k C _ hl e=>by
  obtain⟨p,rfl,rfl⟩:=e;exact⟨rfl,ahh hl,λj i s=>⟨j::i::s::p,rfl,rfl⟩⟩) (D.symm.imp_right λh=>⟨p,h,rfl⟩)
def RV.ahi{k:aa Nat}{x:V}{v:Value}(h:RV w B af k x v)(I:∀ b,af b≠some [])(O:((∀ p,¬ K <:+ p++k)/\cz dT k=false)\/x.aG=true):RV w B (oZ af K) k x v:=
 h.map (Q:=λk C=>k=C/\(∀ p,¬ K <:+ p++k)/\cz dT k=false) (dz _) (λb _ h=>⟨rfl,J5 h⟩) (λb k C _ hl e=>by
  obtain⟨rfl,D,E⟩:=e
  refine⟨rfl,Qf hl (D []) E,λj i s=>⟨rfl,λp=>?_,?_⟩⟩
  ·have:=D (p++[j,i,s])
   rwa [List.append_assoc]at this
  ·rw[JB (by rintro rfl;exact I b hl)];exact E) (O.symm.imp_right λh=>⟨rfl,h⟩)
def Rl.ahj{t:Nat}{x:A}(h:Rl w0 N af ρ σ a w)(D:RA w w0.heap.size af ρ x (a.tmps.getD t undef)):Rl w0 N af ρ (σ.set t x) a w:=by
 refine⟨h.below,h.cL,h.root,λk=>?_,h.size,h.defers,h.fix,h.cD⟩
 show RA w _ af ρ (bG σ.t t x k) _;by_cases C:k=t
 ·subst C;rw[bJ];exact D
 ·rw[cc _ _ _ C];exact h.tmp k
def Rl.ahk{q:Nat}{x:aP}(h:Rl w0 N af ρ σ a w)(E:dM w w0.heap.size af ρ q x):Rl w0 N af ρ (σ.root q x) a w:=by
 refine⟨h.below,h.cL,λr y C=>?_,h.tmp,h.size,h.defers,h.fix,h.cD⟩
 have C:bG σ.m q _ r=some y:=C;by_cases D:r=q
 ·subst D;rw[bJ]at C;simp_all
 ·rw[cc _ _ _ D]at C;exact h.root r y C
def iY.ahl(h:Rl w0 N af ρ σ a w):iY w0 w w:=⟨rfl,rfl,rfl,dz _,λ_ _ _=>rfl⟩
def ahm{f:Nat}{args:Array Operand}{jv:Array TypeId}{c:mV}{k:S -> aj X}(ho:o.op = .call { callee:=.value (.func f),args,argTypes:=jv })(he:enters P f)(hc:uV P f c)(h:F0 N σ o.dst c args.toList k=some r):∃ cG,k cG=some r/\kK P w0 N o σ cG:=by
 unfold F0 at h;split at h
 ·rename_i t rest lD;split at h
  ·rename_i j i s q ht;split at h
   ·rename_i tc oo qn l hm;split at h
    ·rename_i hs;subst hs;split at h
     ·rename_i hi;split at h
      ·rename_i y hy;generalize ahn:((σ.cX [q,dT] [dT] [(dT,.sl y)]).set t (.lf (.own [dT])))=o6 at h;cases hb:(Nat.ble N 20000&&Nat.ble 20000 q&&Nat.blt q 60000&&Qe o6 c args.toList q)with
       |false=>rw[hb]at h;cases h
       | true=>
        rw[hb,aq]at h;simp only[aJ]at hb;obtain⟨⟨⟨hN,CR⟩,wm⟩,J6⟩:=hb;have hN:=cr hN;have CR:=cr CR;have wm:q<60000:=cr wm;obtain⟨τ,Qd,cn,U,tK,om,zd,FK⟩:=Qa (w0:=w0) ho he hc h;clear h;unfold Qe at J6;rw[tK]at J6;simp only[aJ,fH]at J6;obtain⟨Fo,hdT⟩:=J6;obtain⟨mu,jw,Qg⟩:=List.any_eq_true.1 hdT;have Qg:=cE Qg;have aho:cM dT cn=false:=by rw[<- Qg];exact zd mu jw
        have ahp:cM q cn=false:=by
         cases D:cM q cn with
         |false=>rfl
         |true=>have:=om q D;omega
        have Qh:q≠dT:=by unfold dT;omega
        split at U
        ·rename_i y' FD;split at U
         ·rename_i e Qi
          refine⟨_,U,λa w KK Q hR hK=>?_⟩
          obtain⟨af,ρ,hR⟩:=hR;have ck:=hR.v9;have J7:w0.F dT=none:=hR.cD dT (.inr (by decide));have eI:=hR.root q _ hm;generalize D:aP.sl (.sl tc (oo+2) qn l)=x at eI;cases eI with
          |ay=>cases D
          |mp=>cases D
          |gh=>cases D
          | sl v yq bV hr=>
           injection D with D;subst D;cases hr with
           |dX=>simp at hi
           |fy=>simp at hi
           |fJ=>simp at hi
           |aG _ _ _ _ _ _ _ _ _ ho=>omega
           | own _ _ _ _ _ b cap cs u hl hh hs Z rJ Xi mQ=>
            have hKv:vV σ.m [j,i,aB tc,q] y:=.elem j i [q] tc oo qn l y (.root q _ hm) hi hy;obtain⟨Y,og,ahq⟩:=hKv.ok hR.root;have wA:=hR.tmp t;rw[ht]at wA;have kL:a.tmps.getD t undef=Y:=by
             have h2:=wA.2;rw[og]at h2;injection h2 with h2;exact h2.symm
            have ahr:Y=u i j:=by
             have h3:cF w af ρ [j,i,aB tc,q]=some (u i j):=by
              rw[Jr,AI j i _ (show cF w af ρ [q]=some (.slice (some ⟨b,0,none⟩) l.length cap) by simp[cF,bV]) hl];show w.cell? _=_;rw[cell_of_row w b _ cs _ _ hh];simp[*]
             rw[og]at h3;injection h3
            have fR:lW Y=true:=by rw[<- kL];exact wA.1
            -- the state that the callee's caller sees
            have PJ:∀ k:aa Nat,fK k [q,dT]=false -> cz q k=false/\cz dT k=false:=by
             intro k U;unfold fK at U;unfold cz;split at U
             next z O=>rw[O];have:=WT U;simp only[gk,List.not_mem_nil,not_or]at this;exact⟨by simpa using this.1,by simpa using this.2⟩
             next O=>rw[O];exact⟨rfl,rfl⟩
            have hKq:∀ k:aa Nat,[j,i,aB tc,q] <:+ k -> cz q k=true:=by
             rintro k ⟨p,rfl⟩;simp[cz]
            have FF:tF w w af (oZ af [j,i,aB tc,q]) ρ (bG ρ dT (.dn Y)) [q,dT] [dT]:=by
             refine⟨dz _,λE wh C=>⟨rfl,?_⟩,λn Z=>?_,λE k C=>(hR.cL E k C).2⟩
             ·cases I:af E with
              |none=>exact J5 I
              | some k=>
               obtain⟨g1,g2⟩:=PJ k (C k I);exact Qf I (λn6=>by rw[hKq k n6]at g1;cases g1) g2
             ·refine cc _ _ _ ?_;rintro rfl;simp[cM]at Z
            have wo:∀ E k,oZ af [j,i,aB tc,q] E=some k -> (∃ T,af E=some T)/\k≠[]:=by
             intro E k C;cases I:af E with
             |none=>rw[J5 I]at C;cases C
             | some T=>
              refine⟨⟨T,rfl⟩,?_⟩;unfold oZ at C;rw[I]at C;simp only at C;cases h1:List.isSuffixOf [j,i,aB tc,q] T with
              | true=>
               rw[h1,aq]at C;injection C with C;rw[<- C];simp
              | false=>
               rw[h1,av]at C;cases h2:cz dT T with
               |true=>rw[h2,aq]at C;cases C
               | false=>
                rw[h2,av]at C;injection C with C;rw[<- C];exact(hR.cL E T I).2.2
            have rZ:Rl w0 N (oZ af [j,i,aB tc,q]) (bG ρ dT (.dn Y)) (σ.cX [q,dT] [dT] [(dT,.sl y)]) a w:=by
             refine hR.tG FF (iY.ahl hR) (λE k C=>?_) (λn Z=>?_) (λn z O=>?_)
             ·obtain⟨⟨T,I⟩,J8⟩:=wo E k C;have:=hR.cL E T I;exact⟨this.1,this.2.1,J8⟩
             ·have:n=dT:=by simpa [cM]using Z
              rw[this];exact J7
             ·have Z:n=dT/\z = .sl y:=by
               rw[List.lookup_cons]at O;cases ze:(n==dT)with
               |false=>rw[ze]at O;cases O
               | true=>
                rw[ze]at O;injection O with O;exact⟨by simpa using ze,O.symm⟩
              obtain⟨rfl,rfl⟩:=Z;exact .sl Y y (bJ _ _ _) (ahq.cut [] (.inl rfl))
            have ki:Rl w0 N (oZ af [j,i,aB tc,q]) (bG ρ dT (.dn Y)) o6 a w:=by
             rw[<- ahn];refine rZ.ahj ?_;rw[kL];exact⟨fR,by simp only[cF,bJ]⟩
            refine FK a w KK Q _ _ ki λvv w' dj eR vb FZ wz rP wJ=>?_
            -- behind the call
            have qH:90000 <= gP o.dst:=by unfold gP;split<;>omega
            have ahs:vb dT = .dn Y:=by
             rw[wJ dT (by unfold dT;omega),wz.eP dT aho,bJ]
            have aht:vb q = .dn (.slice (some ⟨b,0,none⟩) l.length cap):=by
             rw[wJ q (by omega),wz.eP q ahp,cc _ _ _ Qh,bV]
            have eI:=FZ.root dT _ FD;generalize D:aP.sl y'=x at eI;cases eI with
            |ay=>cases D
            |mp=>cases D
            |gh=>cases D
            | sl v' y'' iK fo=>
             injection D with D;subst D;rw[ahs]at iK;injection iK with iK;subst iK;have Qj:=FZ.v9;have hrel:Rel dT dj (dj.gC dT [j,i,aB tc,q]):=Fk Qj;have Xj:cz dT [q]=false:=by simpa [cz]using λe=>Qh e
             have C7:oZ af [j,i,aB tc,q] b=some [q]:=Qf hl (λn6=>by have:=n6.length_le;simp at this) Xj;have ahu:fK [q] ((kO 0 Qd).map (·.1))=false:=Fo;obtain⟨g1,g2⟩:=wz.same b (wz.af b _ C7).1 (λk C=>by rw[C7]at C;injection C with C;subst C;exact ahu);have ahv:dj b=some [q]:=g2.trans C7;have ahw:dj.gC dT [j,i,aB tc,q] b=some [q]:=hrel.iW b _ ahv Xj;have hR4:=FZ.rel hrel (λE k C=>by
              unfold bk.gC at C;cases I:dj E with
              |none=>rw[I]at C;cases C
              | some T=>
               rw[I]at C;injection C with C;subst C;exact⟨⟨T,rfl⟩,Wh (by simp) (λe=>Qj E (by rw[I,e]))⟩)
             refine hK _ _ ⟨_,vb,hR4.ahk (.sl _ _ aht ?_)⟩;have hj:j<aB tc:=by
              have:=(dA.1 hy).1
              rwa [ke]at this
             refine RV.Jv (w':=w') (cs:=cs) (xs:=[y']) (u:=u) (us:=u) ahw (g1.trans hh) hs Z rJ hi (show j+1 <= aB tc from hj) Qi (λi' F1 j' x D hij=>⟨Xi i' F1 j' x D,?_⟩) (λn x D=>?_)
             ·have Ql:=mQ i' F1 j' x D;have ahx:¬ (i'=i/\j'=j):=λe=>hij ⟨e.1,by simp;omega⟩
              have Xk:cz dT [j',i',aB tc,q]=false:=by simpa [cz]using λe=>Qh e
              have a1:=Ql.ahi (K:=[j,i,aB tc,q]) ck (.inl ⟨λp n6=>?_,Xk⟩)
              ·have a2:=a1.tG wz (.inl (by simpa [fK]using Fo));exact a2.rel hrel (.inl Xk)
              ·have e1:[j,i,aB tc,q]=[j',i',aB tc,q]:=ON n6 ⟨p,rfl⟩ rfl;injection e1 with e1 e2;injection e2 with e2 e3;exact ahx ⟨e2.symm,e1.symm⟩
             ·cases n with
              | zero=>
               simp only[List.getElem?_cons_zero,ia]at D;subst D;refine⟨Xi i hi j y hy,?_⟩;have:=fo.gC (q:=dT) (nk:=[j,i,aB tc,q]) Qj;rw[Wg,ahr]at this;exact this
              |succ n=>simp at D
         ·cases U
        ·cases U
      ·cases h
     ·cases h
    ·cases h
   ·cases h
  ·cases h
 ·cases h
def ahy{C:aj Tmp}{c:mV}{args:aa Operand}(D:∀ σ,cm λX k=>nE (X:=X) N σ C c args k):cm λX k=>F0 (X:=X) N σ C c args k:=λX Y k g=>by
 unfold F0
 repeat' first|rfl|refine cS ((D _ _ _ _ _).trans (bx _ (funext λE=>?_))) rfl|split
def wK:∀ (q:aa Nat),cm λX k=>iZ (X:=X) m q k
 |[]=>λ_ _ _ _=>rfl
 | [x]=>λX Y k g=>by
  simp only[iZ]
  repeat' first|rfl|refine cS ?_ ?_|split
 |[_,_]=>λ_ _ _ _=>rfl
 | j :: i :: s :: q=>λX Y k g=>by
  simp only[iZ]
  refine(wK q _ _ _ _).trans (bx _ (funext λy=>?_))
  repeat' first|rfl|split
  all_goals simp_all
def C8{x:Lf}:cm λX k=>n8 (X:=X) σ x k:=by
 cases x with
 |own q=>exact wK q
 |_=>exact λ_ _ _ _=>rfl
def Xl{q:aa Nat}{s i j:Nat}:cm λX k=>uM (X:=X) σ q s i j k:=λX Y k g=>by
 refine(wK q _ _ _ _).trans (bx _ (funext λy=>?_))
 repeat' first|rfl|refine cS ?_ ?_|split
def Qm{x:A}:cm λX k=>rL (X:=X) σ x k:=by
 cases x with
 |lf l=>exact C8
 |view=>exact Xl
 |_=>exact λ_ _ _ _=>rfl
def Qn{x:A}:cm λX k=>vK (X:=X) x k:=λX Y k g=>by
 unfold vK
 repeat' first|rfl|refine cS ?_ ?_|split
def ahz{ty:TypeId}{C:BinOp}{x y:V}:cm λX k=>Fe (X:=X) P ty C x y k:=λX Y k g=>by
 unfold Fe
 repeat' first|rfl|refine cS ?_ ?_|split
def ahA{C:BinOp}{t:TypeId}{x y:A}:cm λX k=>yN (X:=X) P σ C t x y k:=λX Y k g=>by
 unfold yN;split
 ·repeat' first|rfl|refine cS ?_ ?_|split
 ·split
  ·refine(C8 _ _ _ _).trans (bx _ (funext λz=>?_))
   repeat' first|rfl|refine cS ?_ ?_|split
  ·rfl
 ·exact(Qn.comp λa=>Qn.comp λb=>ahz.comp (b:=λX k z=>k (.lf (.v z))) λz _ _ _ _=>rfl) X Y k g
def ahB{C:UnOp}{x:V}:cm λX k=>Ff (X:=X) C x k:=λX Y k g=>by
 unfold Ff
 repeat' first|rfl|refine cS ?_ ?_|split
def J9{t:TypeId}{cs:aa Lf}:cm λX k=>v7 (X:=X) P t cs k:=λX Y k g=>by
 unfold v7
 repeat' first|rfl|refine cS ?_ ?_|split
def Xm{t:TypeId}{x:A}:cm λX k=>nt (X:=X) P σ t x k:=λX Y k g=>by
 unfold nt;split
 ·rfl
 ·split
  ·split
   ·exact J9 _ _ _ _
   ·rfl
  ·exact J9 _ _ _ _
  ·refine(wK _ _ _ _ _).trans (bx _ (funext λz=>?_))
   repeat' first|rfl|exact J9 _ _ _ _|split
  ·rfl
def ahC{s:TypeId}{x:A}{f:Nat}:cm λX k=>CM (X:=X) P s x f k:=λX Y k g=>by
 unfold CM
 repeat' first|rfl|refine cS ?_ ?_|split
def ahD{t:TypeId}{x i:A}:cm λX k=>yC (X:=X) P σ t x i k:=λX Y k g=>by
 unfold yC;split
 ·rfl
 ·split
  ·split
   ·repeat' first|rfl|refine cS ?_ ?_|split
   ·refine(wK _ _ _ _ _).trans (bx _ (funext λz=>?_))
    repeat' first|rfl|refine cS ?_ ?_|split
   ·rfl
  ·rfl
def ahE{t:TypeId}{x:A}:cm λX k=>AN (X:=X) P σ t x k:=λX Y k g=>by
 unfold AN;split
 ·refine(C8 _ _ _ _).trans (bx _ (funext λz=>?_))
  repeat' first|rfl|refine cS ?_ ?_|split
 ·repeat' first|rfl|refine cS ?_ ?_|split
 ·rfl
def ahF{x:A}{i:Nat}:cm λX k=>AO (X:=X) x i k:=λX Y k g=>by
 unfold AO
 repeat' first|rfl|refine cS ?_ ?_|split
def ahG{t:TypeId}{parts:aa (Nat×Operand)}:cm λX k=>CS (X:=X) P σ t parts k:=λX Y k g=>by
 unfold CS
 repeat' first|rfl|refine cS ?_ ?_|split
def ahH{s:TypeId}{x:A}{f:Nat}:cm λX k=>FB (X:=X) P s x f k:=λX Y k g=>by
 unfold FB
 repeat' first|rfl|refine cS ?_ ?_|split
def Xn{C:Bool}{x y:A}:cm λX k=>CT (X:=X) C x y k:=λX Y k g=>by
 unfold CT
 repeat' first|rfl|refine cS ?_ ?_|split
def ahI{t:TypeId}{x i:A}:cm λX k=>FC (X:=X) P t x i k:=λX Y k g=>by
 unfold FC
 repeat' first|rfl|refine cS ?_ ?_|split
def ahJ{C D:TypeId}{x:A}:cm λX k=>yK (X:=X) P σ C D x k:=λX Y k g=>by
 unfold yK;split
 ·repeat' first|rfl|refine cS ?_ ?_|split
 ·refine(C8 _ _ _ _).trans (bx _ (funext λz=>?_))
  unfold JN
  repeat' first|rfl|refine cS ?_ ?_|split
 ·rfl
def C9{x:aj A}{d:Int}:cm λX k=>tw (X:=X) x d k:=λX Y k g=>by
 unfold tw
 repeat' first|rfl|refine cS ?_ ?_|split
def Xo{t:TypeId}{q:aa Nat}{C:aj Nat}{lo hi:aj A}:cm λX k=>AT (X:=X) P σ t q C lo hi k:=λX Y k g=>by
 unfold AT;split
 ·split
  ·refine(wK _ _ _ _ _).trans (bx _ (funext λz=>?_))
   unfold CY;split
   ·split
    ·refine(C9 _ _ _ _).trans (bx _ (funext λ_=>(C9 _ _ _ _).trans (bx _ (funext λ_=>?_))))
     repeat' first|rfl|refine cS ?_ ?_|split
    ·rfl
   ·rfl
  ·rfl
 ·rfl
def ahK{t:TypeId}{x:A}{lo hi:aj A}:cm λX k=>yQ (X:=X) P σ t x lo hi k:=λX Y k g=>by
 unfold yQ;split
 ·exact Xo _ _ _ _
 ·exact Xo _ _ _ _
 ·unfold wq;split
  ·split
   ·refine(C9 _ _ _ _).trans (bx _ (funext λ_=>(C9 _ _ _ _).trans (bx _ (funext λ_=>?_))))
    repeat' first|rfl|refine cS ?_ ?_|split
   ·rfl
  ·split
   ·split
    ·split
     ·refine cS ((C9 _ _ _ _).trans (bx _ (funext λ_=>(C9 _ _ _ _).trans (bx _ (funext λ_=>?_))))) rfl
      repeat' first|rfl|refine cS ?_ ?_|split
     ·rfl
    ·rfl
   ·rfl
  ·rfl
def wL{C:aj Tmp}{x:A}:cm λX k=>gG (X:=X) N σ C x k:=λX Y k g=>by
 unfold gG
 repeat' first|rfl|refine cS ?_ ?_|split
def Ka{x:aP}{y:A}:cm λX k=>gI (X:=X) N σ d x y k:=λX Y k g=>cS rfl rfl
def Da{x:aP}{y:A}{k:S -> aj X}(h:gI N σ d x y k=some r):k (((σ.drop d).root d x).set d y)=some r/\lY (λX k=>gI (X:=X) N σ d x y k) (((σ.drop d).root d x).set d y):=by
 unfold gI at h;cases C:Nat.blt d N with
 |false=>simp_all
 |true=>rw[C]at h;exact⟨h,λX k=>by simp[gI,C,aq]⟩
def ahL{e:TypeId}{k:S -> aj X}(h:qz P N σ d e k=some r):∃ x y,k (((σ.drop d).root d x).set d y)=some r/\y = .aH d 0/\(∀ (C:S),lY (λX k=>qz (X:=X) P N C d e k) (((C.drop d).root d x).set d y)):=by
 unfold qz at h;split at h
 ·rename_i z D;obtain⟨E,_⟩:=Da h
  refine⟨_,_,E,rfl,λC X k=>?_⟩
  obtain⟨I,_⟩:=oa h;have hb:Nat.blt d N=true:=iF I;simp[qz,D,gI,hb,aq]
 ·cases h
def Xp{t:TypeId}{l c:A}{k:S -> aj X}(h:yF P N σ d t l c k=some r):∃ y,k (((σ.drop d).root d (.sl y)).set d (.lf (.own [d])))=some r/\(∀ (C:S),lY (λX k=>yF (X:=X) P N C d t l c k) (((C.drop d).root d (.sl y)).set d (.lf (.own [d])))):=by
 unfold yF at h;split at h
 ·rename_i e tc U n Y c D;split at h
  ·cases h
  ·rename_i z E;split at h
   ·rename_i hb;obtain⟨I,_⟩:=Da h
    refine⟨_,I,λC X k=>?_⟩
    obtain⟨O,_⟩:=oa h;have T:Nat.blt d N=true:=iF O;simp[yF,D,E,aV hb,gI,T,aq]
   ·cases h
 ·cases h
def Xq{t:TypeId}{len:Nat}{parts:aa (Nat×Operand)}{k:S -> aj X}(h:yJ P N σ d t len parts k=some r):∃ y,k (((σ.drop d).root d (.sl y)).set d (.lf (.own [d])))=some r /\
  (∀(C:S),(∀p∈parts,aI C p.2=aI σ p.2) -> lY (λX k=>yJ (X:=X) P N C d t len parts k) (((C.drop d).root d (.sl y)).set d (.lf (.own [d])))):=by
 unfold yJ at h;split at h
 ·rename_i e tc E;split at h
  ·rename_i z I;cases D:(Nat.beq (full tc) 0&&Nat.beq z.cells.size (aB tc)&&Nat.blt (len*aB tc) 16777217)with
   |false=>simp_all
   | true=>
    rw[D,aq]at h;split at h
    ·rename_i cs O;split at h
     ·rename_i vs T;split at h
      ·rename_i l hl;obtain⟨U,_⟩:=Da h
       refine⟨_,U,λC Y X k=>?_⟩
       obtain⟨Z,_⟩:=oa h;have gy:Nat.blt d N=true:=iF Z;have e:(parts.map λp=>(p.1,aI C p.2))=parts.map λp=>(p.1,aI σ p.2):=List.map_congr_left λp hp=>by rw[Y p hp]
       simp[yJ,E,I,D,aq,e,O,T,hl,gI,gy]
      ·cases h
     ·cases h
    ·cases h
  ·cases h
 ·cases h
def ahM{t:TypeId}{x y:A}:cm λX k=>tj (X:=X) P N σ d t x y k:=λX Y k g=>by
 unfold tj;split
 ·refine cS ((Qm _ _ _ _).trans (bx _ (funext λC=>?_))) rfl
  repeat' first|rfl|exact Ka _ _ _ _|refine cS ?_ ?_|split
 ·rfl
def Xr:∀ (q:aa Nat) (y:V),cm λX k=>v8 (X:=X) m q y k
 |[],_=>λ_ _ _ _=>rfl
 | [x],y=>λX Y k g=>by
  simp only[v8]
  repeat' first|rfl|refine cS ?_ ?_|split
 |[_,_],_=>λ_ _ _ _=>rfl
 | j :: i :: s :: q,y=>λX Y k g=>by
  simp only[v8]
  refine(wK q _ _ _ _).trans (bx _ (funext λz=>?_))
  repeat' first|rfl|exact Xr q _ _ _ _ _|split
def Xs{t:TypeId}{x y:A}:cm λX k=>oV (X:=X) P σ t x y k:=λX Y k g=>by
 unfold oV;split
 ·split
  ·split
   ·repeat' first|rfl|refine cS ?_ ?_|split
   ·split
    ·rfl
    ·refine(wK _ _ _ _ _).trans (bx _ (funext λz=>?_))
     repeat' first|rfl|exact Xr _ _ _ _ _ _|refine cS ?_ ?_|split
   ·rfl
  ·rfl
 ·rfl
def Qo:∀ (xs:aa Lf),cm λX k=>qB (X:=X) σ xs k
 |[]=>λ_ _ _ _=>rfl
 |x::xs=>C8.comp λy=>(Qo xs).comp (b:=λX k ys=>k (y.fZ::ys)) λ_ _ _ _ _=>rfl
def Xt{x:A}:cm λX k=>ny (X:=X) σ x k:=λX Y k g=>by
 unfold ny
 repeat' first|rfl|exact Qo _ _ _ _ _|exact Xl _ _ _ _|split
def ahN{x:A}:cm λX k=>uS (X:=X) σ x k:=λX Y k g=>by
 unfold uS
 repeat' first|rfl|exact Xt _ _ _ _|refine(Qo _ _ _ _ _).trans (bx _ (funext λz=>?_))|split
def Qp{f:(X:Type)->A->(Pt->aj X)->aj X}(C:∀ x,cm λX k=>f X x k):∀ (xs:aa Operand),cm λX k=>uT (f X) σ xs k
 |[]=>λ_ _ _ _=>rfl
 |x::xs=>(C _).comp λp=>(Qp C xs).comp (b:=λX k ps=>k (p::ps)) λ_ _ _ _ _=>rfl
def Db{xs:aa Operand}:cm λX k=>rR (X:=X) σ xs k:=Qp (λ_=>Xt) xs
def Xu{xs:aa Operand}:cm λX k=>AU (X:=X) σ xs k:=Qp (λ_=>ahN) xs
def Kb{C:fO}:cm λX k=>mT (X:=X) σ d C k:=λX Y k g=>by
 unfold mT
 repeat' first|rfl|refine cS ?_ ?_|split
def Xv{f:Nat}{c:jh}(C:iL P f c){ev:(X:Type)->(aa Pt->aj X)->aj X}(D:cm ev):cm λX k=>rT (X:=X) N σ d c (ev X) k:=λX Y k g=>
 cS ((D.comp λps=>(C.1 ps).comp λE=>Kb) X Y k g) rfl
def Kc{f:Nat}{c:jh}(Y:iL P f c){ev:(X:Type)->(aa Pt->aj X)->aj X}(Z:cm ev){k:S->aj X}(h:rT N σ d c (ev X) k=some r):∃ C D,mT σ d C some=some D/\k D=some r/\
  ∀E O (I:(X:Type)->(aa Pt->aj X)->aj X),(∀(X:Type) (k:aa Pt->aj X),I X k=ev X k)->mT E d C some=some O->lY (λX k=>rT (X:=X) N E d c (I X) k) O:=by
 unfold rT at h;cases T:Nat.blt d N with
 |false=>rw[T]at h;cases h
 | true=>
  rw[T,aq]at h;obtain⟨ps,h2,hd⟩:=Z.lA h;obtain⟨C,h3,Pu⟩:=(Y.1 ps).lA h2;obtain⟨D,h4,hd3⟩:=Kb.lA h3
  refine⟨C,D,hd3 _ _,h4,λE O I ha gQ X k=>?_⟩
  obtain⟨τ2,U,Xw⟩:=Kb.lA gQ;injection U with U;subst U;show rT N E d c (I X) k=_;unfold rT;rw[T,aq,ha,hd X];exact(Pu X _).trans (Xw X k)
/-! Keys that do not end in certain names. -/
def nG(p:Nat->Bool)(k:aa Nat):Bool:=!iJ p k
def tL(p pb:Nat->Bool):mP:=⟨iJ p,iJ p,pb⟩
def Lf.nr(p:Nat->Bool):Lf->Bool:=Lf.fr (iJ p)
def A.nr(p:Nat->Bool):A->Bool:=A.fr (tL p p)
def F2{p:Nat->Bool}{n:Nat}(C:p n=true)(k:aa Nat)(h:cz n k=true):iJ p k=true:=by
 unfold iJ;rw[show k.getLast?=some n by simpa [cz]using h];exact C
def Xx{p:Nat->Bool}{k:aa Nat}{n:Nat}(h:nG p k=true)(C:p n=true):cz n k=false:=by
 cases hl:cz n k with
 |false=>rfl
 |true=>unfold nG at h;rw[F2 C k hl]at h;cases h
def ahO{p:Nat->Bool}{n:Nat}(C:p n=true)(r:Nat)(h:Nat.beq r n=true):p r=true:=by rw[cE h];exact C
def Lf.zg{p:Nat->Bool}{x:Lf}{n:Nat}(h:x.nr p=true)(C:p n=true):x.drop n=x:=Lf.nX (Lf.rG (F2 C) h)
def qw.zg{p:Nat->Bool}{xs:aa Lf}{n:Nat}(h:xs.all (Lf.nr p)=true)(C:p n=true):xs.map (Lf.drop n)=xs:=qw.nX (bN.2 λc D=>Lf.rG (F2 C) (bN.1 h c D))
def A.A5{p pb:Nat->Bool}{x:A}{n:Nat}(h:x.fr (tL p pb)=true)(C:p n=true)(hb:pb n=true):x.drop n=x:=A.nX (A.rG (K:=vW n) (J:=tL p pb) (F2 C) (F2 C) (ahO hb) h)
def A.zg{p:Nat->Bool}{x:A}{n:Nat}(h:x.nr p=true)(C:p n=true):x.drop n=x:=A.A5 h C C
def S.ext'{σ C:S}(D:∀ k,σ.t k=C.t k)(E:∀ r,σ.m r=C.m r):σ=C:=by
 cases σ;cases C;simp
 grind
def S.set_set{e d:Nat}(h:e≠d)(v u:A):(σ.set d v).set e u=(σ.set e u).set d v:=by
 refine S.ext' (λk=>?_) λ_=>rfl
 show bG (bG σ.t d v) e u k=bG (bG σ.t e u) d v k;by_cases C:k=e
 ·subst C;rw[bJ,cc _ _ _ h,bJ]
 ·by_cases D:k=d
  ·subst D;rw[cc _ _ _ C,bJ,bJ]
  ·rw[cc _ _ _ C,cc _ _ _ D,cc _ _ _ D,cc _ _ _ C]
def S.drop_set(n:Nat){v:A}(C:v.drop n=v):(σ.set d v).drop n=(σ.drop n).set d v:=by
 refine S.ext' (λk=>?_) λ_=>rfl
 show (bG σ.t d v k).drop n=bG (λk=>(σ.t k).drop n) d v k;by_cases h:k=d
 ·subst h;rw[bJ,bJ,C]
 ·rw[cc _ _ _ h,cc _ _ _ h]
def Qq(v:A):∀ (xs:aa V) (c:Nat) (σ:S),(∀ n,c <= n -> v.drop n=v) -> lZ c (σ.set d v) xs=(lZ c σ xs).set d v
 |[],c,σ,h=>rfl
 | x :: xs,c,σ,h=>by
  simp[lZ];cases D:x.aG with
  | true=>
   exact Qq v xs _ σ (λn C=>h n (by omega))
  | false=>
   rw[S.drop_set c (h c (dz _))];exact Qq v xs _ ((σ.drop c).root c _) (λn C=>h n (by omega))
def Qr(v:A):∀ (ps:aa Pt) (c:Nat) (σ:S),(∀ n,c <= n -> v.drop n=v) -> nB c (σ.set d v) ps=(nB c σ ps).set d v
 |[],c,σ,h=>rfl
 | p :: ps,c,σ,h=>by
  simp[nB];rw[Qq v p.2 c σ h];exact Qr v ps _ _ (λn C=>h n (by omega))
end
def zh{X:Type}(N:Nat)(σ:S)(d:Nat)(x:A)(k:S->aj X):aj X:=
 match x.yB with
 |some xs=>bif xs.all Lf.live then gI N σ d (.ay (xs.map (Lf.drop d))) (.aH d 0) k else none
 |none=>none
def Kd{X:Type}(x:A)(k:A->aj X):aj X:=
 match x with
 |.aH r j=>k (.aH r j)
 |.ptr q=>k (.ptr q)
 |.iX cs=>k (.iX cs)
 |_=>none
section
variable {P:Program} {w w':World} {w0:Wd} {B N:Nat} {af az:bk} {ρ ρ':Nat->Loc} {σ:S} {a:Act} {X:Type} {d:Nat} {r:X} {o:Oper}
def ahP{e:TypeId}{x:A}{k:S -> aj X}(h:zh N σ d x k=some r):∃ D,k D=some r /\ ∀ af ρ a w,Rl w0 N af ρ σ a w -> ∀ u,RA w w0.heap.size af ρ x u ->
  ∃w' az ρ' v,(Instr.box e u).run P w = .ok v w'/\Rl w0 N az ρ' D (a.put (some d) v) w':=by
 unfold zh at h;split at h
 ·rename_i xs U;cases E:xs.all Lf.live with
  |false=>grind
  | true=>
   rw[E,aq]at h;obtain⟨I,h⟩:=oa h
   refine⟨_,h,λaf ρ a w hR u Y=>?_⟩
   obtain⟨hl,_⟩:=Fi U E Y;have Z:(Instr.box e u).run P w = .ok (.pointer (some ⟨w.heap.size,0,none⟩)) (w.alloc (.cells u.cells e)):=by
    simp[Instr.box,newVar,newRow]
   refine⟨_,bG af w.heap.size (some [d]),bG ρ d (.ay w.heap.size 0),_,Z,(hR.CO (hR.cD d (.inl I)) (λr C=>cc _ _ _ C) ?_).set ⟨w.heap.size,0,bJ _ _ _,rfl⟩ I⟩
   have h1:ez (w.alloc (.cells u.cells e)) w0.heap.size (bG af w.heap.size (some [d])) ρ xs u.cells:=
    hl.iW (by simp) (λb hb=>⟨Below.heap_alloc w _ b hb,cc _ _ _ (by omega)⟩) (λb k hb=>(hR.cL b k hb).2.1)
   have O:=h1.eP (ρ':=bG ρ d (.ay w.heap.size 0)) (d:=d) (λr C=>cc _ _ _ C)
   refine .ay w.heap.size 0 u.cells e _ (λj=>u.cells.getD j undef) (bJ _ _ _) (bJ _ _ _) (heap_alloc_new w _) (by rw[O.1];omega) λj y hy=>?_
   obtain⟨v,T,C⟩:=O.2 j y hy;have hg:u.cells.getD j undef=v:=by rw[gN,T];rfl
   rw[hg,ff];exact⟨T,C⟩
 ·cases h
def ahQ{x:A}{k:S -> aj X}(h:zh N σ d x k=some r):∃ y u,k (((σ.drop d).root d y).set d u)=some r/\(∀ (C:S),lY (λX k=>zh (X:=X) N C d x k) (((C.drop d).root d y).set d u)):=by
 unfold zh at h;split at h
 ·rename_i xs E;cases D:xs.all Lf.live with
  |false=>simp_all
  | true=>
   rw[D]at h;obtain⟨I,_⟩:=Da h
   refine⟨_,_,I,λC X k=>?_⟩
   obtain⟨O,_⟩:=oa h;have hb:Nat.blt d N=true:=iF O;simp[zh,E,D,gI,hb,aq]
 ·cases h
def ahR{x:A}{k:A->aj X}(h:Kd x k=some r):k x=some r/\∀ u,RA w B af ρ x u->∃ ad,u = .pointer (some ad):=by
 unfold Kd at h;split at h
 ·exact⟨h,λu C=>by obtain⟨b,off,_,rfl⟩:=C;exact⟨_,rfl⟩⟩
 ·exact⟨h,λu C=>by obtain⟨ad,rfl,_⟩:=C;exact⟨_,rfl⟩⟩
 ·exact⟨h,λu C=>by obtain⟨b,off,rfl,_⟩:=C;exact⟨_,rfl⟩⟩
 ·cases h
end
def o7(t:TypeId):Bool:=[999999,999999,50,999999,57,999999,999999,999999,999999,999999,39,999999,999999,999999,999999,999999].any (Nat.beq t)
def wM{X:Type}(P:Program)(N:Nat)(σ:S)(d:Nat)(t:TypeId)(len:Nat)(parts:aa (Nat×Operand))(k:S->aj X):aj X:=
 match uP P t with
 | some (e,tc)=>match zeroOf P e with
  | some z=>bif Nat.beq z.cells.size (aB tc)&&Nat.blt (len*aB tc) 16777217 then (match yI (λi=>some (i*aB tc,aB tc)) (List.replicate len (z.cells.toList.map nv)).flatten (parts.map λp=>(p.1,aI σ p.2))with
   |some cs=>bif Nat.beq len 0 then gI N σ d (.sl (.sl tc (full tc+2) true [])) (.lf (.own [d])) k else gI N σ d (.ay (cs.map (Lf.drop d))) (.pk d len) k
   |none=>none)else none
  |none=>none
 |none=>none
def A6{X:Type}(N:Nat)(σ:S)(d r C:Nat)(tc:TC)(n:Nat)(k:S->aj X):aj X:=
 match σ.m C,σ.m r with
 | some (.ay cs),some (.sl (.sl D (o+2) q l))=>if h:D=tc then (match gH r (λj=>(j % aB tc) :: (l.length+j / aB tc) :: aB tc :: [r]) cs.length 0 cs σ with
  | some (E,I)=>(match Fw tc o n E with
   |some l2=>bif Nat.blt d N&&cv (l.length+l2.length)then k (((I.drop r).root r (.sl (.sl tc (o+2) false ((h ▸ l)++l2)))).set d (.lf (.own [r])))else none
   |none=>none)
  |none=>none)else none
 |_,_=>none
def F3{X:Type}(P:Program)(N:Nat)(σ:S)(d:Nat)(t:TypeId)(x y:A)(k:S->aj X):aj X:=
 match uP P t,y with
 | some (e,tc),.pk C n=>bif (zeroOf P e).any (λz=>Nat.beq z.cells.size (aB tc))&&(Nat.blt d N&&Nat.blt n qv)then (match x with
  |.lf (.v .nil)=>A6 N ((σ.drop d).root d (.sl (.sl tc (full tc+2) false []))) d d C tc n k
  |.lf (.own [r])=>bif Nat.blt r N ||Nat.ble 60000 r then A6 N σ d r C tc n k else none
  |_=>none)else none
 |_,_=>none
def tM{X:Type}(P:Program)(σ:S)(t:TypeId)(x y:A)(k:S->aj X):aj X:=
 match jg P t,y.yB,x with
 | some n,some xs,.ptr [j,i,s,r]=>if xs.length=n then (bif xs.all Lf.live then (match gH r (λm=>(j+m) :: i :: s :: [r]) xs.length 0 xs σ with
  | some (E,D)=>(match D.m r with
   | some (.sl (.sl C (o+2) I l))=>if s=aB C then (if h:i<l.length then (if j+n<=aB C then (match dec C o (splice (enc C o l[i]) j E)with
    |some e=>k (D.cX [r] [] [(r,.sl (.sl C (o+2) I (l.set i e)))])
    |none=>none)else none)else none)else none
   |_=>none)
  |none=>none)else none)else none
 |_,_,_=>none
def wN(x y:A):Bool:=match x,y.yB with
 |.ptr _,some xs=>(qy xs).isNone
 |_,_=>false
section
variable {P:Program} {w w':World} {w0:Wd} {B N:Nat} {af az:bk} {ρ ρ':Nat->Loc} {σ:S} {a:Act} {X:Type} {d:Nat} {r:X} {o:Oper}
def Xy{place:Nat -> aj (Nat×Nat)}:∀ (parts:aa (Nat×A)) (cells out:aa Lf),yI place cells parts=some out -> out.length=cells.length
 |[],cells,out,h=>by injection h with h;rw[h]
 | (i,x) :: rest,cells,out,h=>by
  unfold yI at h;split at h
  ·rename_i off n xs C D;split at h
   ·rename_i E;cases hl:xs.all _ with
    | true=>
     rw[hl]at h;rw[Xy rest _ _ h,s7 _ _ _ (by omega)]
    |false=>simp_all
   ·cases h
  ·cases h
def ahS{t:TypeId}{len:Nat}{parts:Array (Nat×Operand)}{k:S -> aj X}(h:wM P N σ d t len parts.toList k=some r):∃ cG,k cG=some r /\ ∀ af ρ a w,Rl w0 N af ρ σ a w ->
  ∃w' az ρ' v,(Instr.buildSlice t len (parts.map λ(i,x)=>(i,a.eval x))).run P w = .ok v w'/\Rl w0 N az ρ' cG (a.put (some d) v) w':=by
 unfold wM at h;split at h
 ·rename_i e tc oc;obtain⟨fS,ht,i,hi,T,jC⟩:=yG oc;split at h
  ·rename_i z hz;cases U:(Nat.beq z.cells.size (aB tc)&&Nat.blt (len*aB tc) 16777217)with
   |false=>rw[U]at h;cases h
   | true=>
    rw[U,aq]at h;rw[aJ]at U;have mI:=cE U.1;have hsm:len*aB tc<16777217:=by have:=cr U.2;omega
    have od:i.zero=some z:=by unfold zeroOf at hz;simpa [hi]using hz
    split at h
    ·rename_i cs gj;have key:∀ af ρ (a:Act) w,Rl w0 N af ρ σ a w -> ∃ C,(Instr.buildSlice t len (parts.map λ(i,x)=>(i,a.eval x))).run P w = .ok (.slice (some ⟨w.heap.size,0,none⟩) len len) (w.alloc (.cells C e))/\ez w w0.heap.size af ρ cs C/\C.size=cs.length:=λaf ρ a w hR=>by
      have Pa:ez w w0.heap.size af ρ (List.replicate len (z.cells.toList.map nv)).flatten (madeCells z.cells (len*aB tc)):=by
       have e1:(List.replicate len (z.cells.toList.map nv)).flatten=((List.replicate len z.cells.toList).flatten).map nv:=by
        rw[List.map_flatten,List.map_replicate]
       rw[e1,<- Wy z.cells (aB tc) len mI (nW tc)]
       refine⟨by simp,λj x D=>?_⟩
       rw[dW]at D;cases O:(madeCells z.cells (len*aB tc)).toList[j]? with
       |none=>rw[O]at D;cases D
       | some v=>
        rw[O]at D;injection D with D;subst D;exact⟨v,by simpa using O,JG v⟩
      obtain⟨C,wu,hl⟩:=JL (w:=w) (B:=w0.heap.size) (af:=af) (ρ:=ρ) _ _ _ (parts.toList.map λp=>(p.1,a.eval p.2)) cs gj Pa (by simp) (λj p q E Y=>by
       rw[dW]at E Y;cases D:parts.toList[j]? with
       |none=>rw[D]at E;cases E
       | some x=>
        rw[D]at E Y;injection E with E;injection Y with Y;subst E Y;exact⟨rfl,hR.aI x.2⟩)
      have Z:(Instr.buildSlice t len (parts.map λ(i,x)=>(i,a.eval x))).run P w = .ok (.slice (some ⟨w.heap.size,0,none⟩) len len) (w.alloc (.cells C e)):=by
       have Fz:(parts.map λ(i,x)=>(i,a.eval x)).toList=parts.toList.map λp=>(p.1,a.eval p.2):=by simp
       by_cases h0:len*aB tc=0
       ·have hm:madeCells z.cells (len*aB tc) = #[]:=by rw[h0];simp[madeCells]
        rw[hm]at wu;have Pb:len*i.size=0:=by rw[T];exact h0
        rw[<- T]at wu;have e0:∀f:Nat -> Value,Array.map f (Array.range 0) = #[]:=λf=>by simp
        simp only[Instr.buildSlice,fQ,gB fS,sizeOf,typeInfo];simp[hi,Pb];rw[e0,wu];simp[newRow]
       ·exact run_buildSlice (P:=P) w t e len _ C i z fS hi od (by rw[T];omega) (by rw[T];exact h0) (by rw[T,Fz];exact wu)
      exact⟨C,Z,hl,hl.1⟩
     cases nu:Nat.beq len 0 with
     | true=>
      rw[nu,aq]at h;have hln:=cE nu;subst hln;obtain⟨hd,h⟩:=oa h
      refine⟨_,h,λaf ρ a w hR=>?_⟩
      obtain⟨C,Z,hl,hcz⟩:=key af ρ a w hR;have qH:cs.length=0:=by
       have h1:=Xy _ _ _ gj;rw[h1];simp
      refine⟨_,bG af w.heap.size (some [d]),bG ρ d (.dn (.slice (some ⟨w.heap.size,0,none⟩) 0 0)),_,Z,(hR.CO (hR.cD d (.inl hd)) (λr I=>cc _ _ _ I) (.sl _ _ (bJ _ _ _) ?_)).set ⟨rfl,by simp[cF,bJ]⟩ hd⟩
      exact RV.own (w:=w.alloc (.cells C e)) (B:=w0.heap.size) (af:=bG af w.heap.size (some [d])) [d] tc (full tc) true [] w.heap.size 0 C (λ_ _=>undef)
       (bJ _ _ _) (by rw[ht];exact heap_alloc_new w _) (by omega) (dz _) ⟨by unfold maxLen;omega,λ_=>rfl⟩ (λi' h'=>absurd h' (by simp)) (λi' h'=>absurd h' (by simp))
     |false=>
     rw[nu,av]at h;obtain⟨hd,h⟩:=oa h
     refine⟨_,h,λaf ρ a w hR=>?_⟩
     obtain⟨C,Z,hl,_⟩:=key af ρ a w hR
     refine⟨_,bG af w.heap.size (some [d]),bG ρ d (.ay w.heap.size 0),_,Z,(hR.CO (hR.cD d (.inl hd)) (λr I=>cc _ _ _ I) ?_).set ⟨w.heap.size,bJ _ _ _,(OG (by have:=Nat.le_mul_of_pos_right len (nW tc);unfold qv;omega)).symm⟩ hd⟩
     have h1:ez (w.alloc (.cells C e)) w0.heap.size (bG af w.heap.size (some [d])) ρ cs C:=
      hl.iW (by simp) (λb hb=>⟨Below.heap_alloc w _ b hb,cc _ _ _ (by omega)⟩) (λb k hb=>(hR.cL b k hb).2.1)
     have h2:=h1.eP (ρ':=bG ρ d (.ay w.heap.size 0)) (d:=d) (λr I=>cc _ _ _ I)
     refine .ay w.heap.size 0 C e _ (λj=>C.getD j undef) (bJ _ _ _) (bJ _ _ _) (heap_alloc_new w _) (by rw[h2.1];omega) λj y hy=>?_
     obtain⟨v,O,I⟩:=h2.2 j y hy;have hg:C.getD j undef=v:=by rw[gN,O];rfl
     rw[hg,ff];exact⟨O,I⟩
    ·cases h
  ·cases h
 ·cases h
def ahT{t:TypeId}{len:Nat}{parts:aa (Nat×Operand)}{k:S -> aj X}(h:wM P N σ d t len parts k=some r):∃ y u,k (((σ.drop d).root d y).set d u)=some r /\
  (∀(C:S),(∀p∈parts,aI C p.2=aI σ p.2) -> lY (λX k=>wM (X:=X) P N C d t len parts k) (((C.drop d).root d y).set d u)):=by
 unfold wM at h;split at h
 ·rename_i e tc Z;split at h
  ·rename_i z hz;cases D:(Nat.beq _ _&&Nat.blt _ 16777217)with
   |false=>rw[D]at h;cases h
   | true=>
    rw[D]at h;split at h
    ·rename_i cs gj;cases E:Nat.beq len 0 with
     | true=>
      rw[E,aq]at h;obtain⟨I,_⟩:=Da h
      refine⟨_,_,I,λC O X k=>?_⟩
      obtain⟨T,_⟩:=oa h;have U:Nat.blt d N=true:=iF T;have e:(parts.map λp=>(p.1,aI C p.2))=parts.map λp=>(p.1,aI σ p.2):=List.map_congr_left λp Y=>by rw[O p Y]
      simp only[wM,Z,hz,D,aq,e,gj,gI,U,E]
     | false=>
      rw[E,av]at h;obtain⟨I,_⟩:=Da h
      refine⟨_,_,I,λC O X k=>?_⟩
      obtain⟨T,_⟩:=oa h;have U:Nat.blt d N=true:=iF T;have e:(parts.map λp=>(p.1,aI C p.2))=parts.map λp=>(p.1,aI σ p.2):=List.map_congr_left λp Y=>by rw[O p Y]
      simp only[wM,Z,hz,D,aq,e,gj,gI,U,E,av]
    ·cases h
  ·cases h
 ·cases h
def Xz{t e ty:TypeId}{tc:TC}{i:TypeInfo}{z:Value}{rr ry n:Nat}{k:S -> aj X}(fS:P.underlying t=some (.slice e))(ht:tid tc=e)(hi:P.info? e=some i)(hz:i.zero=some z)
  (gZ:i.size=aB tc) (jC:i.bytes <= 65536) (mI:z.cells.size=aB tc) (h:A6 N σ d rr ry tc n k=some r):∃cG,k cG=some r /\ ∀af ρ a w,Rl w0 N af ρ σ a w -> w0.F rr=none -> ∀u v b,ρ rr = .dn u -> ρ ry = .ay b 0 -> v = .slice (some ⟨b,0,none⟩) n n ->
  ∃w' az ρ' z,(Builtin.append_ #[t,t] ty #[u,v]).run P w = .ok z w'/\Rl w0 N az ρ' cG (a.put (some d) z) w':=by
 unfold A6 at h;split at h
 ·rename_i cs E o q l Qt hr;split at h
  ·rename_i mR;subst mR;split at h
   ·rename_i vs τ Qu;split at h
    ·rename_i l2 kM;cases U:(Nat.blt d N&&cv (l.length+l2.length))with
     |false=>rw[U]at h;cases h
     | true=>
      rw[U,aq]at h;rw[aJ]at U;have Fs:l.length+l2.length<1073741824:=by simpa [cv]using U.2
      have hd:d<N:=by have:=cr U.1;omega
      refine⟨_,h,λaf ρ a w hR hF u v b ahU ahV O=>?_⟩
      subst O;have Y:=hR.root ry _ Qt;generalize C:aP.ay cs=x at Y;cases Y with
      |sl=>cases C
      |mp=>cases C
      |gh=>cases C
      | ay b' off cells e' eM us bV oU hh hs hc=>
       injection C with C;subst C;rw[ahV]at bV;injection bV with e1 e2;subst e1 e2;have kf:ez w w0.heap.size af ρ cs ((List.range cs.length).map us).toArray:=by
        refine⟨by simp,λj x I=>?_⟩
        have D:j<cs.length:=(dA.1 I).1;exact⟨us j,by simp[D],(hc j x I).2⟩
       obtain⟨az,dc,AM,Kg,_,mQ,kL,_,_⟩:=JC (w0:=w0) (N:=N) (λj=>by simp[cz]) _ _ _ _ _ _ Qu af ρ a w hR _ kf;obtain⟨JO,ahW,ic⟩:=O9 E o n vs l2 kM;have wo:cs.length=n*aB E:=by rw[<- AM,ahW]
       have oe:∀ j,j<cs.length -> (us j).oneCell'=true:=by
        intro j D;have I:=bH (by rw[AM];exact D);obtain⟨u',uN,T⟩:=Kg j _ I;have:u'=us j:=by simpa [D]using uN.symm
        rw[<- this];exact T.one
       have Qv:b<w.heap.size:=(hU.1 hh).1;have tq:Reads w w.heap.size (aB E) (some ⟨b,0,none⟩) n ((List.range cs.length).map us):=by
        refine⟨by simp[wo],λhn=>⟨b,0,rfl,Qv,λj v O=>?_⟩⟩
        have D:j<cs.length:=by have:=(dA.1 O).1;simpa using this
        have:v=us j:=by simpa [D]using O.symm
        subst this;rw[cell_of_row w b _ cells _ _ hh];simp_all
       have gy:tv w w0.heap.size az rr l.length E o l2 ((List.range cs.length).map us):=by
        intro Z F1 j x I;have D:j<aB E:=by have:=(dA.1 I).1;rwa [ke]at this
        obtain⟨y,Y,hw⟩:=ic Z F1 j x I;obtain⟨u',uN,T⟩:=Kg _ _ Y;refine⟨u',uN,?_⟩;have e1:(0+(Z*aB E+j)) % aB E=j:=by rw[ff,Nat.add_comm,Nat.add_mul_mod_self_right,Nat.mod_eq_of_lt D]
        have e2:(0+(Z*aB E+j)) / aB E=Z:=by rw[ff,Nat.add_comm,Nat.add_mul_div_right _ _ (nW E),Nat.div_eq_of_lt D,ff]
        simp only[e1,e2]at T;exact T.wk hw
       have A7:=dc.root rr _ (mQ _ hr);generalize C:aP.sl (.sl E (o+2) q l)=x at A7;cases A7 with
       |ay=>cases C
       |mp=>cases C
       |gh=>cases C
       | sl uu y iK T=>
        injection C with C;subst C;rw[ahU]at iK;injection iK with iK;subst iK;obtain⟨v',w',dj,dV,ki,fR⟩:=dc.agA (ty:=ty) (c:=n) hF fS ht hi hz gZ jC mI T tq (λv O=>by
         obtain⟨j,D⟩:=List.mem_iff_getElem?.1 O;have Fv:j<cs.length:=by have:=(dA.1 D).1;simpa using this
         have:v=us j:=by simpa [Fv]using D.symm
         rw[this];exact oe j Fv) JO.symm gy Fs
        exact⟨w',dj,_,v',dV,ki.set ⟨fR,by simp[cF,bJ]⟩ hd⟩
    ·cases h
   ·cases h
  ·cases h
 ·cases h
def ahX{rr C n:Nat}{tc:TC}:cm λX k=>A6 (X:=X) N σ d rr C tc n k:=λX Y k g=>by
 unfold A6
 repeat' first|rfl|refine cS ?_ ?_|split
def ahY{t ty:TypeId}{x y:A}{k:S -> aj X}(h:F3 P N σ d t x y k=some r):∃ C,k C=some r /\ ∀ af ρ a w,Rl w0 N af ρ σ a w -> ∀ u v,RA w w0.heap.size af ρ x u -> RA w w0.heap.size af ρ y v ->
  ∃w' az ρ' z,(Builtin.append_ #[t,t] ty #[u,v]).run P w = .ok z w'/\Rl w0 N az ρ' C (a.put (some d) z) w':=by
 unfold F3 at h;split at h
 ·rename_i e tc ry n oc;obtain⟨fS,ht,i,hi,gZ,jC⟩:=yG oc;cases E:((zeroOf P e).any (λz=>Nat.beq z.cells.size (aB tc))&&(Nat.blt d N&&Nat.blt n qv))with
  |false=>simp_all
  | true=>
   rw[E,aq]at h;rw[aJ]at E;obtain⟨z,hz,I⟩:=(Option.any_eq_true _ _).1 E.1;have I:=cE I;have od:i.zero=some z:=by unfold zeroOf at hz;simpa [hi]using hz
   have O:=E.2;rw[aJ]at O;have hd:d<N:=by have:=cr O.1;omega
   have lF:n<qv:=by have:=cr O.2;omega
   split at h
   ·obtain⟨C,T,U⟩:=Xz (w0:=w0) (ty:=ty) fS ht hi od gZ jC I h
    refine⟨C,T,λaf ρ a w hR u v D Y=>?_⟩
    have D:u = .slice none 0 0:=by cases D.2;rfl
    subst D;obtain⟨b,hb,rfl⟩:=Y;have Qt:ry≠d:=by
     rintro rfl;unfold A6 at h;split at h
     ·simp_all
     ·cases h
    have Qx:=hR.new (d:=d) (x:=.sl (.sl tc (full tc+2) false [])) (.dn (.slice none 0 0)) (.sl _ _ (bJ _ _ _) (.dX _ _ _)) (hR.cD d (.inl hd));exact U _ _ a w Qx (hR.cD d (.inl hd)) _ _ b (bJ _ _ _) ((cc _ _ _ Qt).trans hb) (OG lF)
   ·rename_i rr;cases Z:(Nat.blt rr N || Nat.ble 60000 rr)with
    |false=>simp_all
    | true=>
     rw[Z,aq]at h;rw[dS]at Z;have mQ:rr<N \/ 60000 <= rr:=Z.imp (λh=>by have:=cr h;omega) (λh=>cr h);obtain⟨C,T,U⟩:=Xz (w0:=w0) (ty:=ty) fS ht hi od gZ jC I h
     refine⟨C,T,λaf ρ a w hR u v D Y=>?_⟩
     obtain⟨b,hb,rfl⟩:=Y;have bV:ρ rr = .dn u:=by
      have h4:=D.2;simp only[cF]at h4;cases hl:ρ rr with
      |ay b o=>simp_all
      |bB us=>simp_all
      |dn v=>simp_all
     exact U af ρ a w hR (hR.cD rr mQ) _ _ b bV hb (OG lF)
   ·cases h
 ·cases h
def ahZ{t:TypeId}{x y:A}:cm λX k=>F3 (X:=X) P N σ d t x y k:=λX Y k g=>by
 unfold F3
 repeat' first|rfl|exact ahX _ _ _ _|refine cS ?_ ?_|split
def ah0{t:TypeId}{x y:A}{k:S -> aj X}(h:tM P σ t x y k=some r):∃ cG,k cG=some r /\ ∀ af ρ a w,Rl w0 N af ρ σ a w -> ∀ u v,RA w w0.heap.size af ρ x u -> RA w w0.heap.size af ρ y v ->
  ∃w' az,(Instr.storeAt t u v).run P w = .ok () w'/\Rl w0 N az ρ cG a w':=by
 unfold tM at h;split at h
 ·rename_i n xs j i s rr hn n9;split at h
  ·rename_i hlen;cases Qy:xs.all Lf.live with
   |false=>rw[Qy]at h;cases h
   | true=>
    rw[Qy,aq]at h;split at h
    ·rename_i vs τ Qu;split at h
     ·rename_i C o' qn l gQ;split at h
      ·rename_i n6;split at h
       ·rename_i hi;split at h
        ·rename_i hj;split at h
         ·rename_i e he
          refine⟨_,h,λaf ρ a w hR u v hu hv=>?_⟩
          obtain⟨ad,rfl,I⟩:=hu;obtain⟨hl,oe⟩:=Fi n9 Qy hv;have kf:ez w w0.heap.size af ρ xs v.cells.toList.toArray:=by simpa using hl
          obtain⟨az,dc,AM,Kg,_,mQ,kL,at9,_⟩:=JC (w0:=w0) (N:=N) (λm=>by simp[cz]) _ _ _ _ _ _ Qu af ρ a w hR _ kf;simp only[addrAt]at I;split at I
          ·rename_i b n0 c0 bV;split at I
           ·rename_i oU;injection I with I;subst I;have A7:=dc.root rr _ gQ;generalize D:aP.sl (.sl C (o'+2) qn l)=x at A7;cases A7 with
            |ay=>cases D
            |mp=>cases D
            |gh=>cases D
            | sl uu y iK fo=>
             injection D with D;subst D;rw[bV]at iK;injection iK with iK;subst iK;cases fo with
             |aG _ _ _ _ _ _ _ _ _ ho=>omega
             |fy=>simp at hi
             |fJ=>simp at hi
             | own _ _ _ _ _ _ cap cs us Kh hh hs uL hm hc hr=>
              subst n6;have Qz:v.cells.size=n:=by rw[hl.1,hlen]
              have vY:i*aB C+aB C <= c0*aB C:=by
               have:(i+1)*aB C <= c0*aB C:=iB _ (by omega);rw[iC]at this;exact this
              have lX:i*aB C+j+v.cells.toList.length <= cs.size:=by rw[kW,Qz,hs];omega
              have T:=Ju w b (i*aB C+j) v.cells.toList;obtain⟨Z,gy,nq⟩:=E2 b (tid C) v.cells.toList (i*aB C+j) w cs hh lX;have ta:∀ m,Z[m]?=if m<i*aB C+j then cs[m]? else if m<i*aB C+j+n then v.cells[m-(i*aB C+j)]? else cs[m]?:=by
               intro m;have e2:Z[m]?=(splice cs.toList (i*aB C+j) v.cells.toList)[m]?:=by
                rw[show Z[m]?=Z.toList[m]? by simp,nq];rfl
               rw[e2,vX _ _ _ (by simpa using lX),kW,Qz];simp
              have Fc:Z.size=cs.size:=by
               rw[<- kW,nq];have:=s7 cs.toList (i*aB C+j) v.cells.toList (by simpa using lX);simp only[splice]at this;simp_all
              have Qv:b<w.heap.size:=(hU.1 hh).1;have hz:w.heap.size <= (w.setCells b (i*aB C+j) v.cells.toList).heap.size:=Nat.le_of_eq T.size.symm;have QA:∀E,E<w.heap.size -> az E≠some [rr] -> (w.setCells b (i*aB C+j) v.cells.toList).heap[E]?=w.heap[E]?:=λE _ ck=>T.block E (by rintro rfl;exact ck Kh)
              have Fj:w.there b (i*aB C+j) v.cells.size:=by
               intro m rN;refine⟨?_,frozen_of_row w b _ cs _ hh⟩;rw[cell_of_row w b _ cs _ _ hh];simp;omega
              have jJ:vs.length=n:=by rw[AM,hlen]
              refine⟨_,az,OR w b _ t v Fj (by rw[Qz];exact hn) oe,dc.tG (ns:=[rr]) (cn:=[]) (eR:=ρ) (dj:=az) ⟨hz,λE wh U=>⟨T.block E ?_,rfl⟩,λ_ _=>rfl,λE k U=>(dc.cL E k U).2⟩
               ⟨T.os,T.tape,T.output,hz,λk U hL=>T.block k ?_⟩ (λE k U=>?_) (λr hr=>by cases hr) (λr0 x D=>?_)⟩
              ·rintro rfl;have:=U _ Kh;simp[fK,cM]at this
              ·rintro rfl;rcases(dc.cL k _ Kh).1 with h1 | h1
               ·exact absurd U (Nat.not_lt.2 h1)
               ·exact h1 hL
              ·have:=dc.cL E k U;exact⟨this.1,Nat.lt_of_lt_of_le this.2.1 hz,this.2.2⟩
              ·have ij:r0=rr/\x = .sl (.sl C (o'+2) qn (l.set i e)):=by
                simp only[List.lookup]at D;split at D
                next wh=>injection D with D;exact⟨by simpa using wh,D.symm⟩
                ·cases D
               obtain⟨rfl,rfl⟩:=ij;refine .sl _ _ bV ?_
               refine RV.Jv (u:=us) (us:=λ_ m=>v.cells.getD (m-j) undef) (cs:=cs) (xs:=vs) Kh gy (Fc.trans hs) uL hm hi (by rw[jJ];exact hj) he (λO h' j' x Y Jw=>?_) (λm x Y=>?_)
               ·have rI:j'<aB C:=by have:=(dA.1 Y).1;rwa [ke]at this
                refine⟨?_,(hr O h' j' x Y).under (n:=r0) (.inl (by simp)) hz QA (λ_ _=>rfl)⟩
                rw[ta];have yz:¬ (¬ O*aB C+j'<i*aB C+j/\O*aB C+j'<i*aB C+j+n):=by
                 rintro⟨h1,h2⟩;rcases Nat.lt_trichotomy O i with c9|heq|CH
                 ·have:(O+1)*aB C <= i*aB C:=iB _ c9;rw[iC]at this;omega
                 ·subst heq;exact Jw ⟨rfl,by omega,by omega⟩
                 ·have:(i+1)*aB C <= O*aB C:=iB _ CH;rw[iC]at this;omega
                split
                ·exact hc O h' j' x Y
                ·rw[aW];exact hc O h' j' x Y
               ·obtain⟨v0,wj,th⟩:=Kg m x Y;have rN:m<n:=by rw[<- jJ];exact(dA.1 Y).1
                have JJ:v.cells[m]?=some v0:=by simpa using wj
                have CI:v.cells.getD (j+m-j) undef=v0:=by rw[show j+m-j=m by omega,gN,JJ];rfl
                show Z[_]?=some (v.cells.getD (j+m-j) undef)/\RV _ _ _ _ _ (v.cells.getD (j+m-j) undef);rw[CI,ta,aW,aV];rw[ff]at th
                refine⟨?_,th.under (n:=r0) (.inl (by simp)) hz QA (λ_ _=>rfl)⟩
                rw[show i*aB C+(j+m)-(i*aB C+j)=m by omega];exact JJ
           ·cases I
          ·cases I
         ·cases h
        ·cases h
       ·cases h
      ·cases h
     ·cases h
    ·cases h
  ·cases h
 ·cases h
def ah1{t:TypeId}{x y:A}:cm λX k=>tM (X:=X) P σ t x y k:=λX Y k g=>by
 unfold tM
 repeat' first|rfl|refine cS ?_ ?_|split
end
def Ki(P:Program)(f:Nat)(F:aa Int->aj Int):Prop:=
 ∀ (w:World) (l:aa (T .u8)) (h:Int) (v:Value),F l=some h->RV w w.heap.size (λ_=>none) [] (.sl .u8 0 false l) v->Hd w (λ_=>none)->Calls P f #[v] w λe w'=>
  ∃b off cells t,e = .returned (.pointer (some ⟨b,off,none⟩))/\Below w.heap.size w w'/\w.heap.size<=b/\w'.heap[b]?=some (.cells cells t (0,0))/\cells[off]?=some v/\cells[off+1]?=some (.int .i64 0)/\cells[off+2]?=some (.int .i64 h)
def F4{X:Type}(N:Nat)(σ:S)(d:Nat)(F:aa Int->aj Int)(x:A)(k:S->aj X):aj X:=
 match x with
 | .lf (.v (.sl .u8 0 q l))=>bif Nat.blt d N then (match F l with
  |some h=>k (((σ.drop (1000000000100000+1000*d)).root (1000000000100000+1000*d) (.ay [.v (.sl .u8 0 q l),.v (.int .i64 0),.v (.int .i64 h)])).set d (.aH (1000000000100000+1000*d) 0))
  |none=>none)else none
 |_=>none
structure A8 where
 a:Nat
 j:Nat
 t:TC
 run:List Pt->Option (Nat×Nat)
def tN(bB:Array Value)(a j:Nat):aj Value:=match bB[a]? with
 |some (.agg us)=>us[j]?
 |some u=>bif Nat.beq j 0 then some u else none
 |none=>none
def Kj(P:Program)(f:Nat)(c:A8):Prop:=
 ∀ (args:aa Pt) (p:Nat×Nat),c.run args=some p->∀ (w:World) (bB:Array Value),ot w args bB->Hd w (λ_=>none)->Calls P f bB w λe w'=>
  ∃A n cap,tN bB c.a c.j=some (.slice A n cap)/\p.1<=p.2/\p.2<=n/\e = .returned (sliced A p.1 p.2 cap (aB c.t))/\Below w.heap.size w w'
def XA(σ:S)(args:aa Operand)(a j:Nat):aj Lf:=match args[a]? with
 | some x=>(match aI σ x with
  |.agg cs=>cs[j]?
  |.lf l=>bif Nat.beq j 0 then some l else none
  |_=>none)
 |none=>none
def F5{X:Type}(N:Nat)(σ:S)(d:Nat)(c:A8)(args:aa Operand)(k:S->aj X):aj X:=
 bif Nat.blt d N then rR σ args λps=>(match c.run ps with
  | some p=>(match XA σ args c.a c.j with
   |some (.v (.sl t g _ l))=>if t=c.t then (bif Nat.blt g 2&&Nat.ble p.1 p.2&&Nat.ble p.2 l.length then k (σ.set d (.lf (.v (.sl t g false ((l.take p.2).drop p.1)))))else none)else none
   |_=>none)
  |none=>none)else none
structure tO where
 run:(X:Type)->Nat->S->List A->(S->A->Option X)->Option X
def Dc{α β:Type}(f:(X:Type)->(α->β->aj X)->aj X):Prop:=∀(X Y:Type) (k:α->β->aj X) (g:X->aj Y),(f X k).bind g=f Y λa b=>(k a b).bind g
def Dc.lA{α β:Type}{f:(X:Type)->(α->β->aj X)->aj X}(n:Dc f){X:Type}{k:α->β->aj X}{r:X}(h:f X k=some r):∃ a b,k a b=some r/\∀ (X:Type) (k:α->β->aj X),f X k=k a b:=by
 obtain⟨⟨a,b⟩,C,D⟩:=cm.lA (f:=λX (k:α×β->aj X)=>f X λa b=>k (a,b)) (λX Y k g=>n X Y _ g) (k:=λp=>k p.1 p.2) h;exact⟨a,b,C,λX k=>D X λp=>k p.1 p.2⟩
def qK(P:Program)(f:Nat)(c:tO):Prop:=(∀ N σ xs,Dc λX k=>c.run X N σ xs k)/\
 ∀ [Inhabited Wd] (N:Nat) (σ:S) (xs:aa A) (C:S) (y:A),c.run (S×A) N σ xs (λσ y=>some (σ,y))=some (C,y)->
  ∀ (w0:Wd) (af:bk) (ρ:Nat->Loc) (a:Act) (w:World) (bB:Array Value),Rl w0 N af ρ σ a w->bB.size=xs.length->(∀ i,RA w w0.heap.size af ρ ((xs[i]?).getD .undef) (bB.getD i undef))->
   Calls P f bB w λe w'=>∃v az ρ',e = .returned v/\Rl w0 N az ρ' C a w'/\RA w' w0.heap.size az ρ' y v
inductive o8 where
 |p (c:jh)
 |m (c:mV)
 |n (F:List Int->Option Int)
 |v (c:A8)
 |i (c:tO)
 |d (c:mV)
 |q (c:jh)
 |c (c:mV)
def QB(P:Program)(f:Nat):o8->Prop
 |.p c=>iL P f c
 |.m c=>uV P f c
 |.n F=>Ki P f F
 |.v c=>Kj P f c
 |.i c=>qK P f c
 |.d c=>uV P f c
 |.q c=>iL P f c
 |.c c=>uV P f c
section
variable {P:Program} {w w':World} {w0:Wd} {B N:Nat} {af dj az:bk} {ρ eR ρ':Nat->Loc} {σ:S} {a:Act} {X:Type} {d:Nat} {r:X} {ns cn:aa Nat} {o:Oper}
def XB:∀ (xs:aa Lf),cm λX k=>rW (X:=X) σ ns xs k
 |[]=>λ_ _ _ _=>rfl
 |x::xs=>λX Y k g=>cS ((C8.comp λy=>(XB xs).comp (b:=λX k ys=>k (y.fZ::ys)) λ_ _ _ _ _=>rfl) X Y k g) rfl
def XC{x:A}:cm λX k=>qJ (X:=X) σ ns x k:=λX Y k g=>by
 unfold qJ
 repeat' first|rfl|exact XB _ _ _ _ _|refine cS ?_ ?_|split
def Kk:∀ (ps:aa PK) (xs:aa Operand) (C:aa Mu),cm λX k=>jj (X:=X) σ ns ps xs C k:=λps=>by
 induction ps with
 |nil=>intro xs C X Y k g;cases xs<;>cases C<;>rfl
 | cons p ps D=>
  intro xs C X Y k g;cases xs with
  |nil=>cases p<;>cases C<;>rfl
  | cons x xs=>
   cases p with
   | v b t=>
    refine(XC _ _ _ _).trans (bx _ (funext λp=>cS ?_ rfl))
    split
    ·exact D _ _ _ _ _ _
    ·rfl
   | p t E o=>
    cases C with
    |nil=>rfl
    | cons m C=>cases m with
     |sl=>rfl
     | ay=>
      simp only[jj];split
      ·exact D _ _ _ _ _ _
      ·rfl
   | s t E=>
    cases C with
    |nil=>rfl
    | cons m C=>cases m with
     |ay=>rfl
     | sl=>
      simp only[jj];split
      ·exact D _ _ _ _ _ _
      ·rfl
def ah2{C:aj Tmp}{D:fO}:cm λX k=>oY (X:=X) N σ C D k:=λX Y k g=>by
 unfold oY
 repeat' first|rfl|exact Kb _ _ _ _|refine cS ?_ ?_|split
def QC{C:aj Tmp}{c:mV}{args:aa Operand}:cm λX k=>nE (X:=X) N σ C c args k:=λX Y k g=>by
 unfold nE;split
 ·refine cS ((Kk _ _ _ _ _ _ _).trans (bx _ (funext λx=>?_))) rfl
  split
  ·exact cS (ah2 _ _ _ _) rfl
  ·rfl
 ·rfl
def ah3{F:aa Int->aj Int}{x:A}:cm λX k=>F4 (X:=X) N σ d F x k:=λX Y k g=>by
 unfold F4
 repeat' first|rfl|refine cS ?_ ?_|split
def ah4{f:Nat}{x:Operand}{args:Array Operand}{U:Array TypeId}{F:aa Int -> aj Int}{k:S -> aj X}(ho:o.op = .call { callee:=.value (.func f),args,argTypes:=U })(hx:args.toList=[x])(hd:o.dst=some d)(he:enters P f)(hc:Ki P f F)(h:F4 N σ d F (aI σ x) k=some r):
  ∃Y,k Y=some r/\kK P w0 N o σ Y:=by
 unfold F4 at h;split at h
 ·rename_i q l hq;cases E:Nat.blt d N with
  |false=>rw[E]at h;cases h
  | true=>
   rw[E,aq]at h;have wB:d<N:=cr E;split at h
   ·rename_i Z hhz
    refine⟨_,h,λa w K Q hR hK=>?_⟩
    obtain⟨af,ρ,hR⟩:=hR;have I:=hR.aI x;rw[hq]at I;have wj:RV w w.heap.size (λ_=>none) [] (.sl .u8 0 false l) (a.eval x):=by
     have h0:RV w w.heap.size (λ_=>none) [] (.sl .u8 0 q l) (a.eval x):=I.2.fZ;cases q with
     |false=>exact h0
     |true=>exact h0.wk (.q _ _ _)
    unfold Oper.wp;rw[JU w o a f args U ho he,Oper.upon_enter];have wC:(args.map a.eval) = #[a.eval x]:=by apply Array.ext';rw[Array.toList_map,hx];rfl
    rw[wC]
    refine(hc w l _ _ hhz wj (w0.on hR.below (λ_ _ h=>by cases h))).mono λe w' qC=>?_
    obtain⟨b,off,cells,t,rfl,O,hb,hh,qH,QD,nq⟩:=qC;have hB:=hR.below.size;have ig:b<w'.heap.size:=(hU.1 hh).1;have rZ:Rl w0 N (bG af b (some [1000000000100000+1000*d])) ρ σ a w':=by
     refine hR.grow O (λc T=>cc _ _ _ (by omega)) (λc k T D=>?_)
     by_cases e:c=b
     ·subst e;rw[bJ]at D;injection D with D
      grind
     ·rw[cc _ _ _ e]at D;have:=(hR.cL c k D).2.1;omega
    have ki:=rZ.new (d:=1000000000100000+1000*d) (x:=.ay [.v (.sl .u8 0 q l),.v (.int .i64 0),.v (.int .i64 Z)]) (.ay b off) (by
     refine .ay b off cells t _ (λj=>(#[a.eval x,.int .i64 0,.int .i64 Z]:Array Value).getD j undef) (bJ _ _ _) (bJ _ _ _) hh (by
      have:=(hU.1 nq).1;simp;omega) (λj y C=>?_)
     have FF:dH w' w0.heap.size (bG af b (some [1000000000100000+1000*d])) (bG ρ (1000000000100000+1000*d) (.ay b off)) (.v (.sl .u8 0 q l)) (a.eval x):=by
      refine⟨rfl,I.2.iW O.size (λc T=>⟨O.block c T,cc _ _ _ (by omega)⟩)⟩
     match j,C with
     |0,C=>simp at C;subst C;exact⟨qH,FF⟩
     |1,C=>simp at C;subst C;exact⟨QD,rfl,.int _ _ _⟩
     |2,C=>simp at C;subst C;exact⟨nq,rfl,.int _ _ _⟩
     |j+3,C=>simp at C) (hR.cD _ (.inr (by omega)))
    rw[hd];exact hK _ _ ⟨_,_,ki.set ⟨b,off,bJ _ _ _,rfl⟩ wB⟩
   ·cases h
 ·cases h
def ah5{f:Nat}{args:Array Operand}{T:Array TypeId}{c:A8}{k:S -> aj X}(ho:o.op = .call { callee:=.value (.func f),args,argTypes:=T })(hd:o.dst=some d)(he:enters P f)(hc:Kj P f c)(h:F5 N σ d c args.toList k=some r):∃ U,k U=some r/\kK P w0 N o σ U:=by
 unfold F5 at h;cases Y:Nat.blt d N with
 |false=>grind
 | true=>
  rw[Y,aq]at h;have wB:d<N:=by have:=cr Y;omega
  obtain⟨ps,E,lD⟩:=WL (w0:=w0) (N:=N) _ _ h;split at E
  ·rename_i p hp;split at E
   ·rename_i t g q l hl;split at E
    ·rename_i mR;cases hb:(Nat.blt g 2&&Nat.ble p.1 p.2&&Nat.ble p.2 l.length)with
     |false=>grind
     | true=>
      rw[hb,aq]at E;rw[aJ,aJ]at hb;have Z:g<2:=by have:=cr hb.1.1;omega
      have o9:=cr hb.1.2;have h2l:=cr hb.2
      refine⟨_,E,λa w K Q hR hK=>?_⟩
      obtain⟨af,ρ,hR⟩:=hR;unfold Oper.wp;rw[JU w o a f args T ho he,Oper.upon_enter];have wC:(args.map a.eval)=(args.toList.map a.eval).toArray:=by apply Array.ext';rw[Array.toList_map]
      rw[wC]
      refine(hc ps p hp w _ (lD af ρ a w hR) (w0.on hR.below (λ_ _ h=>by cases h))).mono λe w' qC=>?_
      obtain⟨A,n,cap,C,hle,hn,rfl,O⟩:=qC;have jI:RV w w0.heap.size af [] (.sl t g q l) (.slice A n cap):=by
       unfold XA at hl;split at hl
       ·rename_i x hx;have QE:((args.toList.map a.eval).toArray)[c.a]?=some (a.eval x):=by
         rw[List.getElem?_toArray,dW,hx];rfl
        unfold tN at C;rw[QE]at C;have D:=hR.aI x;split at hl
        next cs gj=>rw[gj]at D;obtain⟨us,kf,QF⟩:=D;rw[kf]at C;obtain⟨u,I,hr⟩:=QF.2 _ _ hl;simp only at C;rw[C]at I;injection I with I;subst I;exact hr.2
        ·rename_i lf wA;rw[wA]at D;cases hj:Nat.beq c.j 0 with
         |false=>grind
         | true=>
          rw[hj]at hl C;injection hl with hl;subst hl;have D:dH w w0.heap.size af ρ (.v (.sl t g q l)) (a.eval x):=D;have ve:∀ us,a.eval x ≠ .agg us:=by
           intro us e;rw[e]at D;cases D.2
          generalize a.eval x=z at C D ve;cases z<;>first|exact absurd rfl (ve _)|(simp only[aq,ia]at C;cases C;exact D.2)|(simp only[aq,ia]at C;cases C)
        ·cases hl
       ·cases hl
      obtain⟨QG,yO,Pf⟩:=jI.part (a:=p.1) (h:=p.2) Z o9 h2l;subst mR;rw[hd];have dc:=hR.grow O (az:=af) (λ_ _=>rfl) (λb k hb hk=>absurd (hR.cL b k hk).2.1 (Nat.not_lt.2 hb));refine hK _ _ ⟨af,ρ,dc.set ⟨by simp[V.aG,Z],?_⟩ wB⟩;exact QG.iW O.size λb hb=>⟨O.block b hb,rfl⟩
    ·cases E
   ·cases E
  ·cases E
def ah6{c:A8}{args:aa Operand}:cm λX k=>F5 (X:=X) N σ d c args k:=λX Y k g=>by
 unfold F5
 refine cS ((Db _ _ _ _).trans (bx _ (funext λps=>?_))) rfl
 repeat' first|rfl|refine cS ?_ ?_|split
/-! Calls of functions that are run in the state of their caller. -/
def F6{X:Type}(N:Nat)(σ:S)(C:aj Tmp)(c:tO)(xs:aa A)(k:S->aj X):aj X:=c.run X N σ xs λD y=>gG N D C y k
def ah7(p:Nat×Nat):A:=.aH p.1 p.2
def F7(σ:S):aa Operand->aj (aa (Nat×Nat))
 |[]=>some []
 | x :: xs=>match aI σ x,F7 σ xs with
  |.aH r j,some ps=>some ((r,j)::ps)
  |_,_=>none
def ah8(w:World)(o:Oper)(a:Act)(f:Nat)(cl:Operand)(C:Array Value)(args:Array Operand)(E:Array TypeId)(I:o.op = .call { callee:=.value cl,args,argTypes:=E })(O:a.eval cl = .func (.func f) #[] C)(T:enters P f):
  (execOp a.eval o).run P w = .ok (.enter f (args.map a.eval++C)) w:=by
 obtain⟨fn,U,Y,D⟩:=T;have Z:¬ fn.name = "runtime.NumGoroutine":=by simpa using Y
 have h3':¬ fn.body=none:=by intro e;rw[e]at D;cases D
 simp[execOp,I,resolve,O,Deferred.ofValue,invoke,callFunc,Sem.run,U,Z,h3']
def Kl:A->aj (Nat×aa A)
 |.fn f cap=>some (f,cap.map ah7)
 |.mO f cs=>some (f,[.iX cs])
 |_=>none
def ah9{x:A}{f:Nat}{ex:aa A}{u:Value}(h:Kl x=some (f,ex))(T:RA w B af ρ x u):∃ D:Array Value,u = .func (.func f) #[] D/\D.size=ex.length /\ ∀ (j:Nat) y,ex[j]?=some y -> RA w B af ρ y (D.getD j undef):=by
 unfold Kl at h;split at h
 ·rename_i f' cap;injection h with h;injection h with E I;subst E I;obtain⟨D,U,Y,Z⟩:=T
  refine⟨D,U,by simp[Y],λj y C=>?_⟩
  rw[dW]at C;cases O:cap[j]? with
  |none=>simp_all
  | some p=>
   rw[O]at C;injection C with C;subst C;obtain⟨b,off,E,I⟩:=Z _ p O;rw[gN,I];exact⟨b,off,E,rfl⟩
 ·injection h with h;injection h with E I;subst E I;obtain⟨pv,e,O⟩:=T
  refine⟨#[pv],e,rfl,λj y C=>?_⟩
  rcases j with _|j
  ·injection C with C;subst C;exact O
  ·cases C
 ·cases h
def XD{f:Nat}{cl:Operand}{ex:aa A}{args:Array Operand}{Z:Array TypeId}{c:tO}{k:S->aj X}(ho:o.op = .call { callee:=.value cl,args,argTypes:=Z })(wo:Kl (aI σ cl)=some (f,ex))(he:enters P f)(hc:qK P f c)
  (h:F6 N σ o.dst c (args.toList.map (aI σ)++ex) k=some r):∃cG,k cG=some r/\kK P w0 N o σ cG:=by
 unfold F6 at h
 haveI:Inhabited Wd:=⟨w0⟩
 obtain⟨o6,y,C,D⟩:=(hc.1 _ _ _).lA h;have FK:=hc.2 _ _ _ _ _ (D _ _);have step:∀ a w K Q,R w0 N σ a w->(∀ v w' az ρ',Rl w0 N az ρ' o6 a w'->RA w' w0.heap.size az ρ' y v->K (a.put o.dst v) w')->o.wp P a w K Q:=by
  intro a w K Q hR E;obtain⟨af,ρ,hR⟩:=hR;obtain⟨O,hv,hs,jJ⟩:=ah9 wo (hR.aI cl);unfold Oper.wp;rw[ah8 w o a f cl O args Z ho hv he,Oper.upon_enter]
  refine(FK w0 af ρ a w _ hR (by simp[hs]) λi=>?_).mono λe w' qC=>?_
  ·by_cases hi:i<args.size
   ·have e1:(args.toList.map (aI σ)++ex)[i]?=some (aI σ args[i]):=by
     rw[List.getElem?_append_left (by simpa using hi),dW,Array.getElem?_toList,Array.getElem?_eq_getElem hi];rfl
    have T:(args.map a.eval++O).getD i undef=a.eval args[i]:=by
     rw[gN,Array.getElem?_append_left (by simpa using hi)];simp[hi]
    rw[e1,T];exact hR.aI _
   ·have e0:(args.toList.map (aI σ)++ex)[i]?=ex[i-args.size]?:=by
     rw[List.getElem?_append_right (by simp;omega)];simp
    rw[e0];cases hp:ex[i-args.size]? with
    |none=>trivial
    | some p=>
     have T:(args.map a.eval++O).getD i undef=O.getD (i-args.size) undef:=by
      rw[gN,Array.getElem?_append_right (by simp;omega),gN];simp
     rw[T];exact jJ _ p hp
  ·obtain⟨v,az,ρ',rfl,I,U⟩:=qC;exact E v w' az ρ' I U
 unfold gG at C;split at C
 ·rename_i D
  refine⟨o6,C,λa w K Q hR E=>step a w K Q hR λv w' az ρ' I _=>?_⟩
  rw[D];exact E _ _ ⟨az,ρ',I⟩
 ·rename_i d D;cases Y:Nat.blt d N with
  |false=>rw[Y]at C;cases C
  | true=>
   rw[Y,aq]at C
   refine⟨_,C,λa w K Q hR E=>step a w K Q hR λv w' az ρ' I U=>?_⟩
   rw[D];exact E _ _ ⟨az,ρ',I.set U (by have:=cr Y;omega)⟩
def XE:∀ (xs:aa Operand) (ps:aa (Nat×Nat)),F7 σ xs=some ps -> ps.length=xs.length /\ ∀ af ρ a w,Rl w0 N af ρ σ a w -> ∀ (j:Nat) p,ps[j]?=some p -> ∃ b off,ρ p.1 = .ay b off/\(xs.map a.eval)[j]?=some (.pointer (some ⟨b,off+p.2,none⟩))
 | [],ps,h=>by
  simp only[F7,ia]at h;simp_all
 | x :: xs,ps,h=>by
  unfold F7 at h;split at h
  ·rename_i rr j I O T;injection h with h;subst h;obtain⟨U,Y⟩:=XE xs I T
   refine⟨by simp[U],λaf ρ a w hR C p D=>?_⟩
   cases C with
   | zero=>
    simp at D;subst D;have E:=hR.aI x;rw[O]at E;obtain⟨b,off,Z,e2⟩:=E;simp_all
   |succ C =>grind
  ·cases h
end
def A.zi(q s n:Nat):A->A
 |.lf (.own [C])=>bif Nat.beq C q then .view [q] s 0 n else .lf (.own [C])
 |x=>x
def S.zi(σ:S)(p:Nat×Nat×Nat):S:=⟨λk=>(σ.t k).zi p.1 p.2.1 p.2.2,σ.m⟩
def QH:aa (Nat×Nat×Nat)->S->S
 |[],σ=>σ
 |p::l,σ=>QH l (σ.zi p)
def QI(c0 g:Nat):Mu->aa (Nat×Nat×Nat)
 |.sl q (.sl t _ _ l)=>bif Nat.ble 1000000 g&&Nat.blt q c0 then [(q,aB t,l.length)]else []
 |_=>[]
def F8(c0:Nat):aa PK->aa Mu->aa (Nat×Nat×Nat)
 |.v _ _::ps,C=>F8 c0 ps C
 |.p _ _ _::ps,_::C=>F8 c0 ps C
 |.s _ g::ps,D::C=>QI c0 g D++F8 c0 ps C
 |_,_=>[]
def F9{X:Type}(N:Nat)(σ:S)(C:aj Tmp)(c:mV)(args:aa Operand)(k:S->aj X):aj X:=
 match ji σ c.ps args with
 |some D=>nE N σ C c args λE=>k (QH (F8 (gP C) c.ps D) E)
 |none=>none
section
variable {P:Program} {w w':World} {w0:Wd} {B N:Nat} {af dj az:bk} {ρ eR ρ':Nat->Loc} {σ:S} {a:Act} {X:Type} {d:Nat} {r:X} {o:Oper}
def Rl.zi{p:Nat×Nat×Nat}{ad:aj Addr}{c:Nat}(h:Rl w0 N af ρ σ a w)(E:ρ p.1 = .dn (.slice ad p.2.2 c)):Rl w0 N af ρ (σ.zi p) a w:=by
 refine⟨h.below,h.cL,h.root,λk=>?_,h.size,h.defers,h.fix,h.cD⟩
 have C:=h.tmp k;show RA _ _ _ _ ((σ.t k).zi p.1 p.2.1 p.2.2) _;generalize σ.t k=x at C;unfold A.zi;split
 ·rename_i I;cases hb:Nat.beq I p.1 with
  |false=>exact C
  | true=>
   obtain rfl:=cE hb;have D:=C.2;simp only[cF,E]at D;injection D with D;refine⟨ad,p.2.2,c,by simp[cF,E],Nat.zero_le _,dz _,?_⟩;rw[<- D];cases ad<;>simp[sliced,Addr.add]
 ·exact C
def XF:∀ (l:aa (Nat×Nat×Nat)) (σ:S),Rl w0 N af ρ σ a w->(∀ p∈l,∃ A c,ρ p.1 = .dn (.slice A p.2.2 c))->Rl w0 N af ρ (QH l σ) a w
 |[],σ,h,_=>h
 | p :: l,σ,h,hl=>by
  obtain⟨A,c,C⟩:=hl p (.head _);exact XF l _ (h.zi C) λp C=>hl p (.tail _ C)
def aia{c0 g:Nat}{D:Mu}{p:Nat×Nat×Nat}(h:p∈QI c0 g D):∃ q t o C l,D = .sl q (.sl t o C l)/\p=(q,aB t,l.length)/\q<c0:=by
 unfold QI at h;split at h
 ·rename_i q t o C l;cases hb:(Nat.ble 1000000 g&&Nat.blt q c0)with
  |false=>simp_all
  | true=>
   rw[hb]at h;rw[aJ]at hb;exact⟨q,t,o,C,l,rfl,gF.1 h,cr hb.2⟩
 ·cases h
def Km{c0:Nat}{p:Nat×Nat×Nat}:∀ (ps:aa PK) (C:aa Mu),p∈F8 c0 ps C -> ∃ q t o D l,Mu.sl q (.sl t o D l)∈C/\p=(q,aB t,l.length)/\q<c0
 |.v _ _::ps,C,h=>Km ps C h
 |.p _ _ _::ps,O::C,h=>let ⟨q,t,o,D,l,I,E⟩:=Km ps C h;⟨q,t,o,D,l,.tail _ I,E⟩
 | .s _ g :: ps,O :: C,h=>by
  rcases kX.1 h with h|h
  ·obtain⟨q,t,o,D,l,rfl,E⟩:=aia h;exact⟨q,t,o,D,l,.head _,E⟩
  ·obtain⟨q,t,o,D,l,I,E⟩:=Km ps C h;exact⟨q,t,o,D,l,.tail _ I,E⟩
def RV.aib{q:aa Nat}{t:TC}{g:Nat}{C:Bool}{l:aa (T t)}{v:Value}(h:RV w B af q (.sl t g C l) v):∃ A c,v = .slice A l.length c:=by
 cases h<;>exact⟨_,_,rfl⟩
def aic{f:Nat}{args:Array Operand}{U:Array TypeId}{c:mV}{k:S->aj X}(Y:o.op = .call { callee:=.value (.func f),args,argTypes:=U })(Z:enters P f)(hc:uV P f c)(h:F9 N σ o.dst c args.toList k=some r):∃ E,k E=some r/\kK P w0 N o σ E:=by
 unfold F9 at h;split at h
 ·rename_i Qd I;obtain⟨o6,Kn,cn,h1,D,_,h4,h5⟩:=Qa (w0:=w0) Y Z hc h;rw[I]at D;injection D with D;subst D
  refine⟨_,h1,λa w K Q hR hK=>?_⟩
  obtain⟨af,ρ,hR⟩:=hR
  refine h5 a w K Q af ρ hR λv w' dj eR vb dc hv _ bV=>hK _ _ ⟨dj,vb,XF _ _ dc λp hp=>?_⟩
  obtain⟨q,t,oo,qn,l,O,rfl,hq⟩:=Km _ _ hp;have jw:=(JY _ _ _ I _ O).1;have T:=hR.root q _ jw;generalize C:aP.sl _=z at T;cases T with
  |ay=>cases C
  |mp=>cases C
  |gh=>cases C
  | sl u y Pp hr=>
   injection C with C;subst C;obtain⟨A,c,rfl⟩:=hr.aib;exact⟨A,c,(bV q hq).trans ((hv.eP q (h4 _ O)).trans Pp)⟩
 ·cases h
def aid{C:aj Tmp}{c:mV}{args:aa Operand}:cm λX k=>F9 (X:=X) N σ C c args k:=λX Y k g=>by
 unfold F9;split
 ·exact QC _ _ _ _
 ·rfl
end
def bk.un(af:bk)(q:Nat):bk:=λb=>match af b with
 |some k=>bif cz q k then none else some k
 |none=>none
def Ga{X:Type}(P:Program)(σ:S)(q s i j:Nat)(t:TypeId)(x:A)(k:S->aj X):aj X:=
 match σ.m q with
 |some (.sl (.sl tc (o+2) C l))=>bif Nat.beq s (aB tc)&&Nat.beq (full tc) 0 then oV P (σ.drop q) t (x.drop q) (.lf (.v (.sl tc 0 false ((l.take j).drop i)))) k else none
 |_=>none
section
variable {P:Program} {w w':World} {w0:Wd} {B N:Nat} {af az:bk} {ρ ρ':Nat->Loc} {σ:S} {a:Act} {X:Type} {d q:Nat} {r:X} {o:Oper} {y:V}
def aie(C:∀ b,af b≠some []):Rel q af (af.un q):=
 ⟨C,λb h=>by simp[bk.un,h],λb k h D=>by simp[bk.un,h,D]⟩
def RV.ice{tc:TC}{g:Nat}{U:Bool}{l:aa (T tc)}{A:aj Addr}{n c:Nat}(D:RV w B af [q] (.sl tc (g+2) U l) (.slice A n c))(hf:full tc=0):RV w B (af.un q) [] (.sl tc 0 false l) (.slice A n c)/\n=l.length:=by
 cases D with
 |dX=>exact⟨.dX _ _ _,rfl⟩
 |fy=>grind
 |fJ=>grind
 |aG _ _ _ _ _ _ _ _ _ ho=>omega
 | own=>
  rename_i b cs u hl I hc D hs Y hm;have O:∀ (i:Nat) (h:i<l.length) (j:Nat) (x:V),(enc tc 0 l[i])[j]?=some x -> (enc tc g l[i])[j]?=some x/\x.plain=true:=by
   intro i h j x C;obtain⟨y,E,rfl⟩:=vU tc g l[i] j x C;have Z:=Jo tc g l[i] y (gv E);cases y with
   | sl t' o' q' l'=>
    have:=cr (show Nat.ble _ _=true from Z);omega
   | nil=>
    have:=OE tc g l[i] _ (gv E);cases this
   |_=>exact⟨E,rfl⟩
  refine⟨.aG _ _ _ _ _ b 0 c u (by omega) (by simp[bk.un,hl,cz]) (hU.1 I).1 (by omega) Y (λi h j x C=>?_) (λi h j x C=>?_),rfl⟩
  ·rw[ff,cell_of_row w b _ cs _ _ I];simp_all
  ·exact(D i h j x (O i h j x C).1).s9 (O i h j x C).2
def aif{s i j:Nat}{t:TypeId}{x:A}{k:S -> aj X}(h:Ga P σ q s i j t x k=some r):∃ E,k E=some r /\ ∀ af ρ a w,Rl w0 N af ρ σ a w -> ∀ u v,RA w w0.heap.size af ρ x u -> RA w w0.heap.size af ρ (.view [q] s i j) v ->
  ∃w' az,(Instr.storeAt t u v).run P w = .ok () w'/\Rl w0 N az ρ E a w':=by
 unfold Ga at h;split at h
 ·rename_i tc g Z l hm;cases hb:(Nat.beq s (aB tc)&&Nat.beq (full tc) 0)with
  |false=>rw[hb]at h;cases h
  | true=>
   rw[hb,aq]at h;rw[aJ]at hb;obtain rfl:=cE hb.1;have hf:=cE hb.2;obtain⟨E,h1,hs⟩:=Wc (w0:=w0) (N:=N) h
   refine⟨E,h1,λaf ρ a w hR u v hu hv=>?_⟩
   have I:Rel q af (af.un q):=aie hR.v9;have rZ:=hR.rel I (λb k C=>by
    unfold bk.un at C;cases hl:af b with
    |none=>rw[hl]at C;cases C
    | some O=>
     rw[hl]at C;simp only at C;cases T:cz q O with
     |true=>rw[T]at C;cases C
     | false=>
      rw[T]at C;injection C with C;subst C;exact⟨⟨_,rfl⟩,(hR.cL b O hl).2.2⟩)
   obtain⟨A,n,c,U,h3,h4,rfl⟩:=hv;have Y:=hR.root q _ hm;generalize D:aP.sl (.sl tc (g+2) Z l)=z at Y;cases Y with
   |ay=>cases D
   |mp=>cases D
   |gh=>cases D
   | sl vq y bV hr=>
    injection D with D;subst D;have hvq:vq = .slice A n c:=by
     simp only[cF,bV]at U;injection U
    subst hvq;obtain⟨h5,h6⟩:=hr.ice hf;have h7:=(h5.part (by omega) h3 (by omega)).1;obtain⟨w',dV,ki⟩:=hs _ _ _ _ rZ u _ (hu.rel I) (show RA _ _ _ _ (.lf (.v _)) _ from ⟨rfl,h7⟩);exact⟨w',_,dV,ki⟩
 ·cases h
def aih{q s i j:Nat}{t:TypeId}{x:A}:cm λX k=>Ga (X:=X) P σ q s i j t x k:=λX Y k g=>by
 unfold Ga
 repeat' first|rfl|exact Xs _ _ _ _|refine cS ?_ ?_|split
def Dd{X:Type}(P:Program)(σ:S)(t:TypeId)(x lo hi C:A)(k:aj X):aj X:=
 match x,lo,hi,C with
 | .lf (.own q),.lf (.v (.int _ a)),.lf (.v (.int _ b)),.lf (.v (.int _ c))=>(match oS P t with
  | some e=>(match jg P e with
   | some _=>iZ σ.m q λy=>(match y with
    |.sl _ _ _ l=>if 0<=a/\a<=b/\b<=c/\c<=(l.length:Int)then k else none
    |_=>none)
   |none=>none)
  |none=>none)
 |_,_,_,_=>none
def aii{t:TypeId}{x lo hi Y:A}{k:aj X}(h:Dd P σ t x lo hi Y k=some r):k=some r /\
  ∀af ρ a w,Rl w0 N af ρ σ a w -> ∀u I O T,RA w w0.heap.size af ρ x u -> RA w w0.heap.size af ρ lo I -> RA w w0.heap.size af ρ hi O -> RA w w0.heap.size af ρ Y T -> ∃v,(Instr.sliceAt t u (some I) (some O) (some T)).run P w = .ok v w:=by
 unfold Dd at h;split at h
 ·rename_i q kl a kh b km c;split at h
  ·rename_i e U;split at h
   ·rename_i n Z;obtain⟨y0,Pg,C⟩:=rK q _ h;split at C
    ·rename_i tc g qn xs;split at C
     ·rename_i hb
      refine⟨C,λaf ρ ac w hR u I O T hu hl hh hm=>?_⟩
      rw[hl.2.gz,hh.2.gz,hm.2.gz];have fS:P.underlying t=some (.slice e):=by
       unfold oS at U;split at U
       ·grind
       ·cases U
      have ic:P.elem t=e:=by simp[Program.elem,fS]
      have XG:P.underlying t=some (.slice (P.elem t)):=by rw[ic];exact fS
      have hss:(sizeOf (P.elem t)).run P w = .ok n w:=by
       unfold jg at Z;cases hi:P.info? e with
       |none=>grind
       | some i=>
        have:i.size=n:=by simpa [hi]using Z
        simp[sizeOf,typeInfo,ic,hi,this]
      obtain⟨v0,wj,ij⟩:=Pg.ok hR.root;have fR:∃ D n c,u = .slice D n c:=by
       have:=hu.1;cases u<;>first|cases this;done|exact⟨_,_,_,rfl⟩
      obtain⟨D,n',c',rfl⟩:=fR;have E:=hu.2;rw[wj]at E;injection E with E;subst E;have hf:RV w 0 (λ_=>none) [] (.sl tc 0 qn xs) (.slice D n' c'):=ij.fZ;obtain⟨_,yO,Pf⟩:=RV.part (w:=w) hf (a:=0) (h:=xs.length) (by omega) (by omega) (by omega);refine⟨sliced D a.toNat b.toNat c.toNat n,?_⟩;rw[run_sliceAt_slice w t _ _ _ _ XG,run_slice_lhm w t D n' c' XG kl kh km a b c hb.1 hb.2.1 hb.2.2.1 (by omega),hss];rfl
     ·cases C
    ·cases C
   ·cases h
  ·cases h
 ·cases h
end
section
variable {P:Program} (w:World)
end
section
variable {P:Program} {w w':World} {w0:Wd} {B N:Nat} {af az:bk} {ρ ρ':Nat->Loc} {σ:S} {a:Act} {X:Type} {d:Nat} {r:X}
end
def l8(l:aa (Int×Bool))(k:Int):Bool:=match l with
 |[]=>false
 |p::ps=>bif k==p.1 then p.2 else l8 ps k
def mX(l:aa (Int×Bool))(k:Int)(v:Bool):aa (Int×Bool):=match l with
 |[]=>[(k,v)]
 |p::ps=>bif k==p.1 then (k,v)::ps else p::mX ps k v
def De(P:Program)(t:TypeId):Bool:=match P.underlying t with
 | some (.map k e)=>(match P.underlying k with
  |some (.int .i64)=>true
  |_=>false)&&(match zeroOf P e with
  |some (.bool false)=>true
  |_=>false)
 |_=>false
def QJ{X:Type}(N:Nat)(σ:S)(d:Nat)(k:S->aj X):aj X:=gI N σ d (.mp []) (.pk d qv) k
def A9{X:Type}(P:Program)(σ:S)(t:TypeId)(x i:A)(k:A->aj X):aj X:=
 match x,i with
 | .pk r n,.lf (.v (.int .i64 key))=>bif Nat.beq n qv&&De P t then (match σ.m r with
  |some (.mp l)=>k (.lf (.v (.bool (l8 l key))))
  |_=>none)else none
 |_,_=>none
def Ba{X:Type}(P:Program)(σ:S)(t:TypeId)(x i v:A)(k:S->aj X):aj X:=
 match x,i,v with
 | .pk r n,.lf (.v (.int .i64 key)),.lf (.v (.bool b))=>bif Nat.beq n qv&&De P t then (match σ.m r with
  |some (.mp l)=>k ⟨σ.t,bG σ.m r (some (.mp (mX l key b)))⟩
  |_=>none)else none
 |_,_,_=>none
section
variable {P:Program} {w w':World} {w0:Wd} {B N:Nat} {af az:bk} {ρ ρ':Nat->Loc} {σ:S} {a:Act} {X:Type} {d:Nat} {r:X} {o:Oper}
def XH{t:TypeId}(h:De P t=true):∃ k e i,P.underlying t=some (.map k e)/\P.underlying k=some (.int .i64)/\P.info? e=some i/\i.zero=some (.bool false):=by
 unfold De at h;split at h
 ·rename_i k e D;rw[aJ]at h;obtain⟨E,I⟩:=h;have O:P.underlying k=some (.int .i64):=by
   grind
  have C:zeroOf P e=some (.bool false):=by
   grind
  unfold zeroOf at C;cases hi:P.info? e with
  |none=>simp_all
  |some i =>grind
 ·cases h
def Rl.newObj{D:Obj}{x:aP}{ρ':Nat -> Loc}(h:Rl w0 N af ρ σ a w)(E:w0.F d=none)(I:∀ r,r≠d -> ρ' r=ρ r)
  (O:dM (w.alloc D) w0.heap.size (bG af w.heap.size (some [d])) ρ' d x):Rl w0 N (bG af w.heap.size (some [d])) ρ' ((σ.drop d).root d x) a (w.alloc D):=by
 refine h.yE E (iY.Wn w0 w _ h.below.size) ⟨by simp,λb hb _=>Below.heap_alloc w _ b hb,λb hb=>cc _ _ _ (by omega),λb hb=>(h.cL b [] hb).2.2 rfl⟩ (λb k hb C=>?_) I O
 by_cases e:b=w.heap.size
 ·subst e;rw[bJ]at C;injection C with C;subst C;simp_all
 ·rw[cc _ _ _ e]at C;have:=(h.cL b k C).2.1;omega
def aij{t:TypeId}{k:S -> aj X}(h:QJ N σ d k=some r):∃ C,k C=some r /\ ∀ af ρ a w,Rl w0 N af ρ σ a w -> ∃ w' az ρ' v,(Instr.makeMap t none).run P w = .ok v w'/\Rl w0 N az ρ' C (a.put (some d) v) w':=by
 obtain⟨D,h⟩:=oa h
 refine⟨_,h,λaf ρ a w hR=>?_⟩
 have E:(Instr.makeMap t none).run P w = .ok _ _:=rfl
 refine⟨_,bG af _ _,bG ρ d _,_,E,(hR.newObj (hR.cD d (.inl D)) (λr I=>cc _ _ _ I) ?_).set ⟨w.heap.size,bJ _ _ _,(OH _).symm⟩ D⟩
 exact .mp _ 0 #[] [] (bJ _ _ _) (bJ _ _ _) (heap_alloc_new w _) rfl
def aik:cm λX k=>QJ (X:=X) N σ d k:=Ka
def ail{t:TypeId}{x i:A}:cm λX k=>A9 (X:=X) P σ t x i k:=λX Y k g=>by
 unfold A9
 repeat' first|rfl|refine cS ?_ ?_|split
def aim{t:TypeId}{x i v:A}:cm λX k=>Ba (X:=X) P σ t x i v k:=λX Y k g=>by
 unfold Ba
 repeat' first|rfl|refine cS ?_ ?_|split
def Bb(l:aa (Int×Bool)):aa (Value×Value):=l.map λp=>(.int .i64 p.1,.bool p.2)
def QK:∀ (C:aa MapEntry) (l:aa (Int×Bool)) (k:Int) (n:Nat),C.map (λe=>(e.key,e.val))=Bb l ->
  (Instr.findNow (.int .i64) (.int .i64 k) C n=some none/\l8 l k=false /\ ∀v,mX l k v=l++[(k,v)]) \/
  (∃i b,Instr.findNow (.int .i64) (.int .i64 k) C n=some (some (n+i,.bool b))/\l8 l k=b /\ ∃h:i<C.length,C[i].key = .int .i64 k /\ ∀v,Bb (mX l k v)=(C.modify i λe=>{ e with key:=.int .i64 k,val:=.bool v }).map (λe=>(e.key,e.val)))
 |[],[],k,n,_=>.inl ⟨rfl,rfl,λv=>rfl⟩
 |[],_::_,k,n,h=>by cases h
 |_::_,[],k,n,h=>by cases h
 | e :: C,p :: l,k,n,h=>by
  have h:(e.key,e.val) :: C.map (λe=>(e.key,e.val))=(.int .i64 p.1,.bool p.2) :: Bb l:=h;injection h with Y O;injection Y with T Z;have D:Instr.sameNow (.int .i64) (.int .i64 k) e.key=some (k==p.1):=by
   rw[T];simp[Instr.sameNow]
  cases hb:(k==p.1)with
  | true=>
   have Ko:k=p.1:=by simpa using hb
   refine .inr ⟨0,p.2,?_,by simp only[l8,hb,aq],by simp,by simp[T,Ko],λv=>?_⟩
   ·simp only[Instr.findNow,D,hb,Z];rfl
   ·simp only[mX,hb];simp;show _::Bb l=_;rw[O]
  | false=>
   rcases QK C l k (n+1) O with ⟨U,E,I⟩|⟨i,b,U,E,hi,I,a4⟩
   ·refine .inl ⟨?_,by simp[l8,hb,av,E],λv=>by simp only[mX,hb,I];rfl⟩
    simp[Instr.findNow,D,hb];exact U
   ·refine .inr ⟨i+1,b,?_,by simp only[l8,hb,av,E],by simpa using hi,by simpa using I,λv=>?_⟩
    ·simp[Instr.findNow,D,hb]
     grind
    ·simp only[mX,hb];simp;show _ :: Bb _=_
     grind
def Kp{kt:TypeId}{k:Int}{C:aa MapEntry}{z:aj (Nat×Value)}(D:P.underlying kt=some (.int .i64))(h:Instr.findNow (.int .i64) (.int .i64 k) C 0=some z):(Instr.findKey kt (.int .i64 k) C).run P w = .ok z w:=by
 unfold Instr.findKey;simp only[fQ,gB D,lU,h];rfl
def ain{t:TypeId}{x i:A}{k:A -> aj X}(h:A9 P σ t x i k=some r):∃ v,k v=some r/\lY (λX k=>A9 (X:=X) P σ t x i k) v /\ ∀ af ρ a w,Rl w0 N af ρ σ a w -> ∀ u z,RA w w0.heap.size af ρ x u -> RA w w0.heap.size af ρ i z ->
  ∃y,(Instr.lookup t u z false).run P w = .ok y w/\RA w w0.heap.size af ρ v y:=by
 unfold A9 at h;split at h
 ·rename_i rr n key;cases hb:(Nat.beq n qv&&De P t)with
  |false=>grind
  | true=>
   rw[hb,aq]at h;split at h
   ·rename_i l O
    refine⟨_,h,λX k=>by simp only[A9,hb,aq,O],λaf ρ a w hR u z Z D=>?_⟩
    rw[aJ]at hb;obtain⟨kt,et,ti,ht,E,hi,XI⟩:=XH hb.2;have hn:=cE hb.1;subst hn;obtain⟨b,bV,rfl⟩:=Z;have D:z = .int .i64 key:=by
     have h2:=D.2;cases h2;rfl
    subst D;have T:=hR.root rr _ O;generalize C:aP.mp l=y at T;cases T with
    |ay=>cases C
    |sl=>cases C
    |gh=>cases C
    | mp b' c es l' U hl hh Kq=>
     injection C with C;subst C;rw[bV]at U;injection U with e1 _;subst e1;refine⟨.bool (l8 l key),?_,rfl,.bool _ _⟩;rw[OH];unfold Instr.lookup;simp only[fQ,gB ht,lU,MapKept.run_getObj_map hh,Sem.run_pure];rw[MapKept.run_checkKey (k:=.int .i64 key) E rfl];simp only[lU];rcases QK es.toList l key 0 Kq with ⟨I,Y,_⟩|⟨i,v,I,Y,_⟩
     ·rw[Kp E I];have CP:(zeroValue et).run P w = .ok (.bool false) w:=by simp[zeroValue,typeInfo,hi,XI]
      simp_all
     ·rw[Kp E I];simp only[ Y,fQ];rfl
   ·cases h
 ·cases h
def aio{t:TypeId}{x i v:A}{k:S -> aj X}(h:Ba P σ t x i v k=some r):∃ T,k T=some r/\lY (λX k=>Ba (X:=X) P σ t x i v k) T /\ ∀ af ρ a w,Rl w0 N af ρ σ a w -> ∀ u z y,RA w w0.heap.size af ρ x u -> RA w w0.heap.size af ρ i z -> RA w w0.heap.size af ρ v y ->
  ∃w',(Instr.mapUpdate t u z y).run P w = .ok () w'/\Rl w0 N af ρ T a w':=by
 unfold Ba at h;split at h
 ·rename_i rr n key U;cases hb:(Nat.beq n qv&&De P t)with
  |false=>grind
  | true=>
   rw[hb,aq]at h;split at h
   ·rename_i l hm
    refine⟨_,h,λX k=>by simp only[Ba,hb,aq,hm],λaf ρ a w hR u z y hu Y C=>?_⟩
    rw[aJ]at hb;obtain⟨kt,et,ti,ht,Z,hi,XI⟩:=XH hb.2;have hn:=cE hb.1;subst hn;obtain⟨b,bV,rfl⟩:=hu;have Y:z = .int .i64 key:=by
     have h2:=Y.2;cases h2;rfl
    subst Y;have C:y = .bool U:=by
     have h2:=C.2;cases h2;rfl
    subst C;have eI:=hR.root rr _ hm;generalize D:aP.mp l=y at eI;cases eI with
    |ay=>cases D
    |sl=>cases D
    |gh=>cases D
    | mp b' c es l' iK hl O Kq=>
     injection D with D;subst D;rw[bV]at iK;injection iK with e1 _;subst e1;have Qv:b<w.heap.size:=(hU.1 O).1;have A4:∀ (E:Array MapEntry) (I:Nat),E.toList.map (λe=>(e.key,e.val))=Bb (mX l key U) -> Rl w0 N af ρ ⟨σ.t,bG σ.m rr (some (.mp (mX l key U)))⟩ a { w with heap:=w.heap.setIfInBounds b (.map E I) }:=by
      intro E I aip;have hW:uJ w { w with heap:=w.heap.setIfInBounds b (.map E I) } b:=by
       refine⟨by simp,rfl,rfl,rfl,λk hk=>?_⟩
       show _[k]?=_;rw[Array.getElem?_setIfInBounds_ne (Ne.symm hk)]
      have hC:qx w { w with heap:=w.heap.setIfInBounds b (.map E I) } af ρ:=by
       intro k ad v ha hv fR;obtain⟨j',i',s',q,rfl,hq,_,_,hh'⟩:=AJ k ad ha;have ck:ad.block≠b:=by
        grind
       exact(World.cell?_of_block (hW.block _ ck)).trans hv
      refine hR.wrote hW hl hC λr' y C=>?_
      by_cases mQ:r'=rr
      ·subst mQ;rw[bJ]at C;injection C with C;subst C;refine .mp b I E _ bV hl ?_ aip;simp_all
      ·rw[cc _ _ _ mQ]at C;exact(hR.root r' y C).wrote hW hl hC (V4 mQ)
     rw[OH];unfold Instr.mapUpdate;simp only[fQ,gB ht,lU,MapKept.run_getObj_map O,Sem.run_pure];rw[MapKept.run_checkKey (k:=.int .i64 key) Z rfl];simp only[lU];rcases QK es.toList l key 0 Kq with ⟨a1,a2,a3⟩|⟨i,v,a1,a2,F1,a3,a4⟩
     ·rw[Kp Z a1];simp;rw[MapKept.run_setObj_map _ O];refine⟨_,rfl,A4 _ _ ?_⟩;rw[a3];simp only[Array.toList_push,List.map_append,Kq,Bb];rfl
     ·rw[Kp Z a1];simp only[lU,ff];have Ql:(es[i]?.map (·.key)).getD (.int .i64 key) = .int .i64 key:=by
       grind
      rw[Ql];have jK:(Instr.keyThatStays (.int .i64 key) (.int .i64 key)).run P w = .ok (.int .i64 key) w:=by
       unfold Instr.keyThatStays;simp[Instr.sameBits]
      simp only[fQ];rw[jK];simp only[lU];rw[MapKept.run_setObj_map _ O];refine⟨_,rfl,A4 _ _ ?_⟩;rw[a4];simp
   ·cases h
 ·cases h
end
def Kr(t:TypeId)(d:Nat)(x:Operand):Bool:=[(59,26,22)].any λ(p:Nat×Nat×Nat)=>Nat.beq p.1 t&&Nat.beq p.2.1 d&&(match x with
 |.tmp n=>Nat.beq n p.2.2 ||Nat.beq p.2.2 1000000
 |_=>false)
def Bc(C:aj Tmp)(t:TypeId)(x:Operand):Bool:=match C with
 |some d=>Kr t d x
 |none=>false
def Gb{X:Type}(P:Program)(N:Nat)(σ:S)(d:Nat)(t:TypeId)(x y:A)(k:S->aj X):aj X:=
 match uP P t with
 | some (e,tc)=>bif Nat.beq (full tc) 0&&(zeroOf P e).any (λz=>Nat.beq z.cells.size (aB tc))then rL σ y λC=>(match C.JF tc with
  |none=>none
  | some l2=>match x with
   | .lf (.own [r])=>(match σ.m r with
    |some (.sl (.sl D (o+2) true l))=>if h:D=tc then (bif !jt l2&&cv (l.length+l2.length)then gI N σ d (.sl (.sl tc (o+2) false ((h ▸ l)++l2))) (.lf (.own [d])) k else none)else none
    |_=>none)
   |_=>none)else none
 |none=>none
section
variable {P:Program} {w w':World} {w0:Wd} {B N:Nat} {af az:bk} {ρ ρ':Nat->Loc} {σ:S} {a:Act} {X:Type} {d:Nat} {r:X}
def Rl.aiq{t e ty:TypeId}{tc:TC}{i:TypeInfo}{z:Value}{rr o g:Nat}{qn:Bool}{l l2:aa (T tc)}{u v:Value}{q':aa Nat}{Bx:Nat}{O3:bk}(h:Rl w0 N af ρ σ a w)(hF:w0.F d=none)(fS:P.underlying t=some (.slice e))(ht:tid tc=e)(hi:P.info? e=some i)(hz:i.zero=some z)
  (Y:i.size=aB tc) (jC:i.bytes <= 65536) (mI:z.cells.size=aB tc) (hf:full tc=0) (hd:RV w w0.heap.size af [rr] (.sl tc (o+2) true l) u) (hs:RV w Bx O3 q' (.sl tc g qn l2) v) (ck:l2≠[]) (hlen:l.length+l2.length<1073741824):
  ∃D w' az,(Builtin.append_ #[t,t] ty #[u,v]).run P w = .ok D w'/\Rl w0 N az (bG ρ d (.dn D)) ((σ.drop d).root d (.sl (.sl tc (o+2) false (l++l2)))) a w'/\lW D=true:=by
 subst ht;obtain⟨xs,E,aua,Fo,ic⟩:=hd.Wq hf (B':=0) (λb _=>Nat.zero_le b);obtain⟨A,c,news,rfl,Z,oe,Fp⟩:=hs.reads hf;have gy:(l.length+l2.length)*i.bytes <= 140737488355328:=by
  have h1:(l.length+l2.length)*i.bytes <= 1073741824*65536:=Nat.mul_le_mul (by omega) jC;omega
 have tu:0<l2.length:=List.length_pos_iff.2 ck;obtain⟨D,w',dV,XJ,XK,ig⟩:=Oq (P:=P) w 0 t ty (tid tc) i z (aB tc) i.bytes fS hi hz Y rfl mI (nW tc) u l.length xs E _ A l2.length c news Z oe (by unfold maxLen;omega) gy (Nat.zero_le _);have Fq:(l++l2).length=l.length+l2.length:=List.length_append;have hex:∃ b,u = .slice (some ⟨b,0,none⟩) l.length l.length:=by
  cases hd with
  |aG _ _ _ _ _ _ _ _ _ ho=>omega
  |fJ _ _ _ _ _ ho=>omega
  |own _ _ _ _ _ b cap cs us hl hh hs hn hm hc hr=>exact⟨b,by rw[hm.2 rfl]⟩
 obtain⟨b,rfl⟩:=hex;obtain⟨I,O,rfl,_,gj⟩:=Z.2 tu;have air:∀ j x,news[j]?=some x -> w.cell? ((⟨I,O,none⟩:Addr).add j)=some x:=by
  intro j x hx;have Jm:(⟨I,O,none⟩:Addr).add j=⟨I,O+j,none⟩:=by unfold Addr.add;split<;>simp_all
  grind
 have XL:=run_append_grow (P:=P) w t ty (tid tc) i z fS hi hz ⟨b,0,none⟩ l.length l.length xs (by rw[Y];exact E.1) (E.cells (g:=b) rfl) ⟨I,O,none⟩ l2.length c news (by rw[Y];exact Z.1) air (by omega) (by omega) (growslice_fits (by omega) gy);rw[dV]at XL;injection XL with e1 e2;have hold:∀ k,k<w.heap.size -> w'.heap[k]?=w.heap[k]?:=by
  intro k C;rw[e2];exact heap_alloc_old _ _ C
 have hvb:D.ownBlock=some w.heap.size:=by rw[e1];rfl
 have c9:w.heap.size<w'.heap.size:=by rw[e2];simp
 rw[<- Fq]at XJ;have AR:=ic.append Fp E.1;have fR:lW D=true:=by rw[e1];rfl
 have U:Below 0 w w':=(Below.refl 0 w).grown XK (Nat.zero_le _) (λ_ _=>Nat.zero_le _);have rP:iY w0 w w':=⟨U.os,U.tape,U.output,U.size,λk C hL=>hold k (Nat.lt_of_lt_of_le C h.below.size)⟩
 refine⟨D,w',bG af w.heap.size (some [d]),dV,h.yE hF rP ⟨XK.size,λb hb _=>hold b hb,λb hb=>cc _ _ _ (by omega),λb hb=>(h.cL b [] hb).2.2 rfl⟩ (λb k hb C=>?_) (λr hr=>cc _ _ _ hr) (.sl D _ (bJ _ _ _) (O2 XJ AR (λb hb=>?_))),fR⟩
 ·by_cases e:b=w.heap.size
  ·subst e;rw[bJ]at C;injection C with C
   grind
  ·rw[cc _ _ _ e]at C;have:=(h.cL b k C).2.1;omega
 ·rw[hvb]at hb;injection hb with hb;subst hb;exact bJ _ _ _
def ais{t ty:TypeId}{x y:A}{k:S -> aj X}(h:Gb P N σ d t x y k=some r):∃ U,k U=some r /\ ∀ af ρ a w,Rl w0 N af ρ σ a w -> ∀ u v,RA w w0.heap.size af ρ x u -> RA w w0.heap.size af ρ y v ->
  ∃w' az ρ' z,(Builtin.append_ #[t,t] ty #[u,v]).run P w = .ok z w'/\Rl w0 N az ρ' U (a.put (some d) z) w':=by
 unfold Gb at h;split at h
 ·rename_i e tc oc;obtain⟨fS,ht,i,hi,gZ,jC⟩:=yG oc;cases E:(Nat.beq (full tc) 0&&(zeroOf P e).any (λz=>Nat.beq z.cells.size (aB tc)))with
  |false=>grind
  | true=>
   rw[E,aq]at h;rw[aJ]at E;have hf:=cE E.1;obtain⟨z,Y,O⟩:=(Option.any_eq_true _ _).1 E.2;have O:=cE O;have od:i.zero=some z:=by unfold zeroOf at Y;simpa [hi]using Y
   obtain⟨yv,JI,C⟩:=Wr (w0:=w0) (N:=N) h;clear h;split at C
   ·cases C
   ·rename_i l2 kM;split at C
    ·rename_i rr;split at C
     ·rename_i t' o l hm;split at C
      ·rename_i mR;subst mR;cases I:(!jt l2&&cv (l.length+l2.length))with
       |false=>grind
       | true=>
        rw[I,aq]at C;rw[aJ]at I;have ck:l2≠[]:=by rintro rfl;cases I.1
        have Fs:l.length+l2.length<1073741824:=by simpa [cv]using I.2
        obtain⟨Z,h3⟩:=oa C
        refine⟨_,h3,λaf ρ a w hR u v hu hv=>?_⟩
        obtain⟨q',_,_,T⟩:=JI af ρ a w hR v hv;obtain⟨g,qn,T⟩:=O5 kM T;have eI:=hR.root rr _ hm;generalize D:aP.sl (.sl t' (o+2) true l)=x at eI;cases eI with
        |ay=>cases D
        |mp=>cases D
        |gh=>cases D
        | sl uu y bV hr=>
         injection D with D;subst D;have Fl:uu=u:=by
          have h4:=hu.2;simp only[cF,bV]at h4;simp_all
         subst Fl;obtain⟨v',w',az,dV,dc,fR⟩:=hR.aiq (ty:=ty) (d:=d) (hR.cD d (.inl Z)) fS ht hi od gZ jC O hf hr T ck Fs;exact⟨w',az,_,v',dV,dc.set ⟨fR,by simp[cF,bJ]⟩ Z⟩
      ·cases C
     ·cases C
    ·cases C
 ·cases h
def ait{t:TypeId}{x y:A}:cm λX k=>Gb (X:=X) P N σ d t x y k:=λX Y k g=>by
 unfold Gb;split
 ·refine cS ((Qm _ _ _ _).trans (bx _ (funext λC=>?_))) rfl
  repeat' first|rfl|exact Ka _ _ _ _|refine cS ?_ ?_|split
 ·rfl
def Gc{X:Type}(P:Program)(N:Nat)(σ:S)(d:Nat)(t:TypeId)(x y:A)(k:S->aj X):aj X:=
 match x with
 |.view q s i j=>Ft P N σ d t (.view q s i j) y k
 |x=>Gb P N σ d t x y k
def aiu{t ty:TypeId}{x y:A}{k:S->aj X}(h:Gc P N σ d t x y k=some r):∃ C,k C=some r/\∀ af ρ a w,Rl w0 N af ρ σ a w->∀ u v,RA w w0.heap.size af ρ x u->RA w w0.heap.size af ρ y v->
  ∃w' az ρ' z,(Builtin.append_ #[t,t] ty #[u,v]).run P w = .ok z w'/\Rl w0 N az ρ' C (a.put (some d) z) w':=by
 unfold Gc at h;split at h
 ·exact ags h
 ·exact ais h
def aiv{t:TypeId}{x y:A}:cm λX k=>Gc (X:=X) P N σ d t x y k:=λX Y k g=>by
 unfold Gc;split
 ·exact agt _ _ _ _
 ·exact ait _ _ _ _
end
abbrev dR:=Nat->aj o8
def fC(P:Program)(Φ:dR):Prop:=∀f c,Φ f=some c->enters P f/\QB P f c
def gn{X:Type}(o:Oper)(k:Nat->aj X):aj X:=
 match o.dst with
 |some d=>k d
 |none=>none
def fD:Op->Bool
 |.move _|.assign _|.pick .. |.build .. |.load .. |.binOp .. |.unOp .. |.convert .. |.fieldAddr .. |.field .. |.indexAddr .. |.index .. |.extract .. |.nilCheck _=>true
 |.call ⟨.builtin .len,_,_⟩|.call ⟨.builtin .max,_,_⟩|.call ⟨.builtin .min,_,_⟩=>true
 |.slice _ _ _ _ none=>true
 |_=>false
def mb{X:Type}(P:Program)(σ:S)(C:Op)(k:A->aj X):aj X:=
 match C with
 |.move x=>k (aI σ x)
 |.assign x=>k (aI σ x)
 | .pick c x y=>(match aI σ c with
  |.lf (.v (.bool b))=>bif b then k (aI σ x)else k (aI σ y)
  |_=>none)
 |.build t parts=>CS P σ t parts.toList k
 |.load t x=>nt P σ t (aI σ x) k
 |.binOp C t x y _=>yN P σ C t (aI σ x) (aI σ y) k
 |.unOp C _ x=>vK (aI σ x) λa=>Ff C a λz=>k (.lf (.v z))
 |.convert s d x=>yK P σ s d (aI σ x) k
 |.fieldAddr s x f=>CM P s (aI σ x) f k
 |.field s x f=>FB P s (aI σ x) f k
 |.indexAddr t x i=>yC P σ t (aI σ x) (aI σ i) k
 |.index t x i=>FC P t (aI σ x) (aI σ i) k
 |.extract x i=>AO (aI σ x) i k
 |.nilCheck x=>Kd (aI σ x) k
 |.call ⟨.builtin .len,⟨[x]⟩,⟨[t]⟩⟩=>AN P σ t (aI σ x) k
 |.call ⟨.builtin .max,⟨[x,y]⟩,⟨[_,_]⟩⟩=>CT true (aI σ x) (aI σ y) k
 |.call ⟨.builtin .min,⟨[x,y]⟩,⟨[_,_]⟩⟩=>CT false (aI σ x) (aI σ y) k
 |.slice t x lo hi none=>yQ P σ t (aI σ x) (lo.map (aI σ)) (hi.map (aI σ)) k
 |_=>none
def gR{X:Type}(P:Program)(N:Nat)(Φ:dR)(σ:S)(o:Oper)(k:S->aj X):aj X:=
 match o.op with
 |.alloc e=>gn o λd=>qz P N σ d e k
 |.box e x=>gn o λd=>zh N σ d (aI σ x) k
 |.buildSlice t len parts=>gn o λd=>bif o7 t then wM P N σ d t len parts.toList k else yJ P N σ d t len parts.toList k
 | .store t x y=>(match o.dst with
  |none=>bif wN (aI σ x) (aI σ y)then tM P σ t (aI σ x) (aI σ y) k else oV P σ t (aI σ x) (aI σ y) k
  |some _=>none)
 |.makeSlice t l c=>gn o λd=>yF P N σ d t (aI σ l) (aI σ c) k
 | .call ⟨.value (.func f),args,_⟩=>(match Φ f with
  |some (.p c)=>gn o λd=>agQ N σ d c args.toList k
  |some (.m c)=>nE N σ o.dst c args.toList k
  |some (.v c)=>gn o λd=>F5 N σ d c args.toList k
  | some (.n F)=>gn o λd=>(match args.toList with
   |[x]=>F4 N σ d F (aI σ x) k
   |_=>none)
  |some (.i c)=>F6 N σ o.dst c (args.toList.map (aI σ)++[]) k
  |some (.d c)=>F0 N σ o.dst c args.toList k
  |some (.q c)=>gn o λd=>agP N σ d c args.toList k
  |some (.c c)=>F9 N σ o.dst c args.toList k
  |none=>none)
 |.call ⟨.builtin .append,⟨[x,y]⟩,⟨[t,C]⟩⟩=>bif Nat.beq t C then gn o λd=>bif o7 t then F3 P N σ d t (aI σ x) (aI σ y) k else bif Kr t d x then Gc P N σ d t (aI σ x) (aI σ y) k else tj P N σ d t (aI σ x) (aI σ y) k else none
 |.makeMap _ none=>gn o λd=>QJ N σ d k
 |.lookup t x i false=>A9 P σ t (aI σ x) (aI σ i) λv=>gG N σ o.dst v k
 | .mapUpdate t x i v=>(match o.dst with
  |none=>Ba P σ t (aI σ x) (aI σ i) (aI σ v) k
  |some _=>none)
 | .call ⟨.value (.tmp t),args,_⟩=>(match Kl (aI σ (.tmp t))with
  | some (f,ex)=>(match Φ f with
   |some (.i c)=>F6 N σ o.dst c (args.toList.map (aI σ)++ex) k
   |_=>none)
  |none=>none)
 | .makeFunc (.func f) ⟨[]⟩ D=>(match F7 σ D.toList with
  |some ps=>gG N σ o.dst (.fn f ps) k
  |none=>none)
 |.call ⟨.builtin .clear,⟨[x]⟩,⟨[t]⟩⟩=>Fu P σ t (aI σ x) λE=>gG N E o.dst .undef k
 |_=>none
def dm{X:Type}(P:Program)(N:Nat)(Φ:dR)(σ:S)(o:Oper)(k:S->aj X):aj X:=
 bif fD o.op then mb P σ o.op λv=>gG N σ o.dst v k else gR P N Φ σ o k
def Gd{X:Type}(P:Program)(N:Nat)(Φ:dR)(σ:S)(o:Oper)(k:S->aj X):aj X:=
 match o.op,o.dst with
 | .store t x y,none=>(match aI σ y with
  |.view [q] s i j=>Ga P σ q s i j t (aI σ x) k
  |_=>dm P N Φ σ o k)
 |.slice t x (some lo) (some hi) (some C),some d=>Dd P σ t (aI σ x) (aI σ lo) (aI σ hi) (aI σ C) (bif Nat.blt d N then k (σ.set d .undef)else none)
 |_,_=>dm P N Φ σ o k
def fL(σ:S)(ops:Array Oper)(o:Oper):aj Bool:=
 match o.guard with
 |none=>some true
 | some (j,want)=>match (ops[j]?).bind (·.dst)with
  | some t=>(match σ.t t with
   |.lf (.v (.bool b))=>some (b==want)
   |.skip=>some false
   |_=>none)
  |none=>none
def Ge(ops:Array Oper)(j:Nat):Bool:=ops.toList.any λo=>match o.guard with
 |some (i,_)=>Nat.beq i j
 |none=>false
def r3{X:Type}(σ:S)(C:aj Tmp)(g:Bool)(k:S->aj X):aj X:=
 bif g then (match C with
  | some d=>(match σ.t d with
   |.lf (.v (.bool b))=>bif b then k (σ.set d (.lf (.v (.bool true))))else k (σ.set d (.lf (.v (.bool false))))
   |_=>k σ)
  |none=>k σ)else k σ
def Bd{X:Type}(P:Program)(N:Nat)(Φ:dR)(ops:Array Oper):Nat->aa Oper->S->(S->aj X)->aj X
 |_,[],σ,k=>k σ
 | j,o :: rest,σ,k=>match fL σ ops o with
  |some true=>Gd P N Φ σ o λC=>r3 C o.dst (Ge ops j) λD=>Bd P N Φ ops (j+1) rest D k
  |some false=>gG N σ o.dst .skip λC=>Bd P N Φ ops (j+1) rest C k
  |none=>none
/-! Regions whose order is open: what is listed is a set of bits. -/
def de{X:Type}(P:Program)(N:Nat)(Φ:dR)(ops:Array Oper)(σ:S)(o:Oper)(k:S->aj X):aj X:=
 match fL σ ops o with
 |some true=>dm P N Φ σ o k
 |some false=>gG N σ o.dst .skip k
 |none=>none
def lG(ops:Array Oper)(L j:Nat):Bool:=!L.testBit j&&(match ops[j]? with
 |some o=>o.after.toList.all λe=>!Region.binds .any e ||L.testBit e.on
 |none=>false)
def Gf(ops:Array Oper)(i W j:Nat):Bool:=(match ops[j]? with
 |some o=>o.after.toList.any λe=>Region.binds .any e&&(Nat.beq e.on i ||W.testBit e.on)
 |none=>false)
def waits(ops:Array Oper)(i:Nat):Nat->Nat->Nat->Nat
 |0,_,W=>W
 |n+1,j,W=>waits ops i n (j+1) (bif Gf ops i W j then W |||2 ^ j else W)
def eG(o:Oper)(n:Nat):Bool:=match o.dst with
 | some d=>(match o.op with
  |.alloc _|.box .. |.buildSlice .. |.makeSlice ..=>Nat.beq n d
  |.call ⟨.value (.func _),_,_⟩=>Nat.ble (1000000000100000+1000*d) n
  |.call ⟨.builtin .append,_,_⟩=>Nat.beq n d
  |_=>false)
 |none=>false
def Ks(Φ:dR)(C:Op):Bool:=fD C || (match C with
 |.alloc _|.box .. |.buildSlice .. |.makeSlice ..=>true
 | .call ⟨.value (.func f),_,_⟩=>(match Φ f with
  |some (.p _)=>true
  |some (.q _)=>true
  |_=>false)
 |_=>false)
def gJ(g:Oper->Bool)(ops:Array Oper)(i L W:Nat):Nat->Nat->Bool
 |0,_=>false
 | f+1,j=>(!(Nat.beq j i || L.testBit j || W.testBit j)&&(match ops[j]? with
  |some C=>g C
  |none=>false)) ||gJ g ops i L W f (j+1)
def Gg(g:Oper->Bool)(ops:Array Oper)(C:Oper)(i L W:Nat):Nat->Nat->Bool
 |0,_=>true
 | n+1,j=>(Nat.beq j i || L.testBit j || (bif W.testBit j then Gf ops i W j else (match ops[j]? with
  |some D=>g D&&C.apart ops D
  |none=>true)))&&Gg g ops C i L W n (j+1)
def Kt(c:mV):Bool:=c.ps.all λp=>match p with
 |.v _ _=>true
 |.p _ g _=>Nat.beq g 0
 |.s _ _=>false
def r4(ok:Nat->Nat->Bool)(σ:S):aa PK->aa Operand->Bool
 | .p _ _ _ :: ps,.tmp t :: xs=>(match σ.t t with
  |.aH r _=>ok t r
  |_=>false)&&r4 ok σ ps xs
 |.v _ _::ps,_::xs=>r4 ok σ ps xs
 |[],[]=>true
 |_,_=>false
def ir(σ:S):aa PK->aa Operand->aa Nat
 | .p _ _ _ :: ps,x :: xs=>(match aI σ x with
  |.aH r _=>r::ir σ ps xs
  |_=>ir σ ps xs)
 |_::ps,_::xs=>ir σ ps xs
 |_,_=>[]
def ow(Φ:dR)(σ:S)(o:Oper):aa Nat:=match o.op with
 | .call ⟨.value (.func f),args,_⟩=>(match Φ f with
  |some (.m c)=>ir σ c.ps args.toList
  |_=>[])
 |_=>[]
def jO(t:Nat)(o:Oper):Bool:=match o.dst with
 |some d=>Nat.beq d t
 |none=>false
def vf(o:Oper):Bool:=(match o.op with
 |.alloc _=>true
 |_=>false)&&o.guard.isNone&&(match o.dst with
 |some d=>Nat.blt d 20000
 |none=>false)
def nH(o:Oper):Bool:=(match o.op with
 |.alloc _=>true
 |.buildSlice t _ _=>!o7 t
 |.makeSlice ..=>true
 |_=>false)&&(match o.dst with
 |some d=>Nat.blt d 20000
 |none=>false)
def isApp(o:Oper):Bool:=match o.op with
 |.call ⟨.builtin .append,⟨[x,_]⟩,⟨[t,C]⟩⟩=>!o7 t&&Nat.beq t C && !Bc o.dst t x
 |_=>false
def QL(Φ:dR)(ops:Array Oper)(i L W:Nat)(σ:S)(o:Oper):Bool:=match o.op with
 | .call ⟨.value (.func f),args,_⟩=>(match Φ f with
  |some (.m c)=>Kt c&&r4 (λt r=>!gJ (jO t) ops i L W ops.size 0 && !gJ (λok=>eG ok r) ops i L W ops.size 0 && !gJ isApp ops i L W ops.size 0) σ c.ps args.toList
  |_=>false)
 |_=>false
def A.nI(p pb:Nat->Bool):A->Bool:=A.fr (tL p pb)
def zj(σ:S)(o:Oper):aa Nat:=match o.op with
 | .store _ (.tmp t) _=>(match σ.t t with
  |.aH r _=>[r]
  |_=>[])
 | .call ⟨.builtin .append,⟨[.tmp t,_]⟩,⟨[_,_]⟩⟩=>(match σ.t t with
  |.lf (.own [r])=>[r]
  |_=>[])
 |_=>[]
def Ku(σ:S)(o:Oper):aa Nat:=match o.op with
 | .call ⟨.builtin .append,⟨[.tmp t,_]⟩,⟨[_,_]⟩⟩=>(match σ.t t with
  |.lf (.own [r])=>[r]
  |_=>[])
 |_=>[]
def aiw(t:Nat)(o:Oper):Bool:=match o.op with
 |.store _ (.tmp C) _=>Nat.beq C t
 |_=>false
def faR(ops:Array Oper)(i L W:Nat)(σ:S)(o:Oper):aa Nat:=match o.op,o.dst with
 | .fieldAddr _ (.tmp x) _,some t=>bif gJ (aiw t) ops i L W ops.size 0 then (match σ.t x with
  |.aH r _=>[r]
  |_=>[])else []
 |_,_=>[]
def zk(Φ:dR)(ops:Array Oper)(i L W:Nat)(σ:S)(n:Nat):Bool:=
 gJ (λo=>eG o n) ops i L W ops.size 0 ||gJ (λo=>cM n (ow Φ σ o) ||cM n (zj σ o)) ops i L W ops.size 0
def zl(Φ:dR)(ops:Array Oper)(i L W:Nat)(σ:S)(n:Nat):Bool:=
 zk Φ ops i L W σ n ||gJ (λo=>cM n (faR ops i L W σ o)) ops i L W ops.size 0
def Be(σ:S)(ops:Array Oper)(i L W n:Nat):Bool:=gJ (λo=>eG o n) ops i L W ops.size 0 ||gJ (λo=>cM n (Ku σ o)) ops i L W ops.size 0
def zm(Φ:dR)(o:Oper):Bool:=match o.op with
 | .call ⟨.value (.func f),_,_⟩=>(match Φ f with
  |some (.p _)=>true
  |_=>false)
 |_=>false
def mc(Φ:dR)(ops:Array Oper)(i L W t:Nat):Bool:=!gJ (λok=>jO t ok && !(nH ok ||isApp ok ||zm Φ ok)) ops i L W ops.size 0
def QM(Φ:dR)(ops:Array Oper)(i L W:Nat)(o:Oper):Bool:=match o.op with
 |.call ⟨.builtin .append,⟨[.tmp t,_]⟩,⟨[ty,C]⟩⟩=>mc Φ ops i L W t&&(!o7 ty&&Nat.beq ty C && !Bc o.dst ty (.tmp t))
 |_=>false
def me(Φ:dR)(ops:Array Oper)(i L W:Nat)(σ:S)(x:Nat):Bool:=!gJ (jO x) ops i L W ops.size 0&&(match σ.t x with
 |.aH r _=>zl Φ ops i L W σ r
 |.iX _=>true
 |_=>false)
def Kv(Φ:dR)(ops:Array Oper)(i L W:Nat)(σ:S)(o:Oper):Bool:=match o.op with
 |.fieldAddr _ (.tmp x) _=>me Φ ops i L W σ x
 |_=>false
def Kw(Φ:dR)(ops:Array Oper)(i L W:Nat)(σ:S)(t:Nat):Bool:=!gJ (λok=>jO t ok && !(vf ok ||Kv Φ ops i L W σ ok)) ops i L W ops.size 0
def Fb(Φ:dR)(ops:Array Oper)(i L W:Nat)(σ:S)(o:Oper):Bool:=match o.op with
 | .store _ (.tmp t) _=>o.dst.isNone&&Kw Φ ops i L W σ t&&(match σ.t t with
  |.ptr _=>false
  |_=>true)
 |_=>false
def QN(σ:S)(p:Nat->Bool)(o:Oper):Bool:=o.op.operands.toList.all λx=>(aI σ x).nr p
def QO(σ:S)(p pb:Nat->Bool)(o:Oper):Bool:=(o.op.operands.toList.all λx=>(aI σ x).nI p pb)&&(match o.op with
 | .load _ x=>(match aI σ x with
  |.aH r _=>!p r
  |_=>true)
 |_=>true)
def XM(Φ:dR)(ops:Array Oper)(L:Nat)(σ:S)(i:Nat):Bool:=match ops[i]? with
 | some C=>(fD C.op || (match fL σ ops C with
  |some b=>!b
  |none=>false))&&Nat.beq ((L |||2 ^ i) &&& waits ops i ops.size 0 0) 0&&Gg (λD=>Ks Φ D.op ||QL Φ ops i L (waits ops i ops.size 0 0) σ D ||Fb Φ ops i L (waits ops i ops.size 0 0) σ D ||QM Φ ops i L (waits ops i ops.size 0 0) D) ops C i L (waits ops i ops.size 0 0) ops.size 0&&QO σ (zl Φ ops i L (waits ops i ops.size 0 0) σ) (Be σ ops i L (waits ops i ops.size 0 0)) C
 |none=>false
def Gh{X:Type}(P:Program)(N:Nat)(Φ:dR)(ops:Array Oper)(L i:Nat)(σ:S)(o:Oper)(k:S->aj X):aj X:=
 match fL σ ops o with
 |some true=>mb P σ o.op λv=>bif v.nI (zl Φ ops i L (waits ops i ops.size 0 0) σ) (Be σ ops i L (waits ops i ops.size 0 0))then gG N σ o.dst v k else none
 |some false=>gG N σ o.dst .skip k
 |none=>none
/-! A call may be taken first where all that is free beside it are new blocks. -/
def A.fD:A->Bool
 |.lf (.v _)=>true
 | .agg cs=>cs.all λl=>match l with
  |.v _=>true
  |_=>false
 |_=>false
def QS(ops:Array Oper)(i L W:Nat)(σ:S)(o:Oper):Bool:=nH o&&(match fL σ ops o with
 |some b=>b
 | none=>false)&&(o.op.operands.toList.all λx=>(aI σ x).fD&&(match x with
  |.tmp t=>!gJ (jO t) ops i L W ops.size 0
  |_=>true))&&(match o.guard with
 | some (g,_)=>(match (ops[g]?).bind (·.dst)with
  |some t=>!gJ (jO t) ops i L W ops.size 0
  |none=>true)
 |none=>true)
def mY(Φ:dR)(o:Oper):Bool:=match o.op with
 | .call ⟨.value (.func f),_,_⟩=>(match Φ f with
  |some (.p _)=>true
  |some (.m _)=>true
  |_=>false)
 |_=>false
def Gi(o:Oper):Bool:=(match o.op with
 |.store _ (.tmp _) _=>true
 |_=>false)&&o.dst.isNone
def wO(σ:S)(o:Oper):Bool:=match o.op with
 | .store _ (.tmp t) _=>(match σ.t t with
  |.aH _ _=>true
  |_=>false)
 |_=>true
def Gj(Φ:dR)(o:Oper):Bool:=mY Φ o ||nH o ||isApp o ||Gi o
def wP(σ:S)(p:Nat->Bool)(r:Nat):Bool:=match σ.m r with
 |some (.ay cs)=>cs.all (Lf.nr p)
 |_=>true
def Df(o:Oper)(n:Nat):Bool:=jO n o
def XN(Φ:dR)(ops:Array Oper)(L:Nat)(σ:S)(i:Nat):Bool:=match ops[i]? with
 | some C=>Gj Φ C&&Nat.beq ((L ||| 2 ^ i) &&& waits ops i ops.size 0 0) 0&&Gg (QS ops i L (waits ops i ops.size 0 0) σ) ops C i L (waits ops i ops.size 0 0) ops.size 0 &&
   QN σ (λn=>gJ (λo=>Df o n) ops i L (waits ops i ops.size 0 0) ops.size 0) C&&(ow Φ σ C).all (wP σ (λn=>gJ (λo=>Df o n) ops i L (waits ops i ops.size 0 0) ops.size 0))&&wO σ C
 |none=>false
def qL(x:A)(n:Nat):aj V:=match x with
 | .eO xs=>(match xs[n]? with
  |some (false,[.v z])=>some z
  |_=>none)
 |_=>none
def QT(ops:Array Oper)(L:Nat)(σ:S)(i:Nat):Bool:=match ops[i]?,(List.range ops.size).filter (λj=>!(Nat.beq j i || L.testBit j))with
 | some C,[E]=>(match C.op,C.dst,C.guard,ops[E]? with
  | .extract (.tmp x) n,some _,none,some D=>(match D.op,D.dst,D.guard with
   |.store _ a b,none,none=>(qL (σ.t x) n).isSome&&wN (aI σ a) (aI σ b)&&C.apart ops D
   |_,_,_=>false)
  |_,_,_,_=>false)
 |_,_=>false
def qM{X:Type}(P:Program)(N:Nat)(Φ:dR)(ops:Array Oper):Nat->Nat->S->(S->aj X)->aj X
 | 0,L,σ,k=>(match (List.range ops.size).filter (lG ops L)with
  |[]=>k σ
  |_=>none)
 | f+1,L,σ,k=>(match (List.range ops.size).filter (lG ops L)with
  |[]=>k σ
  | [i]=>(match ops[i]? with
   |some o=>de P N Φ ops σ o λC=>r3 C o.dst (Ge ops i) λD=>qM P N Φ ops f (L |||2 ^ i) D k
   |none=>none)
  | rs=>(match rs.find? (XM Φ ops L σ)with
   | some i=>(match ops[i]? with
    |some o=>Gh P N Φ ops L i σ o λC=>r3 C o.dst (Ge ops i) λD=>qM P N Φ ops f (L |||2 ^ i) D k
    |none=>none)
   | none=>(match rs.find? (XN Φ ops L σ)with
    | some i=>(match ops[i]? with
     |some o=>de P N Φ ops σ o λC=>r3 C o.dst (Ge ops i) λD=>qM P N Φ ops f (L |||2 ^ i) D k
     |none=>none)
    | none=>(match rs.find? (QT ops L σ)with
     | some i=>(match ops[i]? with
      |some o=>de P N Φ ops σ o λC=>r3 C o.dst (Ge ops i) λD=>qM P N Φ ops f (L |||2 ^ i) D k
      |none=>none)
     |none=>none))))
/-! A new slice of constants may come first,beside values and calls of contents. -/
structure r5 where
 run:(X:Type)->S->(Exit->S->Option X)->Option X
abbrev mg:=Nat->aj r5
def kQ{X:Type}(P:Program)(N:Nat)(Φ:dR)(Λ:mg):Code->S->(Exit->S->aj X)->aj X
 |.skip,σ,k=>k .normal σ
 |.label _,σ,k=>k .normal σ
 |.ret,σ,k=>k .ret σ
 |.exit id,σ,k=>k (.exit id) σ
 |.region _ ops false,σ,k=>Bd P N Φ ops 0 ops.toList σ λC=>k .normal C
 |.region _ ops true,σ,k=>bif P.follows .mixedOrders then qM P N Φ ops ops.size 0 σ λC=>k .normal C else none
 | .seq x y,σ,k=>kQ P N Φ Λ x σ λe C=>match e with
  |.normal=>kQ P N Φ Λ y C k
  |e=>k e C
 | .cond c x y,σ,k=>match aI σ c with
  |.lf (.v (.bool b))=>bif b then kQ P N Φ Λ x σ k else kQ P N Φ Λ y σ k
  |_=>none
 | .block id c,σ,k=>match Λ id with
  |some b=>b.run X σ k
  | none=>kQ P N Φ Λ c σ λe C=>match e with
   |.exit D=>if D=id then k .normal C else k (.exit D) C
   |e=>k e C
 |_,_,_=>none
def AW(P:Program)(w0:Wd)(N:Nat)(c:Code)(σ:S)(K:Exit->S->Prop):Prop:=
 ∀a w,R w0 N σ a w->c.wp P (λe D w'=>∃C,K e C/\R w0 N C D w') a w
def occs:Code->aa (Nat×Code)
 |.seq x y=>occs x++occs y
 |.cond _ x y=>occs x++occs y
 |.block id c=>(id,c)::occs c
 |_=>[]
def Bf(P:Program)(N:Nat)(c:Code)(b:r5):Prop:=∀(X:Type) σ k (r:X) w0,b.run X σ k=some r->AW P w0 N c σ λe C=>k e C=some r
def ox(P:Program)(N:Nat)(Λ:mg)(l:aa (Nat×Code)):Prop:=∀p∈l,∀b,Λ p.1=some b->Bf P N (.block p.1 p.2) b
section
variable {P:Program} {w w':World} {w0:Wd} {B N:Nat} {af az:bk} {ρ ρ':Nat->Loc} {σ:S} {a:Act} {X:Type} {d:Nat} {r:X} {o:Oper} {Φ:dR} {Λ:mg}
def kK.mem{C:S}(D:o.dst=some d)(h:∀ af ρ a w,Rl w0 N af ρ σ a w->∃ w' az ρ' v,(execOp a.eval o).run P w = .ok (.value v) w'/\Rl w0 N az ρ' C (a.put (some d) v) w'):kK P w0 N o σ C:=by
 intro a w K Q hR E;obtain⟨af,ρ,hR⟩:=hR;obtain⟨w',az,ρ',v,I,O⟩:=h af ρ a w hR;unfold Oper.wp;rw[I,Oper.upon_value,D];exact E _ _ ⟨az,ρ',O⟩
def jx{k:Nat -> aj X}(h:gn o k=some r):∃ d,o.dst=some d/\k d=some r:=by
 unfold gn at h
 grind
def jl{s:Sem Value}{v:Value}(h:s.run P w = .ok v w'):(do pure (.value (<-s)):Sem Next).run P w = .ok (.value v) w':=by
 rw[fQ,h];rfl
def XO{b:Go.Builtin}{x:Operand}{t:TypeId}{v:Value}(C:o.op = .call ⟨.builtin b,⟨[x]⟩,⟨[t]⟩⟩)(h:∀ cs,(builtin b #[t] o.type cs #[a.eval x]).run P w = .ok (.value v) w'):(execOp a.eval o).run P w = .ok (.value v) w':=by
 simp only[execOp,C,resolve,fQ,Sem.run_pure,lU,invoke,List.map_toArray,List.map_cons,List.map_nil];exact h _
def QU{b:Go.Builtin}{x y:Operand}{t C:TypeId}{v:Value}(D:o.op = .call ⟨.builtin b,⟨[x,y]⟩,⟨[t,C]⟩⟩)(h:∀ cs,(builtin b #[t,C] o.type cs #[a.eval x,a.eval y]).run P w = .ok (.value v) w'):(execOp a.eval o).run P w = .ok (.value v) w':=by
 simp only[execOp,D,resolve,fQ,Sem.run_pure,lU,invoke,List.map_toArray,List.map_cons,List.map_nil];exact h _
def QV{C:Op}:cm λX k=>mb (X:=X) P σ C k:=λX Y k g=>by
 unfold mb;split
 ·rfl
 ·rfl
 ·repeat' first|rfl|refine cS ?_ ?_|split
 ·exact ahG _ _ _ _
 ·exact Xm _ _ _ _
 ·exact ahA _ _ _ _
 ·exact(Qn.comp λa=>ahB.comp (b:=λX k z=>k (.lf (.v z))) λz _ _ _ _=>rfl) X Y k g
 ·exact ahJ _ _ _ _
 ·exact ahC _ _ _ _
 ·exact ahH _ _ _ _
 ·exact ahD _ _ _ _
 ·exact ahI _ _ _ _
 ·exact ahF _ _ _ _
 ·unfold Kd;split<;>rfl
 ·exact ahE _ _ _ _
 ·exact Xn _ _ _ _
 ·exact Xn _ _ _ _
 ·exact ahK _ _ _ _
 ·rfl
def QW{op:Op}{k:A->aj X}(h:mb P σ op k=some r):∃ v,k v=some r/\lY (λX k=>mb (X:=X) P σ op k) v/\∀ af ρ a w (o:Oper),o.op=op->Rl w0 N af ρ σ a w->∃ u,(execOp a.eval o).run P w = .ok (.value u) w/\RA w w0.heap.size af ρ v u:=by
 obtain⟨z,O,Y⟩:=QV.lA h
 refine⟨z,O,Y,λaf ρ a w o I hR=>?_⟩
 replace h:mb P σ op some=some z:=Y A some;clear Y O;unfold mb at h;split at h
 ·cases h;exact⟨_,by simp[execOp,I],hR.aI _⟩
 ·cases h;exact⟨_,by simp[execOp,I],hR.aI _⟩
 ·rename_i c x y;split at h
  ·rename_i b hb;have hc:=hR.aI c;rw[hb]at hc;have hv:=hc.2.yA;cases b with
   |true=>cases h;exact⟨a.eval x,by simp[execOp,I,hv,asBool],hR.aI x⟩
   |false=>cases h;exact⟨a.eval y,by simp[execOp,I,hv,asBool],hR.aI y⟩
  ·cases h
 next t parts=>obtain⟨_,⟨⟩,C⟩:=agy (w0:=w0) (N:=N) h;obtain⟨v,D,E⟩:=C af ρ a w hR;exact⟨v,by simp only[execOp,I];exact jl D,E⟩
 next t x=>obtain⟨_,⟨⟩,C⟩:=Wa (w0:=w0) (N:=N) h;obtain⟨v,D,E⟩:=C af ρ a w hR _ (hR.aI x);exact⟨v,by simp only[execOp,I];exact jl D,E⟩
 next op t x y yt=>obtain⟨_,⟨⟩,C⟩:=agJ (w0:=w0) (N:=N) h;obtain⟨v,D,E⟩:=C af ρ a w hR x y _ _ (hR.aI x) (hR.aI y);exact⟨v,by simp only[execOp,I];exact jl D,E⟩
 next op t x=>obtain⟨u,hx,h⟩:=OP h;obtain⟨_,⟨⟩,hp,C⟩:=agb (P:=P) h;have O:=hR.aI x;rw[hx]at O;obtain⟨T,D,Z⟩:=C w _ af [] _ O.2;exact⟨T,by simp only[execOp,I];exact jl D,V.Fg hp,Z⟩
 next s d' x=>obtain⟨_,⟨⟩,C⟩:=agF (w0:=w0) (N:=N) h;obtain⟨v,D,E⟩:=C af ρ a w hR _ (hR.aI x);exact⟨v,by simp only[execOp,I];exact jl D,E⟩
 next s x f=>obtain⟨_,⟨⟩,C⟩:=agf h;obtain⟨v,D,E⟩:=C w _ af ρ _ (hR.aI x);exact⟨v,by simp only[execOp,I];exact jl D,E⟩
 next s x f=>obtain⟨_,⟨⟩,C⟩:=agG h;obtain⟨v,D,E⟩:=C w _ af ρ _ (hR.aI x);exact⟨v,by simp only[execOp,I];exact jl D,E⟩
 next t x i=>obtain⟨_,⟨⟩,C⟩:=agh (w0:=w0) (N:=N) h;obtain⟨v,D,E⟩:=C af ρ a w hR _ _ (hR.aI x) (hR.aI i);exact⟨v,by simp only[execOp,I];exact jl D,E⟩
 next t x i=>obtain⟨_,⟨⟩,C⟩:=agE h;obtain⟨v,D,E⟩:=C w _ af ρ _ _ (hR.aI x) (hR.aI i);exact⟨v,by simp only[execOp,I];exact jl D,E⟩
 next x i=>obtain⟨_,⟨⟩,C⟩:=agj (P:=P) h;obtain⟨v,D,E⟩:=C w _ af ρ _ (hR.aI x);exact⟨v,by simp only[execOp,I];exact jl D,E⟩
 next x=>obtain⟨h,C⟩:=ahR (w:=w) (B:=w0.heap.size) (af:=af) (ρ:=ρ) h;cases h;obtain⟨ad,hu⟩:=C _ (hR.aI x);refine⟨a.eval x,?_,hR.aI x⟩;simp only[execOp,I,hu];rfl
 next x t=>obtain⟨_,⟨⟩,C⟩:=agi (w0:=w0) (N:=N) (ty:=o.type) h;obtain⟨v,D,E⟩:=C af ρ a w hR _ (hR.aI x);exact⟨v,XO I λ_=>jl D,E⟩
 next x y t T=>obtain⟨_,⟨⟩,C⟩:=WA (P:=P) h;obtain⟨v,D,E⟩:=C w _ af ρ t o.type _ _ (hR.aI x) (hR.aI y);exact⟨v,QU I λ_=>jl (s:=Builtin.max_ #[t,T] o.type #[a.eval x,a.eval y]) D,E⟩
 next x y t T=>obtain⟨_,⟨⟩,C⟩:=WA (P:=P) h;obtain⟨v,D,E⟩:=C w _ af ρ t o.type _ _ (hR.aI x) (hR.aI y);exact⟨v,QU I λ_=>jl (s:=Builtin.min_ #[t,T] o.type #[a.eval x,a.eval y]) D,E⟩
 ·rename_i t x lo hi;obtain⟨_,⟨⟩,C⟩:=agO (w0:=w0) (N:=N) h;have U:∀ z:aj Operand,(∀ b,z.map (aI σ)=some b->∃ v,z.map a.eval=some v/\RA w w0.heap.size af ρ b v)/\(z.map (aI σ)=none->z.map a.eval=none):=by
   intro z;cases z with
   |none=>exact⟨λb hb=>(by cases hb),λ_=>rfl⟩
   |some z=>exact⟨λb hb=>(by cases hb;exact⟨_,rfl,hR.aI z⟩),λhb=>(by cases hb)⟩
  obtain⟨v,D,Z⟩:=C af ρ a w hR _ _ _ (hR.aI x) (U lo).1 (U lo).2 (U hi).1 (U hi).2;exact⟨v,by simp only[execOp,I];exact jl D,Z⟩
 ·cases h
def kK.skip{C:S}(D:o.dst=none)(h:∀ af ρ a w,Rl w0 N af ρ σ a w->∃ w' az,(execOp a.eval o).run P w = .ok .skip w'/\Rl w0 N az ρ C a w'):kK P w0 N o σ C:=by
 intro a w K Q hR E;obtain⟨af,ρ,hR⟩:=hR;obtain⟨w',az,I,O⟩:=h af ρ a w hR;unfold Oper.wp;rw[I,Oper.upon_skip,D];exact E _ _ ⟨az,ρ,O⟩
def Kx{s:Sem ah}(h:s.run P w = .ok () w'):(do s;pure .skip:Sem Next).run P w = .ok .skip w':=by
 rw[fQ,h];rfl
def aix{k:S->aj X}(dI:fC P Φ)(h:gR P N Φ σ o k=some r):∃ O,k O=some r/\kK P w0 N o σ O:=by
 unfold gR at h;split at h
 ·rename_i e C;obtain⟨d,D,h⟩:=jx h;obtain⟨O,h,T⟩:=agp (w0:=w0) h
  refine⟨O,h,.mem D λaf ρ a w hR=>?_⟩
  obtain⟨w',az,ρ',v,E,I⟩:=T af ρ a w hR;exact⟨w',az,ρ',v,by simp only[execOp,C];exact jl E,I⟩
 ·rename_i e x C;obtain⟨d,D,h⟩:=jx h;obtain⟨O,h,T⟩:=ahP (w0:=w0) (e:=e) h
  refine⟨O,h,.mem D λaf ρ a w hR=>?_⟩
  obtain⟨w',az,ρ',v,E,I⟩:=T af ρ a w hR _ (hR.aI x);exact⟨w',az,ρ',v,by simp only[execOp,C];exact jl E,I⟩
 ·rename_i t len parts C;obtain⟨d,D,h⟩:=jx h;cases hn:o7 t with
  | true=>
   rw[hn,aq]at h;obtain⟨O,h,T⟩:=ahS (w0:=w0) h
   refine⟨O,h,.mem D λaf ρ a w hR=>?_⟩
   obtain⟨w',az,ρ',v,E,I⟩:=T af ρ a w hR;exact⟨w',az,ρ',v,by simp only[execOp,C];exact jl E,I⟩
  | false=>
   rw[hn,av]at h;obtain⟨O,h,T⟩:=agC (w0:=w0) h
   refine⟨O,h,.mem D λaf ρ a w hR=>?_⟩
   obtain⟨w',az,ρ',v,E,I⟩:=T af ρ a w hR;exact⟨w',az,ρ',v,by simp only[execOp,C];exact jl E,I⟩
 ·rename_i t x y C;split at h
  ·rename_i D;cases hn:wN (aI σ x) (aI σ y)with
   | true=>
    rw[hn,aq]at h;obtain⟨O,h,T⟩:=ah0 (w0:=w0) (N:=N) h
    refine⟨O,h,.skip D λaf ρ a w hR=>?_⟩
    obtain⟨w',az,E,I⟩:=T af ρ a w hR _ _ (hR.aI x) (hR.aI y);exact⟨w',az,by simp only[execOp,C];exact Kx E,I⟩
   | false=>
    rw[hn,av]at h;obtain⟨O,h,T⟩:=Wc (w0:=w0) (N:=N) h
    refine⟨O,h,.skip D λaf ρ a w hR=>?_⟩
    obtain⟨w',E,I⟩:=T af ρ a w hR _ _ (hR.aI x) (hR.aI y);exact⟨w',af,by simp only[execOp,C];exact Kx E,I⟩
  ·cases h
 ·rename_i t l c C;obtain⟨d,D,h⟩:=jx h;obtain⟨O,h,T⟩:=agq (w0:=w0) h
  refine⟨O,h,.mem D λaf ρ a w hR=>?_⟩
  obtain⟨w',az,ρ',v,E,I⟩:=T af ρ a w hR _ _ (hR.aI l) (hR.aI c);exact⟨w',az,ρ',v,by simp only[execOp,C];exact jl E,I⟩
 ·rename_i f args jv C;split at h
  next c U=>obtain⟨d,D,h⟩:=jx h;obtain⟨Y,Z⟩:=dI f _ U;exact WN C D Y Z (WL (w0:=w0) (N:=N) _) h
  next c U=>obtain⟨Y,Z⟩:=dI f _ U;exact ahg C Y Z h
  next c U=>obtain⟨d,D,h⟩:=jx h;obtain⟨Y,Z⟩:=dI f _ U;exact ah5 C D Y Z h
  ·rename_i F U;obtain⟨d,D,h⟩:=jx h;obtain⟨Y,Z⟩:=dI f _ U;split at h
   next x hx=>exact ah4 C hx D Y Z h
   ·cases h
  next c U=>obtain⟨Y,Z⟩:=dI f _ U;exact XD (ex:=[]) C rfl Y Z h
  next c U=>obtain⟨Y,Z⟩:=dI f _ U;exact ahm C Y Z h
  next c U=>obtain⟨d,D,h⟩:=jx h;obtain⟨Y,Z⟩:=dI f _ U;exact WN C D Y Z (agT (w0:=w0) (N:=N) _) h
  next c U=>obtain⟨Y,Z⟩:=dI f _ U;exact aic C Y Z h
  ·cases h
 ·rename_i x y t t' C;cases mR:Nat.beq t t' with
  |false=>rw[mR]at h;cases h
  | true=>
   rw[mR,aq]at h;obtain rfl:=cE mR;obtain⟨d,D,h⟩:=jx h;have hh:∃ O,k O=some r/\∀ af ρ a w,Rl w0 N af ρ σ a w->∀ u v,RA w w0.heap.size af ρ (aI σ x) u->RA w w0.heap.size af ρ (aI σ y) v->
     ∃w' az ρ' z,(Builtin.append_ #[t,t] o.type #[u,v]).run P w = .ok z w'/\Rl w0 N az ρ' O (a.put (some d) z) w':=by
    cases hn:o7 t with
    |true=>rw[hn,aq]at h;exact ahY h
    | false=>
     rw[hn,av]at h;cases hk:Kr t d x with
     |true=>rw[hk,aq]at h;exact aiu h
     |false=>rw[hk,av]at h;exact agr h
   obtain⟨O,h,T⟩:=hh
   refine⟨O,h,.mem D λaf ρ a w hR=>?_⟩
   obtain⟨w',az,ρ',v,E,I⟩:=T af ρ a w hR _ _ (hR.aI x) (hR.aI y);exact⟨w',az,ρ',v,QU C λ_=>jl E,I⟩
 ·rename_i t C;obtain⟨d,D,h⟩:=jx h;obtain⟨O,h,T⟩:=aij (w0:=w0) (t:=t) (P:=P) h
  refine⟨O,h,.mem D λaf ρ a w hR=>?_⟩
  obtain⟨w',az,ρ',v,E,I⟩:=T af ρ a w hR;exact⟨w',az,ρ',v,by simp only[execOp,C];exact jl E,I⟩
 ·rename_i t x i C;obtain⟨v,h1,_,T⟩:=ain (w0:=w0) (N:=N) h
  refine kK.val h1 λaf ρ a w hR=>?_
  obtain⟨y,E,I⟩:=T af ρ a w hR _ _ (hR.aI x) (hR.aI i);exact⟨y,by simp only[execOp,C];exact jl E,I⟩
 ·rename_i t x i v C;split at h
  ·rename_i D;obtain⟨O,h,_,T⟩:=aio (w0:=w0) (N:=N) h
   refine⟨O,h,.skip D λaf ρ a w hR=>?_⟩
   obtain⟨w',E,I⟩:=T af ρ a w hR _ _ _ (hR.aI x) (hR.aI i) (hR.aI v);exact⟨w',af,by simp only[execOp,C];exact Kx E,I⟩
  ·cases h
 ·rename_i t args jv C;split at h
  ·rename_i f cap wo;split at h
   next c U=>obtain⟨Y,Z⟩:=dI f _ U;exact XD C wo Y Z h
   ·cases h
  ·cases h
 ·rename_i f XP C;split at h
  ·rename_i ps qD;obtain⟨h1,h2⟩:=XE (w0:=w0) (N:=N) _ _ qD
   refine kK.val h λaf ρ a w hR=>⟨.func (.func f) #[] (XP.map a.eval),by simp[execOp,C,Instr.makeFunc],_,rfl,by simp[h1],λj p hp=>?_⟩
   obtain⟨b,off,e1,e2⟩:=h2 af ρ a w hR j p hp;exact⟨b,off,e1,by simpa using e2⟩
  ·cases h
 ·rename_i x t C;obtain⟨o6,h1,T⟩:=agu (w0:=w0) (N:=N) (ty:=o.type) h;have run:∀ af ρ a w,Rl w0 N af ρ σ a w->∃ w',(execOp a.eval o).run P w = .ok (.value (.tuple #[])) w'/\Rl w0 N af ρ o6 a w':=by
   intro af ρ a w hR;obtain⟨w',E,I⟩:=T af ρ a w hR _ (hR.aI x);exact⟨w',XO C λ_=>jl E,I⟩
  unfold gG at h1;split at h1
  ·rename_i D
   refine⟨_,h1,λa w K Q hR hK=>?_⟩
   obtain⟨af,ρ,hR⟩:=hR;obtain⟨w',E,I⟩:=run af ρ a w hR;unfold Oper.wp;rw[E,Oper.upon_value,D];exact hK _ _ ⟨af,ρ,I⟩
  ·rename_i d D;cases hN:Nat.blt d N with
   |false=>rw[hN]at h1;cases h1
   | true=>
    rw[hN,aq]at h1
    refine⟨_,h1,.mem D λaf ρ a w hR=>?_⟩
    obtain⟨w',E,I⟩:=run af ρ a w hR;exact⟨w',af,ρ,_,E,I.set trivial (by have:=cr hN;omega)⟩
 ·cases h
def QX{k:S -> aj X}(E:fC P Φ)(h:dm P N Φ σ o k=some r):∃ C,k C=some r/\kK P w0 N o σ C:=by
 unfold dm at h;cases D:fD o.op with
 | true=>
  rw[D,aq]at h;obtain⟨v,I,_,O⟩:=QW h;exact kK.val I λaf ρ a w hR=>O af ρ a w o rfl hR
 | false=>
  rw[D]at h;exact aix E h
def aiy{k:S->aj X}(Y:fC P Φ)(h:Gd P N Φ σ o k=some r):∃ D,k D=some r/\kK P w0 N o σ D:=by
 unfold Gd at h;split at h
 ·rename_i t x y E I;split at h
  ·rename_i q s i j hy;obtain⟨D,C,O⟩:=aif (w0:=w0) (N:=N) h
   refine⟨D,C,.skip I λaf ρ a w hR=>?_⟩
   have Z:=hR.aI y;rw[hy]at Z;obtain⟨w',az,T,dc⟩:=O af ρ a w hR _ _ (hR.aI x) Z;exact⟨w',az,by simp only[execOp,E];exact Kx T,dc⟩
  ·exact QX Y h
 ·rename_i t x lo hi mx d E I;obtain⟨C,O⟩:=aii (w0:=w0) (N:=N) h;cases U:Nat.blt d N with
  |false=>rw[U]at C;cases C
  | true=>
   rw[U,aq]at C
   refine⟨_,C,.mem I λaf ρ a w hR=>?_⟩
   obtain⟨v,T⟩:=O af ρ a w hR _ _ _ _ (hR.aI x) (hR.aI lo) (hR.aI hi) (hR.aI mx);refine⟨w,af,ρ,v,?_,hR.set trivial (by have:=cr U;omega)⟩;simp only[execOp,E,Option.map_some];exact jl T
 ·exact QX Y h
/-! What an operation gives hangs on its operands and on the roots that they name. -/
def A.key:A->aj (aa Nat)
 |.lf (.own q)=>some q
 |.view q _ _ _=>some q
 |.ptr (_::_::_::q)=>some q
 |_=>none
def Sm(σ2 σ:S)(x:A):Prop:=∀q,x.key=some q->∀(X:Type) (k:V->aj X),iZ σ2.m q k=iZ σ.m q k
def Sm.eq{σ2:S}(C:σ2.m=σ.m)(x:A):Sm σ2 σ x:=λq _ X k=>by rw[C]
def Sm.lf{σ2:S}{l:Lf}(h:Sm σ2 σ (.lf l))(k:V->aj X):n8 σ2 l k=n8 σ l k:=by
 cases l with
 |own q=>exact h q rfl X k
 |_=>rfl
def Sm.bin{σ2:S}{C:BinOp}{t:TypeId}{x y:A}(h:Sm σ2 σ x)(k:A->aj X):yN P σ2 C t x y k=yN P σ C t x y k:=by
 unfold yN;split
 ·rfl
 ·split
  ·exact h.lf _
  ·rfl
 ·rfl
def Sm.conv{σ2:S}{t C:TypeId}{x:A}(h:Sm σ2 σ x)(k:A->aj X):yK P σ2 t C x k=yK P σ t C x k:=by
 unfold yK;split
 ·rfl
 ·exact h.lf _
 ·rfl
def Sm.idx{σ2:S}{t:TypeId}{x i:A}(h:Sm σ2 σ x)(k:A->aj X):yC P σ2 t x i k=yC P σ t x i k:=by
 unfold yC;split
 ·rfl
 ·split
  ·split
   ·rfl
   ·exact h _ rfl _ _
   ·rfl
  ·rfl
def Sm.len{σ2:S}{t:TypeId}{x:A}(h:Sm σ2 σ x)(k:A->aj X):AN P σ2 t x k=AN P σ t x k:=by
 cases x with
 |lf l=>exact h.lf _
 |_=>rfl
def Sm.slc{σ2:S}{t:TypeId}{x:A}{lo hi:aj A}(h:Sm σ2 σ x)(k:A->aj X):yQ P σ2 t x lo hi k=yQ P σ t x lo hi k:=by
 unfold yQ AT;split
 ·simp only[h _ rfl]
 ·simp only[h _ rfl]
 ·rfl
def Sm.load{σ2:S}{t:TypeId}{x:A}(h:Sm σ2 σ x)(hb:∀ r j,x = .aH r j->σ2.m r=σ.m r)(k:A->aj X):nt P σ2 t x k=nt P σ t x k:=by
 unfold nt;split
 ·rfl
 ·split
  ·rw[hb _ _ rfl]
  ·rfl
  ·exact h _ rfl _ _
  ·rfl
def XQ{σ2:S}(C:Op)(h:∀ x∈C.operands,aI σ2 x=aI σ x/\Sm σ2 σ (aI σ x))(hl:∀ t x,C = .load t x->∀ k:A->aj X,nt P σ2 t (aI σ x) k=nt P σ t (aI σ x) k)(k:A->aj X):mb P σ2 C k=mb P σ C k:=by
 unfold mb;split
 case h_4 t parts=>
  have e:(parts.toList.map λp=>(p.1,aI σ2 p.2))=parts.toList.map λp=>(p.1,aI σ p.2):=List.map_congr_left λp I=>by rw[(h p.2 (by simp only[Op.operands];exact List.mem_toArray.2 (List.mem_map_of_mem (f:=(·.2)) I))).1]
  simp only[CS,e]
 case h_18 t x lo hi=>
  have e:∀ z:aj Operand,(∀ y,z=some y->aI σ2 y=aI σ y)->z.map (aI σ2)=z.map (aI σ):=by
   intro z O;cases z with
   |none=>rfl
   |some z=>exact bx some (O z rfl)
  have E:=h x (by simp[Op.operands]);rw[E.1,e lo (λy D=>(h y (by subst D;simp[Op.operands])).1),e hi (λy D=>(h y (by subst D;simp[Op.operands])).1)];exact E.2.slc k
 all_goals simp[Op.operands,Call.operands]at h
 case h_5=>rw[h.1];exact hl _ _ rfl k
 case h_6=>rw[h.1.1,h.2.1];exact h.1.2.bin k
 case h_8=>rw[h.1];exact h.2.conv k
 case h_11=>rw[h.1.1,h.2.1];exact h.1.2.idx k
 case h_15=>rw[h.1];exact h.2.len k
 all_goals first|rfl|simp only[h]
def XR{σ2:S}(C:Op)(D:σ2.m=σ.m)(h:∀ x∈C.operands,aI σ2 x=aI σ x)(k:A->aj X):mb P σ2 C k=mb P σ C k:=
 XQ C (λx E=>⟨h x E,.eq D _⟩) (λt x _ k=>(Sm.eq D _).load (λr _ _=>by rw[D]) k) k
def XS{σ2:S}(C:σ2.m=σ.m)(q:aa Nat)(s i j:Nat)(k:V->aj X):uM σ2 q s i j k=uM σ q s i j k:=by
 simp only[uM,C]
def QY{σ2:S}(C:σ2.m=σ.m)(x:Lf)(k:V->aj X):n8 σ2 x k=n8 σ x k:=(Sm.eq C _).lf k
def aiz{σ2:S}(C:σ2.m=σ.m)(x:A)(k:V->aj X):rL σ2 x k=rL σ x k:=by
 cases x<;>simp only[rL,QY C,XS C]
def QZ{σ2:S}(C:σ2.m=σ.m):∀ (xs:aa Lf) (k:aa V->aj X),qB σ2 xs k=qB σ xs k
 |[],k=>rfl
 | x :: xs,k=>by
  simp only[qB,QY C,QZ C xs]
def XT{σ2:S}(C:σ2.m=σ.m)(x:A)(k:Pt->aj X):ny σ2 x k=ny σ x k:=by
 unfold ny;simp only[QZ C,XS C]
def Q0{σ2:S}{f:A->(Pt->aj X)->aj X}:∀ (xs:aa Operand) (k:aa Pt->aj X),(∀ x∈xs,aI σ2 x=aI σ x)->uT f σ2 xs k=uT f σ xs k
 |[],k,_=>rfl
 | x :: xs,k,h=>by
  simp only[uT,h x (.head _),Q0 xs _ λy C=>h y (.tail _ C)]
def aiA{σ2:S}(C:σ2.m=σ.m)(xs:aa Operand)(k:aa Pt->aj X)(h:∀ x∈xs,aI σ2 x=aI σ x):rR σ2 xs k=rR σ xs k:=by
 unfold rR;rw[show ny σ2=ny σ from funext λx=>funext λk=>XT C x k,Q0 xs k h]
def aiB{σ2:S}(C:σ2.m=σ.m)(x:A)(k:Pt->aj X):uS σ2 x k=uS σ x k:=by
 unfold uS;simp only[XT C,QZ C,C]
def aiC{σ2:S}(C:σ2.m=σ.m)(xs:aa Operand)(k:aa Pt->aj X)(h:∀ x∈xs,aI σ2 x=aI σ x):AU σ2 xs k=AU σ xs k:=by
 unfold AU;rw[show uS σ2=uS σ from funext λx=>funext λk=>aiB C x k,Q0 xs k h]
/-! .. and a root that it does not name is of no account. -/
def Gk(n:Nat)(x:aP)(m:Nat->aj aP):Nat->aj aP:=bG (λr=>bif Nat.beq r n then none else (m r).map (aP.drop n)) n (some x)
def XU{n:Nat}{x:aP}{m:Nat->aj aP}{q:Nat}(h:q≠n):Gk n x m q=(m q).map (aP.drop n):=by
 unfold Gk;rw[cc _ _ _ h,nZ h];rfl
def Ky{m m':Nat->aj aP}{p:Nat->Bool}(D:∀ r,p r=false->∀ y,m' r=some (.sl y) ↔ m r=some (.sl y)):∀ (q:aa Nat) (k:V->aj X),nG p q=true->iZ m' q k=iZ m q k
 |[],_,_=>rfl
 | [r],k,h=>by
  have E:=D r (by simpa [nG,iJ]using h);simp only[iZ];split
  next y C=>rw[(E y).1 C]
  ·rename_i I;split
   next y C=>exact absurd ((E y).2 C) (I y)
   ·rfl
 |[_,_],_,_=>rfl
 |[j,i,s],k,h=>rfl
 | j :: i :: s :: O :: q,k,h=>by
  simp only[iZ];exact Ky D (O::q) _ (by simpa [nG,Js]using h)
def aiD{n:Nat}{q:aa Nat}(h:cz n q=false):nG (λr=>Nat.beq r n) q=true:=by
 unfold nG iJ;unfold cz at h;split
 next r C=>rw[C]at h;show (!Nat.beq r n)=true;rw[nZ (show r≠n by simpa using h)];rfl
 ·rfl
def aP.Gl(n:Nat)(cs:aa Lf):(aP.ay cs).drop n = .ay (cs.map (Lf.drop n)):=rfl
def aiE{n:Nat}(z:aj aP)(y:V):z.map (aP.drop n)=some (.sl y) ↔ z=some (.sl y):=by
 cases z with
 |none=>simp
 |some z=>cases z<;>simp[aP.drop,aP.bY]
def XV{n:Nat}{x:aP}{m:Nat->aj aP}{r:Nat}(h:r≠n)(y:V):Gk n x m r=some (.sl y) ↔ m r=some (.sl y):=by
 rw[XU h];exact aiE _ y
def Gm{p:Nat->Bool}{r n:Nat}(h:p r=false)(C:p n=true):r≠n:=by
 rintro rfl;rw[C]at h;cases h
def aiF{n:Nat}{x:aP}{m:Nat->aj aP}(q:aa Nat)(k:V->aj X)(h:cz n q=false):iZ (Gk n x m) q k=iZ m q k:=
 Ky (p:=λr=>Nat.beq r n) (λr C y=>XV (Gm (p:=λr=>Nat.beq r n) C (Nat.beq_refl n)) y) q k (aiD h)
def aiG{p:Nat->Bool}{r j n:Nat}(h:(A.aH r j).nr p=true)(C:p n=true):r≠n:=
 Gm (by simpa [A.nr,A.fr,tL]using h) C
def XW{p pb:Nat->Bool}{x:A}{q:aa Nat}(h:x.nI p pb=true)(e:x.key=some q):nG p q=true:=by
 unfold A.key at e;split at e
 ·injection e with e;subst e;exact h
 ·injection e with e;subst e;exact h
 ·rename_i j i s C;injection e with e;subst e;have h:nG p (j :: i :: s :: C)=true:=h;cases C with
  |nil=>rfl
  |cons D q=>simpa [nG,Js]using h
 ·cases e
def aiH{p pb:Nat->Bool}{t:TypeId}{cs:aa Lf}{y:A}(h:v7 P t cs some=some y)(C:y.nI p pb=true):∀ c∈cs,c.nr p=true:=by
 unfold v7 at h;split at h
 ·split at h
  ·split at h
   ·injection h with h;subst h;exact bN.1 C
   ·split at h
    ·injection h with h;subst h;intro c D;rw[gF.1 D];exact C
    ·cases h
   ·cases h
  ·cases h
 ·cases h
def A.wQ:A->Bool
 |.aH .. |.ptr _|.lf (.own _)=>true
 |_=>false
def A.XX(x:A)(K:mP):x.bY K=x\/(x.bY K).wQ=false:=by
 cases x with
 | lf l=>cases l with
  |own k=>cases h:K.l k<;>simp[A.bY,Lf.bY,h,A.wQ]
  |_=>exact .inl rfl
 |ptr k=>cases h:K.p k<;>simp[A.bY,h,A.wQ]
 |aH r j=>cases h:K.r r<;>simp[A.bY,h,A.wQ]
 |pk r j=>cases h:K.r r<;>simp[A.bY,h,A.wQ]
 |view k s i j=>cases h:K.p k<;>simp[A.bY,h,A.wQ]
 |fn f cap=>cases h:(cap.any λp=>K.r p.1)<;>simp[A.bY,h,A.wQ]
 |_=>exact .inr rfl
structure gD (p pb:Nat->Bool) (σ cG:S):Prop where
 t:∀{g},(σ.t g).nI p pb=true->cG.t g=σ.t g
 sl:∀r,p r=false->∀y,cG.m r=some (.sl y) ↔ σ.m r=some (.sl y)
 ay:∀r,p r=false->∀cs,σ.m r=some (.ay cs)->∃f:Lf->Lf,cG.m r=some (.ay (cs.map f))/\∀l,l.nr p=true->f l=l
 nw:∀g,cG.t g=σ.t g\/(cG.t g).wQ=false
def gD.refl{p pb:Nat->Bool}(σ:S):gD p pb σ σ:=
 ⟨λ_=>rfl,λ_ _ _=>.rfl,λ_ _ cs h=>⟨id,by rw[List.map_id];exact h,λ_ _=>rfl⟩,λ_=>.inl rfl⟩
def gD.trans{p pb:Nat->Bool}{σ E I:S}(h:gD p pb σ E)(D:gD p pb E I):gD p pb σ I:=by
 refine⟨λ{g} O=>?_,λr C y=>(D.sl r C y).trans (h.sl r C y),λr C cs T=>?_,λg=>?_⟩
 ·have e:=h.t O;rw[D.t (by rw[e];exact O),e]
 ·obtain⟨f,U,Y⟩:=h.ay r C cs T;obtain⟨f',Z,h4⟩:=D.ay r C _ U;exact⟨f' ∘ f,by rw[<-List.map_map];exact Z,λl hl=>by show f' (f l)=l;rw[Y l hl,h4 l hl]⟩
 ·rcases D.nw g with e | e
  ·rw[e];exact h.nw g
  ·exact .inr e
def gD.root{p pb:Nat->Bool}{σ D:S}(n:Nat)(x:aP)(C:p n=true)(hb:pb n=true)(h:gD p pb σ D):gD p pb σ ((D.drop n).root n x):=by
 refine h.trans ⟨λI=>A.A5 I C hb,λr E y=>XV (Gm E C) y,λr E cs O=>⟨Lf.drop n,?_,λl hl=>Lf.zg hl C⟩,λg=>A.XX _ _⟩
 show Gk n x D.m r=_;rw[XU (Gm E C),O];rfl
def gD.rt{p pb:Nat->Bool}{σ D:S}(n:Nat)(x:aP)(E:p n=true)(h:gD p pb σ D):gD p pb σ (D.root n x):=by
 have e:∀r,p r=false->(D.root n x).m r=D.m r:=λr C=>cc _ _ _ (Gm C E)
 exact h.trans ⟨λ_=>rfl,λr C y=>by rw[e r C],λr C cs I=>⟨id,by rw[e r C,List.map_id];exact I,λ_ _=>rfl⟩,λ_=>.inl rfl⟩
/-! Roots that a call writes. -/
def XY(ns:aa Nat)(nr:aa (Nat×aP))(m:Nat->aj aP):Nat->aj aP:=λr=>match nr.lookup r with
 |some x=>some x
 |none=>bif cM r ns ||cM r []then none else (m r).map (aP.cX ns [])
structure Q1 (p:Nat->Bool) (ns:List Nat) (nr:List (Nat×aP)):Prop where
 ns:∀n,cM n ns=true->p n=true
 nr:∀n x,nr.lookup n=some x->p n=true
def aiI{p:Nat->Bool}{ns:aa Nat}{nr:aa (Nat×aP)}{m:Nat->aj aP}(hb:Q1 p ns nr){q:Nat}(h:p q=false):XY ns nr m q=(m q).map (aP.cX ns []):=by
 unfold XY;cases C:nr.lookup q with
 |some x=>rw[hb.nr q x C]at h;cases h
 | none=>
  cases D:cM q ns with
  |true=>rw[hb.ns q D]at h;cases h
  |false=>rfl
def Q2(k:aa Nat):fK k []=false:=by
 unfold fK;split<;>rfl
def Q3{p:Nat->Bool}{ns:aa Nat}(hb:∀ n,cM n ns=true->p n=true)(k:aa Nat)(h:fK k ns=true):iJ p k=true:=by
 unfold fK at h;unfold iJ;split at h
 next r C=>rw[C];exact hb _ h
 ·cases h
def Lf.aiJ{p:Nat->Bool}{x:Lf}{ns:aa Nat}(h:x.nr p=true)(hb:∀ n,cM n ns=true->p n=true):x.cX ns []=x:=
 Lf.nX (Lf.rG (λk C=>Q3 hb k (by simp[uW,Q2]at C;exact C.1)) h)
def A.Q4{p pb:Nat->Bool}{x:A}{ns:aa Nat}(h:x.nI p pb=true)(hb:∀ n,cM n ns=true->p n=true):x.cX ns []=x:=
 A.nX (A.rG (K:=uW ns []) (J:=tL p pb) (λk C=>Q3 hb k (by simp[uW,Q2]at C;exact C.1)) (λk C=>Q3 hb k (by simpa [uW,Q2]using C)) (λr D=>by cases D) h)
def gD.cX{p pb:Nat->Bool}{σ C:S}(ns:aa Nat)(nr:aa (Nat×aP))(hb:Q1 p ns nr)(h:gD p pb σ C):gD p pb σ (C.cX ns [] nr):=by
 have e:∀r,p r=false->(C.cX ns [] nr).m r=(C.m r).map (aP.cX ns []):=λr D=>aiI hb D
 refine h.trans ⟨λE=>A.Q4 E hb.ns,λr D y=>?_,λr D cs I=>⟨Lf.cX ns [],?_,λl hl=>Lf.aiJ hl hb.ns⟩,λg=>A.XX _ _⟩
 ·rw[e r D];cases C.m r with
  |none=>simp
  |some z=>cases z<;>simp[aP.cX,aP.bY]
 ·rw[e r D,I];rfl
end
end Go.Proofs.YtgjfmljpdnnihaaGreat
