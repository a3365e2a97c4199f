/-
  Running the program over pure contents, and that it follows (part 3). Nothing here is a claim.
-/
import Derived.Lib.AppendStr
import Derived.MapKept
import Derived.Test.YtglnbhiaknohlaaGreatV2
set_option linter.unusedSimpArgs false
namespace Go.Proofs.YtglnbhiaknohlaaGreat
set_option linter.defProp false
open Go.RowKit
set_option linter.unusedVariables false
def dT:Nat:=89999
def pM(aj:bI)(k:aa Nat):bI:=λb=>match aj b with
 |some q=>bif k.isSuffixOf q then some (q.take (q.length-k.length)++[dT])else bif cR dT q then none else some q
 |none=>none
def Ub(σ:S)(c:nA)(args:aa Operand)(q:Nat):Bool:=match jC σ c.ps args with
 |some C=>!cW q ((lG 0 C).map (·.1))&&C.any λD=>Nat.beq D.root dT
 |none=>false
def G0{X:Type}(N:Nat)(σ:S)(E:ah Tmp)(c:nA)(args:aa Operand)(k:S->ah X):ah X:=
 match args with
 | .tmp t :: _=>(match σ.t t with
  | .lf (.own [j,i,s,q])=>(match σ.m q with
   | some (.sl (.sl C (o+2) I l))=>if s=aG C then (if hi:i<l.length then (match (enc C o l[i])[j]? with
    | some y=>bif Nat.ble N 20000&&Nat.ble 20000 q&&Nat.blt q 60000&&Ub ((σ.di [q,dT] [dT] [(dT,.sl y)]).set t (.lf (.own [dT]))) c args q then nX N ((σ.di [q,dT] [dT] [(dT,.sl y)]).set t (.lf (.own [dT]))) E c args λD=>(match D.m dT with
      | some (.sl L)=>(match dec C o (splice (enc C o l[i]) j [L])with
       |some e=>k ((D.drop dT).root q (.sl (.sl C (o+2) I (l.set i e))))
       |none=>none)
      |_=>none)else none
    |none=>none)else none)else none
   |_=>none)
  |_=>none)
 |_=>none
section
variable {P:Program} {w w':World} {w0:Wd} {B N:Nat} {aj dA aD:bI} {ρ eZ ρ':Nat->Loc} {σ:S} {a:Act} {X:Type} {d:Nat} {r:X} {o:Oper} {K:aa Nat} {m:Nat->ah aV}
def MU{b:Nat}(h:aj b=none):pM aj K b=none:=by simp[pM,h]
def an3{b:Nat}{p:aa Nat}(h:aj b=some (p++K)):pM aj K b=some (p++[dT]):=by
 have C:K.isSuffixOf _=true:=List.isSuffixOf_iff_suffix.2 ⟨p,rfl⟩;simp[pM,h,C]
def Uc{b:Nat}{k:aa Nat}(h:aj b=some k)(C:¬ K <:+ k)(D:cR dT k=false):pM aj K b=some k:=by
 have C:K.isSuffixOf k=false:=by
  grind
 simp[pM,h,C,D]
def RV.cut{k:aa Nat}{x:V}{v:Value}(h:RV w B aj k x v)(p:aa Nat)(D:k=p++K\/x.aI=true):RV w B (pM aj K) (p++[dT]) x v:=
 h.map (Q:=λk C=>∃ p,k=p++K/\C=p++[dT]) (dJ _) (λb _ h=>⟨rfl,MU h⟩) (λb k C _ hl e=>by
  obtain⟨p,rfl,rfl⟩:=e;exact⟨rfl,an3 hl,λj i s=>⟨j::i::s::p,rfl,rfl⟩⟩) (D.symm.imp_right λh=>⟨p,h,rfl⟩)
def RV.an4{k:aa Nat}{x:V}{v:Value}(h:RV w B aj k x v)(I:∀ b,aj b≠some [])(L:((∀ p,¬ K <:+ p++k)/\cR dT k=false)\/x.aI=true):RV w B (pM aj K) k x v:=
 h.map (Q:=λk C=>k=C/\(∀ p,¬ K <:+ p++k)/\cR dT k=false) (dJ _) (λb _ h=>⟨rfl,MU h⟩) (λb k C _ hl e=>by
  obtain⟨rfl,D,E⟩:=e
  refine⟨rfl,Uc hl (D []) E,λj i s=>⟨rfl,λp=>?_,?_⟩⟩
  ·have:=D (p++[j,i,s])
   rwa [List.append_assoc]at this
  ·rw[Mp (by rintro rfl;exact I b hl)];exact E) (L.symm.imp_right λh=>⟨rfl,h⟩)
def Rl.an5{t:Nat}{x:A}(h:Rl w0 N aj ρ σ a w)(D:RA w w0.heap.size aj ρ x (a.tmps.getD t undef)):Rl w0 N aj ρ (σ.set t x) a w:=by
 refine⟨h.below,h.cV,h.root,λk=>?_,h.size,h.defers,h.fix,h.dm⟩
 show RA w _ aj ρ (bW σ.t t x k) _;by_cases C:k=t
 ·subst C;rw[bZ];exact D
 ·rw[cH _ _ _ C];exact h.tmp k
def Rl.an6{q:Nat}{x:aV}(h:Rl w0 N aj ρ σ a w)(E:ei w w0.heap.size aj ρ q x):Rl w0 N aj ρ (σ.root q x) a w:=by
 refine⟨h.below,h.cV,λr y C=>?_,h.tmp,h.size,h.defers,h.fix,h.dm⟩
 have C:bW σ.m q _ r=some y:=C;by_cases D:r=q
 ·subst D;rw[bZ]at C;simp_all
 ·rw[cH _ _ _ D]at C;exact h.root r y C
def jq.an7(h:Rl w0 N aj ρ σ a w):jq w0 w w:=⟨rfl,rfl,rfl,dJ _,λ_ _ _=>rfl⟩
def an8{f:Nat}{args:Array Operand}{jR:Array TypeId}{c:nA}{k:S -> ah X}(ho:o.op = .call { callee:=.value (.func f),args,argTypes:=jR })(he:enters P f)(hc:uP P f c)(h:G0 N σ o.dst c args.toList k=some r):∃ cY,k cY=some r/\lA P w0 N o σ cY:=by
 unfold G0 at h;split at h
 ·rename_i t rest oQ;split at h
  ·rename_i j i s q ht;split at h
   ·rename_i E oo qn l hm;split at h
    ·rename_i hs;subst hs;split at h
     ·rename_i hi;split at h
      ·rename_i y hy;generalize an9:((σ.di [q,dT] [dT] [(dT,.sl y)]).set t (.lf (.own [dT])))=pN at h;cases hb:(Nat.ble N 20000&&Nat.ble 20000 q&&Nat.blt q 60000&&Ub pN c args.toList q)with
       |false=>rw[hb]at h;cases h
       | true=>
        rw[hb,aq]at h;simp only[aQ]at hb;obtain⟨⟨⟨hN,Dp⟩,A9⟩,MV⟩:=hb;have hN:=cK hN;have Dp:=cK Dp;have A9:q<60000:=cK A9;obtain⟨τ,Ua,cn,U,tq,oO,zm,GJ⟩:=T7 (w0:=w0) ho he hc h;clear h;unfold Ub at MV;rw[tq]at MV;simp only[aQ,iq]at MV;obtain⟨Gm,hdT⟩:=MV;obtain⟨mu,jS,Ud⟩:=List.any_eq_true.1 hdT;have Ud:=cB Ud;have aoa:cW dT cn=false:=by rw[<- Ud];exact zm mu jS
        have aob:cW q cn=false:=by
         cases D:cW q cn with
         |false=>rfl
         |true=>have:=oO q D;omega
        have Ue:q≠dT:=by unfold dT;omega
        split at U
        ·rename_i y' GA;split at U
         ·rename_i e Uf
          refine⟨_,U,λa w KK Q hR hK=>?_⟩
          obtain⟨aj,ρ,hR⟩:=hR;have cL:=hR.wC;have aoc:w0.F dT=none:=hR.dm dT (.inr (by decide));have fF:=hR.root q _ hm;generalize D:aV.sl (.sl E (oo+2) qn l)=x at fF;cases fF with
          |aC=>cases D
          |mp=>cases D
          |gh=>cases D
          | sl v yq cO hr=>
           injection D with D;subst D;cases hr with
           |eE=>simp at hi
           |fI=>simp at hi
           |fV=>simp at hi
           |aI _ _ _ _ _ _ _ _ _ ho=>omega
           | own _ _ _ _ _ b cap cs u hl hh hs Z rN hcc qE=>
            have hKv:wj σ.m [j,i,aG E,q] y:=.elem j i [q] E oo qn l y (.root q _ hm) hi hy;obtain⟨Y,Ba,aod⟩:=hKv.ok hR.root;have wL:=hR.tmp t;rw[ht]at wL;have lC:a.tmps.getD t undef=Y:=by
             have h2:=wL.2;rw[Ba]at h2;injection h2 with h2;exact h2.symm
            have aoe:Y=u i j:=by
             have h3:cU w aj ρ [j,i,aG E,q]=some (u i j):=by
              rw[Mg,AS j i _ (show cU w aj ρ [q]=some (.slice (some ⟨b,0,none⟩) l.length cap) by simp[cU,cO]) hl];show w.cell? _=_;rw[cell_of_row w b _ cs _ _ hh];simp[*]
             rw[Ba]at h3;injection h3
            have gx:mD Y=true:=by rw[<- lC];exact wL.1
            -- the state that the callee's caller sees
            have TL:∀ k:aa Nat,fW k [q,dT]=false -> cR q k=false/\cR dT k=false:=by
             intro k U;unfold fW at U;unfold cR;split at U
             next z O=>rw[O];have:=aaS U;simp only[gJ,List.not_mem_nil,not_or]at this;exact⟨by simpa using this.1,by simpa using this.2⟩
             next O=>rw[O];exact⟨rfl,rfl⟩
            have hKq:∀ k:aa Nat,[j,i,aG E,q] <:+ k -> cR q k=true:=by
             rintro k ⟨p,rfl⟩;simp[cR]
            have GC:td w w aj (pM aj [j,i,aG E,q]) ρ (bW ρ dT (.dH Y)) [q,dT] [dT]:=by
             refine⟨dJ _,λI A7 C=>⟨rfl,?_⟩,λn Z=>?_,λI k C=>(hR.cV I k C).2⟩
             ·cases L:aj I with
              |none=>exact MU L
              | some k=>
               obtain⟨g1,g2⟩:=TL k (C k L);exact Uc L (λoG=>by rw[hKq k oG]at g1;cases g1) g2
             ·refine cH _ _ _ ?_;rintro rfl;simp[cW]at Z
            have wH:∀ I k,pM aj [j,i,aG E,q] I=some k -> (∃ T,aj I=some T)/\k≠[]:=by
             intro I k C;cases L:aj I with
             |none=>rw[MU L]at C;cases C
             | some T=>
              refine⟨⟨T,rfl⟩,?_⟩;unfold pM at C;rw[L]at C;simp only at C;cases h1:List.isSuffixOf [j,i,aG E,q] T with
              | true=>
               rw[h1,aq]at C;injection C with C;rw[<- C];simp
              | false=>
               rw[h1,au]at C;cases h2:cR dT T with
               |true=>rw[h2,aq]at C;cases C
               | false=>
                rw[h2,au]at C;injection C with C;rw[<- C];exact(hR.cV I T L).2.2
            have r4:Rl w0 N (pM aj [j,i,aG E,q]) (bW ρ dT (.dH Y)) (σ.di [q,dT] [dT] [(dT,.sl y)]) a w:=by
             refine hR.tf GC (jq.an7 hR) (λI k C=>?_) (λn Z=>?_) (λn z O=>?_)
             ·obtain⟨⟨T,L⟩,MW⟩:=wH I k C;have:=hR.cV I T L;exact⟨this.1,this.2.1,MW⟩
             ·have:n=dT:=by simpa [cW]using Z
              rw[this];exact aoc
             ·have Z:n=dT/\z = .sl y:=by
               rw[List.lookup_cons]at O;cases DK:(n==dT)with
               |false=>rw[DK]at O;cases O
               | true=>
                rw[DK]at O;injection O with O;exact⟨by simpa using DK,O.symm⟩
              obtain⟨rfl,rfl⟩:=Z;exact .sl Y y (bZ _ _ _) (aod.cut [] (.inl rfl))
            have lE:Rl w0 N (pM aj [j,i,aG E,q]) (bW ρ dT (.dH Y)) pN a w:=by
             rw[<- an9];refine r4.an5 ?_;rw[lC];exact⟨gx,by simp only[cU,bZ]⟩
            refine GJ a w KK Q _ _ lE λvv w' dA eZ uW GZ wK rU wQ=>?_
            -- behind the call
            have s9:90000 <= iG o.dst:=by unfold iG;split<;>omega
            have aof:uW dT = .dH Y:=by
             rw[wQ dT (by unfold dT;omega),wK.eY dT aoa,bZ]
            have aog:uW q = .dH (.slice (some ⟨b,0,none⟩) l.length cap):=by
             rw[wQ q (by omega),wK.eY q aob,cH _ _ _ Ue,cO]
            have fF:=GZ.root dT _ GA;generalize D:aV.sl y'=x at fF;cases fF with
            |aC=>cases D
            |mp=>cases D
            |gh=>cases D
            | sl v' y'' jd fJ=>
             injection D with D;subst D;rw[aof]at jd;injection jd with jd;subst jd;have Ug:=GZ.wC;have hrel:Rel dT dA (dA.hJ dT [j,i,aG E,q]):=Gj Ug;have aba:cR dT [q]=false:=by simpa [cR]using λe=>Ue e
             have DJ:pM aj [j,i,aG E,q] b=some [q]:=Uc hl (λoG=>by have:=oG.length_le;simp at this) aba;have aoh:fW [q] ((lG 0 Ua).map (·.1))=false:=Gm;obtain⟨g1,g2⟩:=wK.same b (wK.aj b _ DJ).1 (λk C=>by rw[DJ]at C;injection C with C;subst C;exact aoh);have aoi:dA b=some [q]:=g2.trans DJ;have aoj:dA.hJ dT [j,i,aG E,q] b=some [q]:=hrel.lz b _ aoi aba;have hR4:=GZ.rel hrel (λI k C=>by
              unfold bI.hJ at C;cases L:dA I with
              |none=>rw[L]at C;cases C
              | some T=>
               rw[L]at C;injection C with C;subst C;exact⟨⟨T,rfl⟩,aam (by simp) (λe=>Ug I (by rw[L,e]))⟩)
             refine hK _ _ ⟨_,uW,hR4.an6 (.sl _ _ aog ?_)⟩;have hj:j<aG E:=by
              have:=(dQ.1 hy).1
              rwa [kL]at this
             refine RV.Mk (w':=w') (cs:=cs) (xs:=[y']) (u:=u) (us:=u) aoj (g1.trans hh) hs Z rN hi (show j+1 <= aG E from hj) Uf (λi' G1 j' x D hij=>⟨hcc i' G1 j' x D,?_⟩) (λn x D=>?_)
             ·have Uh:=qE i' G1 j' x D;have aok:¬ (i'=i/\j'=j):=λe=>hij ⟨e.1,by simp;omega⟩
              have abb:cR dT [j',i',aG E,q]=false:=by simpa [cR]using λe=>Ue e
              have a1:=Uh.an4 (K:=[j,i,aG E,q]) cL (.inl ⟨λp oG=>?_,abb⟩)
              ·have a2:=a1.tf wK (.inl (by simpa [fW]using Gm));exact a2.rel hrel (.inl abb)
              ·have e1:[j,i,aG E,q]=[j',i',aG E,q]:=SU oG ⟨p,rfl⟩ rfl;injection e1 with e1 e2;injection e2 with e2 e3;exact aok ⟨e2.symm,e1.symm⟩
             ·cases n with
              | zero=>
               simp only[List.getElem?_cons_zero,iQ]at D;subst D;refine⟨hcc i hi j y hy,?_⟩;have:=fJ.hJ (q:=dT) (nk:=[j,i,aG E,q]) Ug;rw[aal,aoe]at this;exact this
              |succ n=>simp at D
         ·cases U
        ·cases U
      ·cases h
     ·cases h
    ·cases h
   ·cases h
  ·cases h
 ·cases h
def aol{C:ah Tmp}{c:nA}{args:aa Operand}(D:∀ σ,cI λX k=>nX (X:=X) N σ C c args k):cI λX k=>G0 (X:=X) N σ C c args k:=λX Y k g=>by
 unfold G0
 repeat' first|rfl|refine dc ((D _ _ _ _ _).trans (bx _ (funext λE=>?_))) rfl|split
def wR:∀ (q:aa Nat),cI λX k=>jr (X:=X) m q k
 |[]=>λ_ _ _ _=>rfl
 | [x]=>λX Y k g=>by
  simp only[jr]
  repeat' first|rfl|refine dc ?_ ?_|split
 |[_,_]=>λ_ _ _ _=>rfl
 | j :: i :: s :: q=>λX Y k g=>by
  simp only[jr]
  refine(wR q _ _ _ _).trans (bx _ (funext λy=>?_))
  repeat' first|rfl|split
  all_goals simp_all
def DL{x:Lf}:cI λX k=>oH (X:=X) σ x k:=by
 cases x with
 |own q=>exact wR q
 |_=>exact λ_ _ _ _=>rfl
def abc{q:aa Nat}{s i j:Nat}:cI λX k=>uH (X:=X) σ q s i j k:=λX Y k g=>by
 refine(wR q _ _ _ _).trans (bx _ (funext λy=>?_))
 repeat' first|rfl|refine dc ?_ ?_|split
def Ui{x:A}:cI λX k=>rQ (X:=X) σ x k:=by
 cases x with
 |lf l=>exact DL
 |view=>exact abc
 |_=>exact λ_ _ _ _=>rfl
def Uj{x:A}:cI λX k=>vK (X:=X) x k:=λX Y k g=>by
 unfold vK
 repeat' first|rfl|refine dc ?_ ?_|split
def aom{ty:TypeId}{C:BinOp}{x y:V}:cI λX k=>Gc (X:=X) P ty C x y k:=λX Y k g=>by
 unfold Gc
 repeat' first|rfl|refine dc ?_ ?_|split
def aon{C:BinOp}{t:TypeId}{x y:A}:cI λX k=>yX (X:=X) P σ C t x y k:=λX Y k g=>by
 unfold yX;split
 ·repeat' first|rfl|refine dc ?_ ?_|split
 ·split
  ·refine(DL _ _ _ _).trans (bx _ (funext λz=>?_))
   repeat' first|rfl|refine dc ?_ ?_|split
  ·rfl
 ·exact(Uj.comp λa=>Uj.comp λb=>aom.comp (b:=λX k z=>k (.lf (.v z))) λz _ _ _ _=>rfl) X Y k g
def aoo{C:UnOp}{x:V}:cI λX k=>Gd (X:=X) C x k:=λX Y k g=>by
 unfold Gd
 repeat' first|rfl|refine dc ?_ ?_|split
def MX{t:TypeId}{cs:aa Lf}:cI λX k=>wA (X:=X) P t cs k:=λX Y k g=>by
 unfold wA
 repeat' first|rfl|refine dc ?_ ?_|split
def abd{t:TypeId}{x:A}:cI λX k=>nP (X:=X) P σ t x k:=λX Y k g=>by
 unfold nP;split
 ·rfl
 ·split
  ·split
   ·exact MX _ _ _ _
   ·rfl
  ·exact MX _ _ _ _
  ·refine(wR _ _ _ _ _).trans (bx _ (funext λz=>?_))
   repeat' first|rfl|exact MX _ _ _ _|split
  ·rfl
def aop{s:TypeId}{x:A}{f:Nat}:cI λX k=>Dj (X:=X) P s x f k:=λX Y k g=>by
 unfold Dj
 repeat' first|rfl|refine dc ?_ ?_|split
def aoq{t:TypeId}{x i:A}:cI λX k=>yL (X:=X) P σ t x i k:=λX Y k g=>by
 unfold yL;split
 ·rfl
 ·split
  ·split
   ·repeat' first|rfl|refine dc ?_ ?_|split
   ·refine(wR _ _ _ _ _).trans (bx _ (funext λz=>?_))
    repeat' first|rfl|refine dc ?_ ?_|split
   ·rfl
  ·rfl
def aor{t:TypeId}{x:A}:cI λX k=>A3 (X:=X) P σ t x k:=λX Y k g=>by
 unfold A3;split
 ·refine(DL _ _ _ _).trans (bx _ (funext λz=>?_))
  repeat' first|rfl|refine dc ?_ ?_|split
 ·repeat' first|rfl|refine dc ?_ ?_|split
 ·rfl
def aos{x:A}{i:Nat}:cI λX k=>A4 (X:=X) x i k:=λX Y k g=>by
 unfold A4
 repeat' first|rfl|refine dc ?_ ?_|split
def aot{t:TypeId}{parts:aa (Nat×Operand)}:cI λX k=>Dq (X:=X) P σ t parts k:=λX Y k g=>by
 unfold Dq
 repeat' first|rfl|refine dc ?_ ?_|split
def aou{s:TypeId}{x:A}{f:Nat}:cI λX k=>Gy (X:=X) P s x f k:=λX Y k g=>by
 unfold Gy
 repeat' first|rfl|refine dc ?_ ?_|split
def abe{C:Bool}{x y:A}:cI λX k=>Ds (X:=X) C x y k:=λX Y k g=>by
 unfold Ds
 repeat' first|rfl|refine dc ?_ ?_|split
def aov{t:TypeId}{x i:A}:cI λX k=>Gz (X:=X) P t x i k:=λX Y k g=>by
 unfold Gz
 repeat' first|rfl|refine dc ?_ ?_|split
def aow{C D:TypeId}{x:A}:cI λX k=>yU (X:=X) P σ C D x k:=λX Y k g=>by
 unfold yU;split
 ·repeat' first|rfl|refine dc ?_ ?_|split
 ·refine(DL _ _ _ _).trans (bx _ (funext λz=>?_))
  unfold MC
  repeat' first|rfl|refine dc ?_ ?_|split
 ·rfl
def DM{x:ah A}{d:Int}:cI λX k=>sY (X:=X) x d k:=λX Y k g=>by
 unfold sY
 repeat' first|rfl|refine dc ?_ ?_|split
def abf{t:TypeId}{q:aa Nat}{C:ah Nat}{lo hi:ah A}:cI λX k=>Bc (X:=X) P σ t q C lo hi k:=λX Y k g=>by
 unfold Bc;split
 ·split
  ·refine(wR _ _ _ _ _).trans (bx _ (funext λz=>?_))
   unfold Dy;split
   ·split
    ·refine(DM _ _ _ _).trans (bx _ (funext λ_=>(DM _ _ _ _).trans (bx _ (funext λ_=>?_))))
     repeat' first|rfl|refine dc ?_ ?_|split
    ·rfl
   ·rfl
  ·rfl
 ·rfl
def aox{t:TypeId}{x:A}{lo hi:ah A}:cI λX k=>yZ (X:=X) P σ t x lo hi k:=λX Y k g=>by
 unfold yZ;split
 ·exact abf _ _ _ _
 ·exact abf _ _ _ _
 ·unfold wI;split
  ·split
   ·refine(DM _ _ _ _).trans (bx _ (funext λ_=>(DM _ _ _ _).trans (bx _ (funext λ_=>?_))))
    repeat' first|rfl|refine dc ?_ ?_|split
   ·rfl
  ·split
   ·split
    ·split
     ·refine dc ((DM _ _ _ _).trans (bx _ (funext λ_=>(DM _ _ _ _).trans (bx _ (funext λ_=>?_))))) rfl
      repeat' first|rfl|refine dc ?_ ?_|split
     ·rfl
    ·rfl
   ·rfl
  ·rfl
def wS{C:ah Tmp}{x:A}:cI λX k=>ir (X:=X) N σ C x k:=λX Y k g=>by
 unfold ir
 repeat' first|rfl|refine dc ?_ ?_|split
def MY{x:aV}{y:A}:cI λX k=>iw (X:=X) N σ d x y k:=λX Y k g=>dc rfl rfl
def DN{x:aV}{y:A}{k:S -> ah X}(h:iw N σ d x y k=some r):k (((σ.drop d).root d x).set d y)=some r/\mF (λX k=>iw (X:=X) N σ d x y k) (((σ.drop d).root d x).set d y):=by
 unfold iw at h;cases C:Nat.blt d N with
 |false=>simp_all
 |true=>rw[C]at h;exact⟨h,λX k=>by simp[iw,C,aq]⟩
def aoy{e:TypeId}{k:S -> ah X}(h:qD P N σ d e k=some r):∃ x y,k (((σ.drop d).root d x).set d y)=some r/\y = .aO d 0/\(∀ (C:S),mF (λX k=>qD (X:=X) P N C d e k) (((C.drop d).root d x).set d y)):=by
 unfold qD at h;split at h
 ·rename_i z D;obtain⟨E,_⟩:=DN h
  refine⟨_,_,E,rfl,λC X k=>?_⟩
  obtain⟨I,_⟩:=oJ h;have hb:Nat.blt d N=true:=ja I;simp[qD,D,iw,hb,aq]
 ·cases h
def abg{t:TypeId}{l c:A}{k:S -> ah X}(h:yP P N σ d t l c k=some r):∃ y,k (((σ.drop d).root d (.sl y)).set d (.lf (.own [d])))=some r/\(∀ (C:S),mF (λX k=>yP (X:=X) P N C d t l c k) (((C.drop d).root d (.sl y)).set d (.lf (.own [d])))):=by
 unfold yP at h;split at h
 ·rename_i e T U n Y c D;split at h
  ·cases h
  ·rename_i z E;split at h
   ·rename_i hb;obtain⟨I,_⟩:=DN h
    refine⟨_,I,λC X k=>?_⟩
    obtain⟨L,_⟩:=oJ h;have O:Nat.blt d N=true:=ja L;simp[yP,D,E,bN hb,iw,O,aq]
   ·cases h
 ·cases h
def abh{t:TypeId}{len:Nat}{parts:aa (Nat×Operand)}{k:S -> ah X}(h:yT P N σ d t len parts k=some r):∃ y,k (((σ.drop d).root d (.sl y)).set d (.lf (.own [d])))=some r /\
  (∀(C:S),(∀p∈parts,aK C p.2=aK σ p.2) -> mF (λX k=>yT (X:=X) P N C d t len parts k) (((C.drop d).root d (.sl y)).set d (.lf (.own [d])))):=by
 unfold yT at h;split at h
 ·rename_i e D I;split at h
  ·rename_i z L;cases E:(Nat.beq (full D) 0&&Nat.beq z.cells.size (aG D)&&Nat.blt (len*aG D) 16777217)with
   |false=>simp_all
   | true=>
    rw[E,aq]at h;split at h
    ·rename_i cs O;split at h
     ·rename_i vs T;split at h
      ·rename_i l hl;obtain⟨U,_⟩:=DN h
       refine⟨_,U,λC Y X k=>?_⟩
       obtain⟨Z,_⟩:=oJ h;have gT:Nat.blt d N=true:=ja Z;have e:(parts.map λp=>(p.1,aK C p.2))=parts.map λp=>(p.1,aK σ p.2):=List.map_congr_left λp hp=>by rw[Y p hp]
       simp[yT,I,L,E,aq,e,O,T,hl,iw,gT]
      ·cases h
     ·cases h
    ·cases h
  ·cases h
 ·cases h
def aoz{t:TypeId}{x y:A}:cI λX k=>sV (X:=X) P N σ d t x y k:=λX Y k g=>by
 unfold sV;split
 ·refine dc ((Ui _ _ _ _).trans (bx _ (funext λC=>?_))) rfl
  repeat' first|rfl|exact MY _ _ _ _|refine dc ?_ ?_|split
 ·rfl
def abi:∀ (q:aa Nat) (y:V),cI λX k=>wB (X:=X) m q y k
 |[],_=>λ_ _ _ _=>rfl
 | [x],y=>λX Y k g=>by
  simp only[wB]
  repeat' first|rfl|refine dc ?_ ?_|split
 |[_,_],_=>λ_ _ _ _=>rfl
 | j :: i :: s :: q,y=>λX Y k g=>by
  simp only[wB]
  refine(wR q _ _ _ _).trans (bx _ (funext λz=>?_))
  repeat' first|rfl|exact abi q _ _ _ _ _|split
def abj{t:TypeId}{x y:A}:cI λX k=>pH (X:=X) P σ t x y k:=λX Y k g=>by
 unfold pH;split
 ·split
  ·split
   ·repeat' first|rfl|refine dc ?_ ?_|split
   ·split
    ·rfl
    ·refine(wR _ _ _ _ _).trans (bx _ (funext λz=>?_))
     repeat' first|rfl|exact abi _ _ _ _ _ _|refine dc ?_ ?_|split
   ·rfl
  ·rfl
 ·rfl
def Uk:∀ (xs:aa Lf),cI λX k=>qH (X:=X) σ xs k
 |[]=>λ_ _ _ _=>rfl
 |x::xs=>DL.comp λy=>(Uk xs).comp (b:=λX k ys=>k (y.gG::ys)) λ_ _ _ _ _=>rfl
def abk{x:A}:cI λX k=>nS (X:=X) σ x k:=λX Y k g=>by
 unfold nS
 repeat' first|rfl|exact Uk _ _ _ _ _|exact abc _ _ _ _|split
def aoA{x:A}:cI λX k=>uL (X:=X) σ x k:=λX Y k g=>by
 unfold uL
 repeat' first|rfl|exact abk _ _ _ _|refine(Uk _ _ _ _ _).trans (bx _ (funext λz=>?_))|split
def Ul{f:(X:Type)->A->(Pt->ah X)->ah X}(C:∀ x,cI λX k=>f X x k):∀ (xs:aa Operand),cI λX k=>uM (f X) σ xs k
 |[]=>λ_ _ _ _=>rfl
 |x::xs=>(C _).comp λp=>(Ul C xs).comp (b:=λX k ps=>k (p::ps)) λ_ _ _ _ _=>rfl
def DO{xs:aa Operand}:cI λX k=>rV (X:=X) σ xs k:=Ul (λ_=>abk) xs
def abl{xs:aa Operand}:cI λX k=>Bd (X:=X) σ xs k:=Ul (λ_=>aoA) xs
def MZ{C:gf}:cI λX k=>nt (X:=X) σ d C k:=λX Y k g=>by
 unfold nt
 repeat' first|rfl|refine dc ?_ ?_|split
def abm{f:Nat}{c:je}(C:iF P f c){ev:(X:Type)->(aa Pt->ah X)->ah X}(D:cI ev):cI λX k=>rX (X:=X) N σ d c (ev X) k:=λX Y k g=>
 dc ((D.comp λps=>(C.1 ps).comp λE=>MZ) X Y k g) rfl
def M0{f:Nat}{c:je}(U:iF P f c){ev:(X:Type)->(aa Pt->ah X)->ah X}(Y:cI ev){k:S->ah X}(h:rX N σ d c (ev X) k=some r):∃ C D,nt σ d C some=some D/\k D=some r/\
  ∀E L (I:(X:Type)->(aa Pt->ah X)->ah X),(∀(X:Type) (k:aa Pt->ah X),I X k=ev X k)->nt E d C some=some L->mF (λX k=>rX (X:=X) N E d c (I X) k) L:=by
 unfold rX at h;cases O:Nat.blt d N with
 |false=>rw[O]at h;cases h
 | true=>
  rw[O,aq]at h;obtain⟨ps,Z,hd⟩:=Y.lZ h;obtain⟨C,h3,Ty⟩:=(U.1 ps).lZ Z;obtain⟨D,h4,hd3⟩:=MZ.lZ h3
  refine⟨C,D,hd3 _ _,h4,λE L I ha jh X k=>?_⟩
  obtain⟨τ2,T,hd4⟩:=MZ.lZ jh;injection T with T;subst T;show rX N E d c (I X) k=_;unfold rX;rw[O,aq,ha,hd X];exact(Ty X _).trans (hd4 X k)
/-! Keys that do not end in certain names. -/
def nY(p:Nat->Bool)(k:aa Nat):Bool:=!jc p k
def tu(p pb:Nat->Bool):nh:=⟨jc p,jc p,pb⟩
def Lf.nr(p:Nat->Bool):Lf->Bool:=Lf.fr (jc p)
def A.nr(p:Nat->Bool):A->Bool:=A.fr (tu p p)
def G2{p:Nat->Bool}{n:Nat}(C:p n=true)(k:aa Nat)(h:cR n k=true):jc p k=true:=by
 unfold jc;rw[show k.getLast?=some n by simpa [cR]using h];exact C
def abn{p:Nat->Bool}{k:aa Nat}{n:Nat}(h:nY p k=true)(C:p n=true):cR n k=false:=by
 cases hl:cR n k with
 |false=>rfl
 |true=>unfold nY at h;rw[G2 C k hl]at h;cases h
def aoB{p:Nat->Bool}{n:Nat}(C:p n=true)(r:Nat)(h:Nat.beq r n=true):p r=true:=by rw[cB h];exact C
def Lf.zn{p:Nat->Bool}{x:Lf}{n:Nat}(h:x.nr p=true)(C:p n=true):x.drop n=x:=Lf.oC (Lf.rL (G2 C) h)
def qz.zn{p:Nat->Bool}{xs:aa Lf}{n:Nat}(h:xs.all (Lf.nr p)=true)(C:p n=true):xs.map (Lf.drop n)=xs:=qz.oC (cv.2 λc D=>Lf.rL (G2 C) (cv.1 h c D))
def A.Bl{p pb:Nat->Bool}{x:A}{n:Nat}(h:x.fr (tu p pb)=true)(C:p n=true)(hb:pb n=true):x.drop n=x:=A.oC (A.rL (K:=wm n) (J:=tu p pb) (G2 C) (G2 C) (aoB hb) h)
def A.zn{p:Nat->Bool}{x:A}{n:Nat}(h:x.nr p=true)(C:p n=true):x.drop n=x:=A.Bl h C C
def S.ext'{σ C:S}(D:∀ k,σ.t k=C.t k)(E:∀ r,σ.m r=C.m r):σ=C:=by
 cases σ;cases C;simp
 grind
def S.set_set{e d:Nat}(h:e≠d)(v u:A):(σ.set d v).set e u=(σ.set e u).set d v:=by
 refine S.ext' (λk=>?_) λ_=>rfl
 show bW (bW σ.t d v) e u k=bW (bW σ.t e u) d v k;by_cases C:k=e
 ·subst C;rw[bZ,cH _ _ _ h,bZ]
 ·by_cases D:k=d
  ·subst D;rw[cH _ _ _ C,bZ,bZ]
  ·rw[cH _ _ _ C,cH _ _ _ D,cH _ _ _ D,cH _ _ _ C]
def S.drop_set(n:Nat){v:A}(C:v.drop n=v):(σ.set d v).drop n=(σ.drop n).set d v:=by
 refine S.ext' (λk=>?_) λ_=>rfl
 show (bW σ.t d v k).drop n=bW (λk=>(σ.t k).drop n) d v k;by_cases h:k=d
 ·subst h;rw[bZ,bZ,C]
 ·rw[cH _ _ _ h,cH _ _ _ h]
def Um(v:A):∀ (xs:aa V) (c:Nat) (σ:S),(∀ n,c <= n -> v.drop n=v) -> mG c (σ.set d v) xs=(mG c σ xs).set d v
 |[],c,σ,h=>rfl
 | x :: xs,c,σ,h=>by
  simp[mG];cases D:x.aI with
  | true=>
   exact Um v xs _ σ (λn C=>h n (by omega))
  | false=>
   rw[S.drop_set c (h c (dJ _))];exact Um v xs _ ((σ.drop c).root c _) (λn C=>h n (by omega))
def Un(v:A):∀ (ps:aa Pt) (c:Nat) (σ:S),(∀ n,c <= n -> v.drop n=v) -> nU c (σ.set d v) ps=(nU c σ ps).set d v
 |[],c,σ,h=>rfl
 | p :: ps,c,σ,h=>by
  simp[nU];rw[Um v p.2 c σ h];exact Un v ps _ _ (λn C=>h n (by omega))
end
def zo{X:Type}(N:Nat)(σ:S)(d:Nat)(x:A)(k:S->ah X):ah X:=
 match x.yK with
 |some xs=>bif xs.all Lf.live then iw N σ d (.aC (xs.map (Lf.drop d))) (.aO d 0) k else none
 |none=>none
def M1{X:Type}(x:A)(k:A->ah X):ah X:=
 match x with
 |.aO r j=>k (.aO r j)
 |.ptr q=>k (.ptr q)
 |.jo cs=>k (.jo cs)
 |_=>none
section
variable {P:Program} {w w':World} {w0:Wd} {B N:Nat} {aj aD:bI} {ρ ρ':Nat->Loc} {σ:S} {a:Act} {X:Type} {d:Nat} {r:X} {o:Oper}
def aoC{e:TypeId}{x:A}{k:S -> ah X}(h:zo N σ d x k=some r):∃ D,k D=some r /\ ∀ aj ρ a w,Rl w0 N aj ρ σ a w -> ∀ u,RA w w0.heap.size aj ρ x u ->
  ∃w' aD ρ' v,(Instr.box e u).run P w = .ok v w'/\Rl w0 N aD ρ' D (a.put (some d) v) w':=by
 unfold zo at h;split at h
 ·rename_i xs T;cases E:xs.all Lf.live with
  |false=>grind
  | true=>
   rw[E,aq]at h;obtain⟨I,h⟩:=oJ h
   refine⟨_,h,λaj ρ a w hR u U=>?_⟩
   obtain⟨hl,_⟩:=Gg T E U;have Y:(Instr.box e u).run P w = .ok (.pointer (some ⟨w.heap.size,0,none⟩)) (w.alloc (.cells u.cells e)):=by
    simp[Instr.box,newVar,newRow]
   refine⟨_,bW aj w.heap.size (some [d]),bW ρ d (.aC w.heap.size 0),_,Y,(hR.Dl (hR.dm d (.inl I)) (λr C=>cH _ _ _ C) ?_).set ⟨w.heap.size,0,bZ _ _ _,rfl⟩ I⟩
   have Z:eK (w.alloc (.cells u.cells e)) w0.heap.size (bW aj w.heap.size (some [d])) ρ xs u.cells:=
    hl.lz (by simp) (λb hb=>⟨Below.heap_alloc w _ b hb,cH _ _ _ (by omega)⟩) (λb k hb=>(hR.cV b k hb).2.1)
   have L:=Z.eY (ρ':=bW ρ d (.aC w.heap.size 0)) (d:=d) (λr C=>cH _ _ _ C)
   refine .aC w.heap.size 0 u.cells e _ (λj=>u.cells.getD j undef) (bZ _ _ _) (bZ _ _ _) (heap_alloc_new w _) (by rw[L.1];omega) λj y hy=>?_
   obtain⟨v,O,C⟩:=L.2 j y hy;have hg:u.cells.getD j undef=v:=by rw[iE,O];rfl
   rw[hg,fh];exact⟨O,C⟩
 ·cases h
def aoD{x:A}{k:S -> ah X}(h:zo N σ d x k=some r):∃ y u,k (((σ.drop d).root d y).set d u)=some r/\(∀ (C:S),mF (λX k=>zo (X:=X) N C d x k) (((C.drop d).root d y).set d u)):=by
 unfold zo at h;split at h
 ·rename_i xs E;cases D:xs.all Lf.live with
  |false=>simp_all
  | true=>
   rw[D]at h;obtain⟨I,_⟩:=DN h
   refine⟨_,_,I,λC X k=>?_⟩
   obtain⟨L,_⟩:=oJ h;have hb:Nat.blt d N=true:=ja L;simp[zo,E,D,iw,hb,aq]
 ·cases h
def aoE{x:A}{k:A->ah X}(h:M1 x k=some r):k x=some r/\∀ u,RA w B aj ρ x u->∃ ad,u = .pointer (some ad):=by
 unfold M1 at h;split at h
 ·exact⟨h,λu C=>by obtain⟨b,off,_,rfl⟩:=C;exact⟨_,rfl⟩⟩
 ·exact⟨h,λu C=>by obtain⟨ad,rfl,_⟩:=C;exact⟨_,rfl⟩⟩
 ·exact⟨h,λu C=>by obtain⟨b,off,rfl,_⟩:=C;exact⟨_,rfl⟩⟩
 ·cases h
end
def pO(t:TypeId):Bool:=[999999,999999,46,999999,53,999999,999999,999999,999999,999999,166,999999,999999,999999,999999,999999].any (Nat.beq t)
def wT{X:Type}(P:Program)(N:Nat)(σ:S)(d:Nat)(t:TypeId)(len:Nat)(parts:aa (Nat×Operand))(k:S->ah X):ah X:=
 match uJ P t with
 | some (e,C)=>match zeroOf P e with
  | some z=>bif Nat.beq z.cells.size (aG C)&&Nat.blt (len*aG C) 16777217 then (match yS (λi=>some (i*aG C,aG C)) (List.replicate len (z.cells.toList.map nR)).flatten (parts.map λp=>(p.1,aK σ p.2))with
   |some cs=>bif Nat.beq len 0 then iw N σ d (.sl (.sl C (full C+2) true [])) (.lf (.own [d])) k else iw N σ d (.aC (cs.map (Lf.drop d))) (.pk d len) k
   |none=>none)else none
  |none=>none
 |none=>none
def Bm{X:Type}(N:Nat)(σ:S)(d r D:Nat)(C:TC)(n:Nat)(k:S->ah X):ah X:=
 match σ.m D,σ.m r with
 | some (.aC cs),some (.sl (.sl E (o+2) q l))=>if h:E=C then (match iu r (λj=>(j % aG C) :: (l.length+j / aG C) :: aG C :: [r]) cs.length 0 cs σ with
  | some (I,L)=>(match Gw C o n I with
   |some l2=>bif Nat.blt d N&&bF (l.length+l2.length)then k (((L.drop r).root r (.sl (.sl C (o+2) false ((h ▸ l)++l2)))).set d (.lf (.own [r])))else none
   |none=>none)
  |none=>none)else none
 |_,_=>none
def G3{X:Type}(P:Program)(N:Nat)(σ:S)(d:Nat)(t:TypeId)(x y:A)(k:S->ah X):ah X:=
 match uJ P t,y with
 | some (e,C),.pk D n=>bif (zeroOf P e).any (λz=>Nat.beq z.cells.size (aG C))&&(Nat.blt d N&&Nat.blt n qy)then (match x with
  |.lf (.v .nil)=>Bm N ((σ.drop d).root d (.sl (.sl C (full C+2) false []))) d d D C n k
  |.lf (.own [r])=>bif Nat.blt r N ||Nat.ble 60000 r then Bm N σ d r D C n k else none
  |_=>none)else none
 |_,_=>none
def tv{X:Type}(P:Program)(σ:S)(t:TypeId)(x y:A)(k:S->ah X):ah X:=
 match jA P t,y.yK,x with
 | some n,some xs,.ptr [j,i,s,r]=>if xs.length=n then (bif xs.all Lf.live then (match iu r (λm=>(j+m) :: i :: s :: [r]) xs.length 0 xs σ with
  | some (E,D)=>(match D.m r with
   | some (.sl (.sl C (o+2) I l))=>if s=aG C then (if h:i<l.length then (if j+n<=aG C then (match dec C o (splice (enc C o l[i]) j E)with
    |some e=>k (D.di [r] [] [(r,.sl (.sl C (o+2) I (l.set i e)))])
    |none=>none)else none)else none)else none
   |_=>none)
  |none=>none)else none)else none
 |_,_,_=>none
def wU(x y:A):Bool:=match x,y.yK with
 |.ptr _,some xs=>(qC xs).isNone
 |_,_=>false
section
variable {P:Program} {w w':World} {w0:Wd} {B N:Nat} {aj aD:bI} {ρ ρ':Nat->Loc} {σ:S} {a:Act} {X:Type} {d:Nat} {r:X} {o:Oper}
def abo{place:Nat -> ah (Nat×Nat)}:∀ (parts:aa (Nat×A)) (cells out:aa Lf),yS place cells parts=some out -> out.length=cells.length
 |[],cells,out,h=>by injection h with h;rw[h]
 | (i,x) :: rest,cells,out,h=>by
  unfold yS at h;split at h
  ·rename_i off n xs C D;split at h
   ·rename_i E;cases hl:xs.all _ with
    | true=>
     rw[hl]at h;rw[abo rest _ _ h,sR _ _ _ (by omega)]
    |false=>simp_all
   ·cases h
  ·cases h
def aoF{t:TypeId}{len:Nat}{parts:Array (Nat×Operand)}{k:S -> ah X}(h:wT P N σ d t len parts.toList k=some r):∃ cY,k cY=some r /\ ∀ aj ρ a w,Rl w0 N aj ρ σ a w ->
  ∃w' aD ρ' v,(Instr.buildSlice t len (parts.map λ(i,x)=>(i,a.eval x))).run P w = .ok v w'/\Rl w0 N aD ρ' cY (a.put (some d) v) w':=by
 unfold wT at h;split at h
 ·rename_i e D oK;obtain⟨gy,ht,i,hi,T,jZ⟩:=yQ oK;split at h
  ·rename_i z hz;cases U:(Nat.beq z.cells.size (aG D)&&Nat.blt (len*aG D) 16777217)with
   |false=>rw[U]at h;cases h
   | true=>
    rw[U,aq]at h;rw[aQ]at U;have m6:=cB U.1;have hsm:len*aG D<16777217:=by have:=cK U.2;omega
    have oL:i.zero=some z:=by unfold zeroOf at hz;simpa [hi]using hz
    split at h
    ·rename_i cs jB;have key:∀ aj ρ (a:Act) w,Rl w0 N aj ρ σ a w -> ∃ C,(Instr.buildSlice t len (parts.map λ(i,x)=>(i,a.eval x))).run P w = .ok (.slice (some ⟨w.heap.size,0,none⟩) len len) (w.alloc (.cells C e))/\eK w w0.heap.size aj ρ cs C/\C.size=cs.length:=λaj ρ a w hR=>by
      have Tg:eK w w0.heap.size aj ρ (List.replicate len (z.cells.toList.map nR)).flatten (madeCells z.cells (len*aG D)):=by
       have e1:(List.replicate len (z.cells.toList.map nR)).flatten=((List.replicate len z.cells.toList).flatten).map nR:=by
        rw[List.map_flatten,List.map_replicate]
       rw[e1,<- aaA z.cells (aG D) len m6 (oB D)]
       refine⟨by simp,λj x E=>?_⟩
       rw[eJ]at E;cases O:(madeCells z.cells (len*aG D)).toList[j]? with
       |none=>rw[O]at E;cases E
       | some v=>
        rw[O]at E;injection E with E;subst E;exact⟨v,by simpa using O,Mv v⟩
      obtain⟨C,wJ,hl⟩:=MA (w:=w) (B:=w0.heap.size) (aj:=aj) (ρ:=ρ) _ _ _ (parts.toList.map λp=>(p.1,a.eval p.2)) cs jB Tg (by simp) (λj p q I Y=>by
       rw[eJ]at I Y;cases E:parts.toList[j]? with
       |none=>rw[E]at I;cases I
       | some x=>
        rw[E]at I Y;injection I with I;injection Y with Y;subst I Y;exact⟨rfl,hR.aK x.2⟩)
      have Z:(Instr.buildSlice t len (parts.map λ(i,x)=>(i,a.eval x))).run P w = .ok (.slice (some ⟨w.heap.size,0,none⟩) len len) (w.alloc (.cells C e)):=by
       have Gx:(parts.map λ(i,x)=>(i,a.eval x)).toList=parts.toList.map λp=>(p.1,a.eval p.2):=by simp
       by_cases h0:len*aG D=0
       ·have hm:madeCells z.cells (len*aG D) = #[]:=by rw[h0];simp[madeCells]
        rw[hm]at wJ;have Th:len*i.size=0:=by rw[T];exact h0
        rw[<- T]at wJ;have e0:∀f:Nat -> Value,Array.map f (Array.range 0) = #[]:=λf=>by simp
        simp only[Instr.buildSlice,gk,gY gy,sizeOf,typeInfo];simp[hi,Th];rw[e0,wJ];simp[newRow]
       ·exact run_buildSlice (P:=P) w t e len _ C i z gy hi oL (by rw[T];omega) (by rw[T];exact h0) (by rw[T,Gx];exact wJ)
      exact⟨C,Z,hl,hl.1⟩
     cases nQ:Nat.beq len 0 with
     | true=>
      rw[nQ,aq]at h;have hln:=cB nQ;subst hln;obtain⟨hd,h⟩:=oJ h
      refine⟨_,h,λaj ρ a w hR=>?_⟩
      obtain⟨C,Z,hl,hcz⟩:=key aj ρ a w hR;have s9:cs.length=0:=by
       have h1:=abo _ _ _ jB;rw[h1];simp
      refine⟨_,bW aj w.heap.size (some [d]),bW ρ d (.dH (.slice (some ⟨w.heap.size,0,none⟩) 0 0)),_,Z,(hR.Dl (hR.dm d (.inl hd)) (λr L=>cH _ _ _ L) (.sl _ _ (bZ _ _ _) ?_)).set ⟨rfl,by simp[cU,bZ]⟩ hd⟩
      exact RV.own (w:=w.alloc (.cells C e)) (B:=w0.heap.size) (aj:=bW aj w.heap.size (some [d])) [d] D (full D) true [] w.heap.size 0 C (λ_ _=>undef)
       (bZ _ _ _) (by rw[ht];exact heap_alloc_new w _) (by omega) (dJ _) ⟨by unfold maxLen;omega,λ_=>rfl⟩ (λi' h'=>absurd h' (by simp)) (λi' h'=>absurd h' (by simp))
     |false=>
     rw[nQ,au]at h;obtain⟨hd,h⟩:=oJ h
     refine⟨_,h,λaj ρ a w hR=>?_⟩
     obtain⟨C,Z,hl,_⟩:=key aj ρ a w hR
     refine⟨_,bW aj w.heap.size (some [d]),bW ρ d (.aC w.heap.size 0),_,Z,(hR.Dl (hR.dm d (.inl hd)) (λr L=>cH _ _ _ L) ?_).set ⟨w.heap.size,bZ _ _ _,(SN (by have:=Nat.le_mul_of_pos_right len (oB D);unfold qy;omega)).symm⟩ hd⟩
     have h1:eK (w.alloc (.cells C e)) w0.heap.size (bW aj w.heap.size (some [d])) ρ cs C:=
      hl.lz (by simp) (λb hb=>⟨Below.heap_alloc w _ b hb,cH _ _ _ (by omega)⟩) (λb k hb=>(hR.cV b k hb).2.1)
     have h2:=h1.eY (ρ':=bW ρ d (.aC w.heap.size 0)) (d:=d) (λr L=>cH _ _ _ L)
     refine .aC w.heap.size 0 C e _ (λj=>C.getD j undef) (bZ _ _ _) (bZ _ _ _) (heap_alloc_new w _) (by rw[h2.1];omega) λj y hy=>?_
     obtain⟨v,O,L⟩:=h2.2 j y hy;have hg:C.getD j undef=v:=by rw[iE,O];rfl
     rw[hg,fh];exact⟨O,L⟩
    ·cases h
  ·cases h
 ·cases h
def aoG{t:TypeId}{len:Nat}{parts:aa (Nat×Operand)}{k:S -> ah X}(h:wT P N σ d t len parts k=some r):∃ y u,k (((σ.drop d).root d y).set d u)=some r /\
  (∀(C:S),(∀p∈parts,aK C p.2=aK σ p.2) -> mF (λX k=>wT (X:=X) P N C d t len parts k) (((C.drop d).root d y).set d u)):=by
 unfold wT at h;split at h
 ·rename_i e tc Y;split at h
  ·rename_i z Z;cases D:(Nat.beq _ _&&Nat.blt _ 16777217)with
   |false=>rw[D]at h;cases h
   | true=>
    rw[D]at h;split at h
    ·rename_i cs jB;cases E:Nat.beq len 0 with
     | true=>
      rw[E,aq]at h;obtain⟨I,_⟩:=DN h
      refine⟨_,_,I,λC L X k=>?_⟩
      obtain⟨O,_⟩:=oJ h;have T:Nat.blt d N=true:=ja O;have e:(parts.map λp=>(p.1,aK C p.2))=parts.map λp=>(p.1,aK σ p.2):=List.map_congr_left λp U=>by rw[L p U]
      simp only[wT,Y,Z,D,aq,e,jB,iw,T,E]
     | false=>
      rw[E,au]at h;obtain⟨I,_⟩:=DN h
      refine⟨_,_,I,λC L X k=>?_⟩
      obtain⟨O,_⟩:=oJ h;have T:Nat.blt d N=true:=ja O;have e:(parts.map λp=>(p.1,aK C p.2))=parts.map λp=>(p.1,aK σ p.2):=List.map_congr_left λp U=>by rw[L p U]
      simp only[wT,Y,Z,D,aq,e,jB,iw,T,E,au]
    ·cases h
  ·cases h
 ·cases h
def abp{t e ty:TypeId}{U:TC}{i:TypeInfo}{z:Value}{rr ry n:Nat}{k:S -> ah X}(gy:P.underlying t=some (.slice e))(ht:tid U=e)(hi:P.info? e=some i)(hz:i.zero=some z)
  (iN:i.size=aG U) (jZ:i.bytes <= 65536) (m6:z.cells.size=aG U) (h:Bm N σ d rr ry U n k=some r):∃cY,k cY=some r /\ ∀aj ρ a w,Rl w0 N aj ρ σ a w -> w0.F rr=none -> ∀u v b,ρ rr = .dH u -> ρ ry = .aC b 0 -> v = .slice (some ⟨b,0,none⟩) n n ->
  ∃w' aD ρ' z,(Builtin.append_ #[t,t] ty #[u,v]).run P w = .ok z w'/\Rl w0 N aD ρ' cY (a.put (some d) z) w':=by
 unfold Bm at h;split at h
 ·rename_i cs E o q l Uo hr;split at h
  ·rename_i nj;subst nj;split at h
   ·rename_i vs τ Up;split at h
    ·rename_i l2 kM;cases T:(Nat.blt d N&&bF (l.length+l2.length))with
     |false=>rw[T]at h;cases h
     | true=>
      rw[T,aq]at h;rw[aQ]at T;have Gr:l.length+l2.length<1073741824:=by simpa [bF]using T.2
      have hd:d<N:=by have:=cK T.1;omega
      refine⟨_,h,λaj ρ a w hR hF u v b aoH aoI L=>?_⟩
      subst L;have Y:=hR.root ry _ Uo;generalize C:aV.aC cs=x at Y;cases Y with
      |sl=>cases C
      |mp=>cases C
      |gh=>cases C
      | aC b' off cells e' eV us cO pG hh hs hc=>
       injection C with C;subst C;rw[aoI]at cO;injection cO with e1 e2;subst e1 e2;have mE:eK w w0.heap.size aj ρ cs ((List.range cs.length).map us).toArray:=by
        refine⟨by simp,λj x I=>?_⟩
        have D:j<cs.length:=(dQ.1 I).1;exact⟨us j,by simp[D],(hc j x I).2⟩
       obtain⟨aD,dX,A1,M3,_,qE,lC,_,_⟩:=Mq (w0:=w0) (N:=N) (λj=>by simp[cR]) _ _ _ _ _ _ Up aj ρ a w hR _ mE;obtain⟨MD,aoJ,iT⟩:=Tf E o n vs l2 kM;have wH:cs.length=n*aG E:=by rw[<- A1,aoJ]
       have oM:∀ j,j<cs.length -> (us j).oneCell'=true:=by
        intro j D;have I:=bS (by rw[A1];exact D);obtain⟨u',uI,O⟩:=M3 j _ I;have:u'=us j:=by simpa [D]using uI.symm
        rw[<- this];exact O.one
       have Uq:b<w.heap.size:=(iO.1 hh).1;have wF:Reads w w.heap.size (aG E) (some ⟨b,0,none⟩) n ((List.range cs.length).map us):=by
        refine⟨by simp[wH],λhn=>⟨b,0,rfl,Uq,λj v L=>?_⟩⟩
        have D:j<cs.length:=by have:=(dQ.1 L).1;simpa using this
        have:v=us j:=by simpa [D]using L.symm
        subst this;rw[cell_of_row w b _ cells _ _ hh];simp_all
       have gT:sX w w0.heap.size aD rr l.length E o l2 ((List.range cs.length).map us):=by
        intro Z G1 j x I;have D:j<aG E:=by have:=(dQ.1 I).1;rwa [kL]at this
        obtain⟨y,Y,hw⟩:=iT Z G1 j x I;obtain⟨u',uI,O⟩:=M3 _ _ Y;refine⟨u',uI,?_⟩;have e1:(0+(Z*aG E+j)) % aG E=j:=by rw[fh,Nat.add_comm,Nat.add_mul_mod_self_right,Nat.mod_eq_of_lt D]
        have e2:(0+(Z*aG E+j)) / aG E=Z:=by rw[fh,Nat.add_comm,Nat.add_mul_div_right _ _ (oB E),Nat.div_eq_of_lt D,fh]
        simp only[e1,e2]at O;exact O.wk hw
       have Bn:=dX.root rr _ (qE _ hr);generalize C:aV.sl (.sl E (o+2) q l)=x at Bn;cases Bn with
       |aC=>cases C
       |mp=>cases C
       |gh=>cases C
       | sl uu y jd O=>
        injection C with C;subst C;rw[aoH]at jd;injection jd with jd;subst jd;obtain⟨v',w',dA,eO,lE,gx⟩:=dX.anl (ty:=ty) (c:=n) hF gy ht hi hz iN jZ m6 O wF (λv L=>by
         obtain⟨j,D⟩:=List.mem_iff_getElem?.1 L;have Gu:j<cs.length:=by have:=(dQ.1 D).1;simpa using this
         have:v=us j:=by simpa [Gu]using D.symm
         rw[this];exact oM j Gu) MD.symm gT Gr
        exact⟨w',dA,_,v',eO,lE.set ⟨gx,by simp[cU,bZ]⟩ hd⟩
    ·cases h
   ·cases h
  ·cases h
 ·cases h
def aoK{rr C n:Nat}{D:TC}:cI λX k=>Bm (X:=X) N σ d rr C D n k:=λX Y k g=>by
 unfold Bm
 repeat' first|rfl|refine dc ?_ ?_|split
def aoL{t ty:TypeId}{x y:A}{k:S -> ah X}(h:G3 P N σ d t x y k=some r):∃ C,k C=some r /\ ∀ aj ρ a w,Rl w0 N aj ρ σ a w -> ∀ u v,RA w w0.heap.size aj ρ x u -> RA w w0.heap.size aj ρ y v ->
  ∃w' aD ρ' z,(Builtin.append_ #[t,t] ty #[u,v]).run P w = .ok z w'/\Rl w0 N aD ρ' C (a.put (some d) z) w':=by
 unfold G3 at h;split at h
 ·rename_i e L ry n oK;obtain⟨gy,ht,i,hi,iN,jZ⟩:=yQ oK;cases E:((zeroOf P e).any (λz=>Nat.beq z.cells.size (aG L))&&(Nat.blt d N&&Nat.blt n qy))with
  |false=>simp_all
  | true=>
   rw[E,aq]at h;rw[aQ]at E;obtain⟨z,hz,I⟩:=(Option.any_eq_true _ _).1 E.1;have I:=cB I;have oL:i.zero=some z:=by unfold zeroOf at hz;simpa [hi]using hz
   have O:=E.2;rw[aQ]at O;have hd:d<N:=by have:=cK O.1;omega
   have l8:n<qy:=by have:=cK O.2;omega
   split at h
   ·obtain⟨C,T,U⟩:=abp (w0:=w0) (ty:=ty) gy ht hi oL iN jZ I h
    refine⟨C,T,λaj ρ a w hR u v D Y=>?_⟩
    have D:u = .slice none 0 0:=by cases D.2;rfl
    subst D;obtain⟨b,hb,rfl⟩:=Y;have Uo:ry≠d:=by
     rintro rfl;unfold Bm at h;split at h
     ·simp_all
     ·cases h
    have hR0:=hR.new (d:=d) (x:=.sl (.sl L (full L+2) false [])) (.dH (.slice none 0 0)) (.sl _ _ (bZ _ _ _) (.eE _ _ _)) (hR.dm d (.inl hd));exact U _ _ a w hR0 (hR.dm d (.inl hd)) _ _ b (bZ _ _ _) ((cH _ _ _ Uo).trans hb) (SN l8)
   ·rename_i rr;cases Z:(Nat.blt rr N || Nat.ble 60000 rr)with
    |false=>simp_all
    | true=>
     rw[Z,aq]at h;rw[eA]at Z;have qE:rr<N \/ 60000 <= rr:=Z.imp (λh=>by have:=cK h;omega) (λh=>cK h);obtain⟨C,T,U⟩:=abp (w0:=w0) (ty:=ty) gy ht hi oL iN jZ I h
     refine⟨C,T,λaj ρ a w hR u v D Y=>?_⟩
     obtain⟨b,hb,rfl⟩:=Y;have cO:ρ rr = .dH u:=by
      have h4:=D.2;simp only[cU]at h4;cases hl:ρ rr with
      |aC b o=>simp_all
      |bT us=>simp_all
      |dH v=>simp_all
     exact U aj ρ a w hR (hR.dm rr qE) _ _ b cO hb (SN l8)
   ·cases h
 ·cases h
def aoM{t:TypeId}{x y:A}:cI λX k=>G3 (X:=X) P N σ d t x y k:=λX Y k g=>by
 unfold G3
 repeat' first|rfl|exact aoK _ _ _ _|refine dc ?_ ?_|split
def aoN{t:TypeId}{x y:A}{k:S -> ah X}(h:tv P σ t x y k=some r):∃ cY,k cY=some r /\ ∀ aj ρ a w,Rl w0 N aj ρ σ a w -> ∀ u v,RA w w0.heap.size aj ρ x u -> RA w w0.heap.size aj ρ y v ->
  ∃w' aD,(Instr.storeAt t u v).run P w = .ok () w'/\Rl w0 N aD ρ cY a w':=by
 unfold tv at h;split at h
 ·rename_i n xs j i s rr hn oI;split at h
  ·rename_i hlen;cases Ur:xs.all Lf.live with
   |false=>rw[Ur]at h;cases h
   | true=>
    rw[Ur,aq]at h;split at h
    ·rename_i vs τ Up;split at h
     ·rename_i C o' qn l jh;split at h
      ·rename_i oG;split at h
       ·rename_i hi;split at h
        ·rename_i hj;split at h
         ·rename_i e he
          refine⟨_,h,λaj ρ a w hR u v hu hv=>?_⟩
          obtain⟨ad,rfl,I⟩:=hu;obtain⟨hl,oM⟩:=Gg oI Ur hv;have mE:eK w w0.heap.size aj ρ xs v.cells.toList.toArray:=by simpa using hl
          obtain⟨aD,dX,A1,M3,_,qE,lC,aFS,_⟩:=Mq (w0:=w0) (N:=N) (λm=>by simp[cR]) _ _ _ _ _ _ Up aj ρ a w hR _ mE;simp only[addrAt]at I;split at I
          ·rename_i b n0 c0 cO;split at I
           ·rename_i pG;injection I with I;subst I;have Bn:=dX.root rr _ jh;generalize D:aV.sl (.sl C (o'+2) qn l)=x at Bn;cases Bn with
            |aC=>cases D
            |mp=>cases D
            |gh=>cases D
            | sl uu y jd fJ=>
             injection D with D;subst D;rw[cO]at jd;injection jd with jd;subst jd;cases fJ with
             |aI _ _ _ _ _ _ _ _ _ ho=>omega
             |fI=>simp at hi
             |fV=>simp at hi
             | own _ _ _ _ _ _ cap cs us M4 hh hs yI hm hc hr=>
              subst oG;have Us:v.cells.size=n:=by rw[hl.1,hlen]
              have AX:i*aG C+aG C <= c0*aG C:=by
               have:(i+1)*aG C <= c0*aG C:=iZ _ (by omega);rw[iP]at this;exact this
              have lY:i*aG C+j+v.cells.toList.length <= cs.size:=by rw[lS,Us,hs];omega
              have O:=Mj w b (i*aG C+j) v.cells.toList;obtain⟨Y,gT,ni⟩:=F0 b (tid C) v.cells.toList (i*aG C+j) w cs hh lY;have sU:∀ m,Y[m]?=if m<i*aG C+j then cs[m]? else if m<i*aG C+j+n then v.cells[m-(i*aG C+j)]? else cs[m]?:=by
               intro m;have e2:Y[m]?=(splice cs.toList (i*aG C+j) v.cells.toList)[m]?:=by
                rw[show Y[m]?=Y.toList[m]? by simp,ni];rfl
               rw[e2,wo _ _ _ (by simpa using lY),lS,Us];simp
              have Gb:Y.size=cs.size:=by
               rw[<- lS,ni];have:=sR cs.toList (i*aG C+j) v.cells.toList (by simpa using lY);simp only[splice]at this;simp_all
              have Uq:b<w.heap.size:=(iO.1 hh).1;have hz:w.heap.size <= (w.setCells b (i*aG C+j) v.cells.toList).heap.size:=Nat.le_of_eq O.size.symm;have Ut:∀E,E<w.heap.size -> aD E≠some [rr] -> (w.setCells b (i*aG C+j) v.cells.toList).heap[E]?=w.heap[E]?:=λE _ cL=>O.block E (by rintro rfl;exact cL M4)
              have Gh:w.there b (i*aG C+j) v.cells.size:=by
               intro m rS;refine⟨?_,frozen_of_row w b _ cs _ hh⟩;rw[cell_of_row w b _ cs _ _ hh];simp;omega
              have l6:vs.length=n:=by rw[A1,hlen]
              refine⟨_,aD,SY w b _ t v Gh (by rw[Us];exact hn) oM,dX.tf (ns:=[rr]) (cn:=[]) (eZ:=ρ) (dA:=aD) ⟨hz,λE A7 T=>⟨O.block E ?_,rfl⟩,λ_ _=>rfl,λE k T=>(dX.cV E k T).2⟩
               ⟨O.os,O.tape,O.output,hz,λk T hL=>O.block k ?_⟩ (λE k T=>?_) (λr hr=>by cases hr) (λr0 x D=>?_)⟩
              ·rintro rfl;have:=T _ M4;simp[fW,cW]at this
              ·rintro rfl;rcases(dX.cV k _ M4).1 with h1 | h1
               ·exact absurd T (Nat.not_lt.2 h1)
               ·exact h1 hL
              ·have:=dX.cV E k T;exact⟨this.1,Nat.lt_of_lt_of_le this.2.1 hz,this.2.2⟩
              ·have iU:r0=rr/\x = .sl (.sl C (o'+2) qn (l.set i e)):=by
                simp only[List.lookup]at D;split at D
                next A7=>injection D with D;exact⟨by simpa using A7,D.symm⟩
                ·cases D
               obtain⟨rfl,rfl⟩:=iU;refine .sl _ _ cO ?_
               refine RV.Mk (u:=us) (us:=λ_ m=>v.cells.getD (m-j) undef) (cs:=cs) (xs:=vs) M4 gT (Gb.trans hs) yI hm hi (by rw[l6];exact hj) he (λL h' Z x U Ml=>?_) (λm x U=>?_)
               ·have rM:Z<aG C:=by have:=(dQ.1 U).1;rwa [kL]at this
                refine⟨?_,(hr L h' Z x U).under (n:=r0) (.inl (by simp)) hz Ut (λ_ _=>rfl)⟩
                rw[sU];have AY:¬ (¬ L*aG C+Z<i*aG C+j/\L*aG C+Z<i*aG C+j+n):=by
                 rintro⟨h1,h2⟩;rcases Nat.lt_trichotomy L i with dW|heq|De
                 ·have:(L+1)*aG C <= i*aG C:=iZ _ dW;rw[iP]at this;omega
                 ·subst heq;exact Ml ⟨rfl,by omega,by omega⟩
                 ·have:(i+1)*aG C <= L*aG C:=iZ _ De;rw[iP]at this;omega
                split
                ·exact hc L h' Z x U
                ·rw[bO];exact hc L h' Z x U
               ·obtain⟨v0,wG,AZ⟩:=M3 m x U;have rS:m<n:=by rw[<- l6];exact(dQ.1 U).1
                have My:v.cells[m]?=some v0:=by simpa using wG
                have Df:v.cells.getD (j+m-j) undef=v0:=by rw[show j+m-j=m by omega,iE,My];rfl
                show Y[_]?=some (v.cells.getD (j+m-j) undef)/\RV _ _ _ _ _ (v.cells.getD (j+m-j) undef);rw[Df,sU,bO,bN];rw[fh]at AZ
                refine⟨?_,AZ.under (n:=r0) (.inl (by simp)) hz Ut (λ_ _=>rfl)⟩
                rw[show i*aG C+(j+m)-(i*aG C+j)=m by omega];exact My
           ·cases I
          ·cases I
         ·cases h
        ·cases h
       ·cases h
      ·cases h
     ·cases h
    ·cases h
  ·cases h
 ·cases h
def aoO{t:TypeId}{x y:A}:cI λX k=>tv (X:=X) P σ t x y k:=λX Y k g=>by
 unfold tv
 repeat' first|rfl|refine dc ?_ ?_|split
end
def M5(P:Program)(f:Nat)(F:aa Int->ah Int):Prop:=
 ∀ (w:World) (l:aa (T .u8)) (h:Int) (v:Value),F l=some h->RV w w.heap.size (λ_=>none) [] (.sl .u8 0 false l) v->Hd w (λ_=>none)->Calls P f #[v] w λe w'=>
  ∃b off cells t,e = .returned (.pointer (some ⟨b,off,none⟩))/\Below w.heap.size w w'/\w.heap.size<=b/\w'.heap[b]?=some (.cells cells t (0,0))/\cells[off]?=some v/\cells[off+1]?=some (.int .i64 0)/\cells[off+2]?=some (.int .i64 h)
def G4{X:Type}(N:Nat)(σ:S)(d:Nat)(F:aa Int->ah Int)(x:A)(k:S->ah X):ah X:=
 match x with
 | .lf (.v (.sl .u8 0 q l))=>bif Nat.blt d N then (match F l with
  |some h=>k (((σ.drop (1000000000100000+1000*d)).root (1000000000100000+1000*d) (.aC [.v (.sl .u8 0 q l),.v (.int .i64 0),.v (.int .i64 h)])).set d (.aO (1000000000100000+1000*d) 0))
  |none=>none)else none
 |_=>none
structure Bo where
 a:Nat
 j:Nat
 t:TC
 run:List Pt->Option (Nat×Nat)
def tw(bT:Array Value)(a j:Nat):ah Value:=match bT[a]? with
 |some (.agg us)=>us[j]?
 |some u=>bif Nat.beq j 0 then some u else none
 |none=>none
def M6(P:Program)(f:Nat)(c:Bo):Prop:=
 ∀ (args:aa Pt) (p:Nat×Nat),c.run args=some p->∀ (w:World) (bT:Array Value),oP w args bT->Hd w (λ_=>none)->Calls P f bT w λe w'=>
  ∃A n cap,tw bT c.a c.j=some (.slice A n cap)/\p.1<=p.2/\p.2<=n/\e = .returned (sliced A p.1 p.2 cap (aG c.t))/\Below w.heap.size w w'
def abq(σ:S)(args:aa Operand)(a j:Nat):ah Lf:=match args[a]? with
 | some x=>(match aK σ x with
  |.agg cs=>cs[j]?
  |.lf l=>bif Nat.beq j 0 then some l else none
  |_=>none)
 |none=>none
def G5{X:Type}(N:Nat)(σ:S)(d:Nat)(c:Bo)(args:aa Operand)(k:S->ah X):ah X:=
 bif Nat.blt d N then rV σ args λps=>(match c.run ps with
  | some p=>(match abq σ args c.a c.j with
   |some (.v (.sl t g _ l))=>if t=c.t then (bif Nat.blt g 2&&Nat.ble p.1 p.2&&Nat.ble p.2 l.length then k (σ.set d (.lf (.v (.sl t g false ((l.take p.2).drop p.1)))))else none)else none
   |_=>none)
  |none=>none)else none
structure tA where
 run:(X:Type)->Nat->S->List A->(S->A->Option X)->Option X
def DP{α β:Type}(f:(X:Type)->(α->β->ah X)->ah X):Prop:=∀(X Y:Type) (k:α->β->ah X) (g:X->ah Y),(f X k).bind g=f Y λa b=>(k a b).bind g
def DP.lZ{α β:Type}{f:(X:Type)->(α->β->ah X)->ah X}(n:DP f){X:Type}{k:α->β->ah X}{r:X}(h:f X k=some r):∃ a b,k a b=some r/\∀ (X:Type) (k:α->β->ah X),f X k=k a b:=by
 obtain⟨⟨a,b⟩,C,D⟩:=cI.lZ (f:=λX (k:α×β->ah X)=>f X λa b=>k (a,b)) (λX Y k g=>n X Y _ g) (k:=λp=>k p.1 p.2) h;exact⟨a,b,C,λX k=>D X λp=>k p.1 p.2⟩
def pP(P:Program)(f:Nat)(c:tA):Prop:=(∀ N σ xs,DP λX k=>c.run X N σ xs k)/\
 ∀ [Inhabited Wd] (N:Nat) (σ:S) (xs:aa A) (C:S) (y:A),c.run (S×A) N σ xs (λσ y=>some (σ,y))=some (C,y)->
  ∀ (w0:Wd) (aj:bI) (ρ:Nat->Loc) (a:Act) (w:World) (bT:Array Value),Rl w0 N aj ρ σ a w->bT.size=xs.length->(∀ i,RA w w0.heap.size aj ρ ((xs[i]?).getD .undef) (bT.getD i undef))->
   Calls P f bT w λe w'=>∃v aD ρ',e = .returned v/\Rl w0 N aD ρ' C a w'/\RA w' w0.heap.size aD ρ' y v
inductive pQ where
 |p (c:je)
 |m (c:nA)
 |n (F:List Int->Option Int)
 |v (c:Bo)
 |i (c:tA)
 |d (c:nA)
 |q (c:je)
 |c (c:nA)
def Uu(P:Program)(f:Nat):pQ->Prop
 |.p c=>iF P f c
 |.m c=>uP P f c
 |.n F=>M5 P f F
 |.v c=>M6 P f c
 |.i c=>pP P f c
 |.d c=>uP P f c
 |.q c=>iF P f c
 |.c c=>uP P f c
section
variable {P:Program} {w w':World} {w0:Wd} {B N:Nat} {aj dA aD:bI} {ρ eZ ρ':Nat->Loc} {σ:S} {a:Act} {X:Type} {d:Nat} {r:X} {ns cn:aa Nat} {o:Oper}
def abr:∀ (xs:aa Lf),cI λX k=>rZ (X:=X) σ ns xs k
 |[]=>λ_ _ _ _=>rfl
 |x::xs=>λX Y k g=>dc ((DL.comp λy=>(abr xs).comp (b:=λX k ys=>k (y.gG::ys)) λ_ _ _ _ _=>rfl) X Y k g) rfl
def abt{x:A}:cI λX k=>qO (X:=X) σ ns x k:=λX Y k g=>by
 unfold qO
 repeat' first|rfl|exact abr _ _ _ _ _|refine dc ?_ ?_|split
def M7:∀ (ps:aa PK) (xs:aa Operand) (C:aa Mu),cI λX k=>jD (X:=X) σ ns ps xs C k:=λps=>by
 induction ps with
 |nil=>intro xs C X Y k g;cases xs<;>cases C<;>rfl
 | cons p ps D=>
  intro xs C X Y k g;cases xs with
  |nil=>cases p<;>cases C<;>rfl
  | cons x xs=>
   cases p with
   | v b t=>
    refine(abt _ _ _ _).trans (bx _ (funext λp=>dc ?_ rfl))
    split
    ·exact D _ _ _ _ _ _
    ·rfl
   | p t E o=>
    cases C with
    |nil=>rfl
    | cons m C=>cases m with
     |sl=>rfl
     | aC=>
      simp only[jD];split
      ·exact D _ _ _ _ _ _
      ·rfl
   | s t E=>
    cases C with
    |nil=>rfl
    | cons m C=>cases m with
     |aC=>rfl
     | sl=>
      simp only[jD];split
      ·exact D _ _ _ _ _ _
      ·rfl
def aoP{C:ah Tmp}{D:gf}:cI λX k=>pL (X:=X) N σ C D k:=λX Y k g=>by
 unfold pL
 repeat' first|rfl|exact MZ _ _ _ _|refine dc ?_ ?_|split
def Uv{C:ah Tmp}{c:nA}{args:aa Operand}:cI λX k=>nX (X:=X) N σ C c args k:=λX Y k g=>by
 unfold nX;split
 ·refine dc ((M7 _ _ _ _ _ _ _).trans (bx _ (funext λx=>?_))) rfl
  split
  ·exact dc (aoP _ _ _ _) rfl
  ·rfl
 ·rfl
def aoQ{F:aa Int->ah Int}{x:A}:cI λX k=>G4 (X:=X) N σ d F x k:=λX Y k g=>by
 unfold G4
 repeat' first|rfl|refine dc ?_ ?_|split
def aoR{f:Nat}{x:Operand}{args:Array Operand}{T:Array TypeId}{F:aa Int -> ah Int}{k:S -> ah X}(ho:o.op = .call { callee:=.value (.func f),args,argTypes:=T })(hx:args.toList=[x])(hd:o.dst=some d)(he:enters P f)(hc:M5 P f F)(h:G4 N σ d F (aK σ x) k=some r):
  ∃U,k U=some r/\lA P w0 N o σ U:=by
 unfold G4 at h;split at h
 ·rename_i q l hq;cases E:Nat.blt d N with
  |false=>rw[E]at h;cases h
  | true=>
   rw[E,aq]at h;have DB:d<N:=cK E;split at h
   ·rename_i Y hhz
    refine⟨_,h,λa w K Q hR hK=>?_⟩
    obtain⟨aj,ρ,hR⟩:=hR;have I:=hR.aK x;rw[hq]at I;have wG:RV w w.heap.size (λ_=>none) [] (.sl .u8 0 false l) (a.eval x):=by
     have Z:RV w w.heap.size (λ_=>none) [] (.sl .u8 0 q l) (a.eval x):=I.2.gG;cases q with
     |false=>exact Z
     |true=>exact Z.wk (.q _ _ _)
    unfold Oper.wp;rw[MI w o a f args T ho he,Oper.upon_enter];have wM:(args.map a.eval) = #[a.eval x]:=by apply Array.ext';rw[Array.toList_map,hx];rfl
    rw[wM]
    refine(hc w l _ _ hhz wG (w0.on hR.below (λ_ _ h=>by cases h))).mono λe w' qI=>?_
    obtain⟨b,off,cells,t,rfl,L,hb,hh,s9,Uw,ni⟩:=qI;have hB:=hR.below.size;have lD:b<w'.heap.size:=(iO.1 hh).1;have r4:Rl w0 N (bW aj b (some [1000000000100000+1000*d])) ρ σ a w':=by
     refine hR.grow L (λc O=>cH _ _ _ (by omega)) (λc k O D=>?_)
     by_cases e:c=b
     ·subst e;rw[bZ]at D;injection D with D
      grind
     ·rw[cH _ _ _ e]at D;have:=(hR.cV c k D).2.1;omega
    have lE:=r4.new (d:=1000000000100000+1000*d) (x:=.aC [.v (.sl .u8 0 q l),.v (.int .i64 0),.v (.int .i64 Y)]) (.aC b off) (by
     refine .aC b off cells t _ (λj=>(#[a.eval x,.int .i64 0,.int .i64 Y]:Array Value).getD j undef) (bZ _ _ _) (bZ _ _ _) hh (by
      have:=(iO.1 ni).1;simp;omega) (λj y C=>?_)
     have GC:dR w' w0.heap.size (bW aj b (some [1000000000100000+1000*d])) (bW ρ (1000000000100000+1000*d) (.aC b off)) (.v (.sl .u8 0 q l)) (a.eval x):=by
      refine⟨rfl,I.2.lz L.size (λc O=>⟨L.block c O,cH _ _ _ (by omega)⟩)⟩
     match j,C with
     |0,C=>simp at C;subst C;exact⟨s9,GC⟩
     |1,C=>simp at C;subst C;exact⟨Uw,rfl,.int _ _ _⟩
     |2,C=>simp at C;subst C;exact⟨ni,rfl,.int _ _ _⟩
     |j+3,C=>simp at C) (hR.dm _ (.inr (by omega)))
    rw[hd];exact hK _ _ ⟨_,_,lE.set ⟨b,off,bZ _ _ _,rfl⟩ DB⟩
   ·cases h
 ·cases h
def aoS{f:Nat}{args:Array Operand}{O:Array TypeId}{c:Bo}{k:S -> ah X}(ho:o.op = .call { callee:=.value (.func f),args,argTypes:=O })(hd:o.dst=some d)(he:enters P f)(hc:M6 P f c)(h:G5 N σ d c args.toList k=some r):∃ T,k T=some r/\lA P w0 N o σ T:=by
 unfold G5 at h;cases U:Nat.blt d N with
 |false=>grind
 | true=>
  rw[U,aq]at h;have DB:d<N:=by have:=cK U;omega
  obtain⟨ps,E,oQ⟩:=aaL (w0:=w0) (N:=N) _ _ h;split at E
  ·rename_i p hp;split at E
   ·rename_i t g q l hl;split at E
    ·rename_i nj;cases hb:(Nat.blt g 2&&Nat.ble p.1 p.2&&Nat.ble p.2 l.length)with
     |false=>grind
     | true=>
      rw[hb,aq]at E;rw[aQ,aQ]at hb;have Y:g<2:=by have:=cK hb.1.1;omega
      have pR:=cK hb.1.2;have h2l:=cK hb.2
      refine⟨_,E,λa w K Q hR hK=>?_⟩
      obtain⟨aj,ρ,hR⟩:=hR;unfold Oper.wp;rw[MI w o a f args O ho he,Oper.upon_enter];have wM:(args.map a.eval)=(args.toList.map a.eval).toArray:=by apply Array.ext';rw[Array.toList_map]
      rw[wM]
      refine(hc ps p hp w _ (oQ aj ρ a w hR) (w0.on hR.below (λ_ _ h=>by cases h))).mono λe w' qI=>?_
      obtain⟨A,n,cap,C,hle,hn,rfl,L⟩:=qI;have kj:RV w w0.heap.size aj [] (.sl t g q l) (.slice A n cap):=by
       unfold abq at hl;split at hl
       ·rename_i x hx;have Ux:((args.toList.map a.eval).toArray)[c.a]?=some (a.eval x):=by
         rw[List.getElem?_toArray,eJ,hx];rfl
        unfold tw at C;rw[Ux]at C;have D:=hR.aK x;split at hl
        next cs jB=>rw[jB]at D;obtain⟨us,mE,hrl⟩:=D;rw[mE]at C;obtain⟨u,I,hr⟩:=hrl.2 _ _ hl;simp only at C;rw[C]at I;injection I with I;subst I;exact hr.2
        ·rename_i lf wL;rw[wL]at D;cases hj:Nat.beq c.j 0 with
         |false=>grind
         | true=>
          rw[hj]at hl C;injection hl with hl;subst hl;have D:dR w w0.heap.size aj ρ (.v (.sl t g q l)) (a.eval x):=D;have Z:∀ us,a.eval x ≠ .agg us:=by
           intro us e;rw[e]at D;cases D.2
          generalize a.eval x=z at C D Z;cases z<;>first|exact absurd rfl (Z _)|(simp only[aq,iQ]at C;cases C;exact D.2)|(simp only[aq,iQ]at C;cases C)
        ·cases hl
       ·cases hl
      obtain⟨Uy,Dx,To⟩:=kj.part (a:=p.1) (h:=p.2) Y pR h2l;subst nj;rw[hd];have dX:=hR.grow L (aD:=aj) (λ_ _=>rfl) (λb k hb hk=>absurd (hR.cV b k hk).2.1 (Nat.not_lt.2 hb));refine hK _ _ ⟨aj,ρ,dX.set ⟨by simp[V.aI,Y],?_⟩ DB⟩;exact Uy.lz L.size λb hb=>⟨L.block b hb,rfl⟩
    ·cases E
   ·cases E
  ·cases E
def aoT{c:Bo}{args:aa Operand}:cI λX k=>G5 (X:=X) N σ d c args k:=λX Y k g=>by
 unfold G5
 refine dc ((DO _ _ _ _).trans (bx _ (funext λps=>?_))) rfl
 repeat' first|rfl|refine dc ?_ ?_|split
/-! Calls of functions that are run in the state of their caller. -/
def G6{X:Type}(N:Nat)(σ:S)(C:ah Tmp)(c:tA)(xs:aa A)(k:S->ah X):ah X:=c.run X N σ xs λD y=>ir N D C y k
def aoU(p:Nat×Nat):A:=.aO p.1 p.2
def G7(σ:S):aa Operand->ah (aa (Nat×Nat))
 |[]=>some []
 | x :: xs=>match aK σ x,G7 σ xs with
  |.aO r j,some ps=>some ((r,j)::ps)
  |_,_=>none
def aoV(w:World)(o:Oper)(a:Act)(f:Nat)(cl:Operand)(C:Array Value)(args:Array Operand)(E:Array TypeId)(I:o.op = .call { callee:=.value cl,args,argTypes:=E })(L:a.eval cl = .func (.func f) #[] C)(O:enters P f):
  (execOp a.eval o).run P w = .ok (.enter f (args.map a.eval++C)) w:=by
 obtain⟨fn,T,U,D⟩:=O;have Y:¬ fn.name = "runtime.NumGoroutine":=by simpa using U
 have Z:¬ fn.body=none:=by intro e;rw[e]at D;cases D
 simp[execOp,I,resolve,L,Deferred.ofValue,invoke,callFunc,Sem.run,T,Y,Z]
def M8:A->ah (Nat×aa A)
 |.fn f cap=>some (f,cap.map aoU)
 |.ng f cs=>some (f,[.jo cs])
 |_=>none
def aoW{x:A}{f:Nat}{ex:aa A}{u:Value}(h:M8 x=some (f,ex))(O:RA w B aj ρ x u):∃ D:Array Value,u = .func (.func f) #[] D/\D.size=ex.length /\ ∀ (j:Nat) y,ex[j]?=some y -> RA w B aj ρ y (D.getD j undef):=by
 unfold M8 at h;split at h
 ·rename_i Z cap;injection h with h;injection h with E I;subst E I;obtain⟨D,T,U,Y⟩:=O
  refine⟨D,T,by simp[U],λj y C=>?_⟩
  rw[eJ]at C;cases L:cap[j]? with
  |none=>simp_all
  | some p=>
   rw[L]at C;injection C with C;subst C;obtain⟨b,off,E,I⟩:=Y _ p L;rw[iE,I];exact⟨b,off,E,rfl⟩
 ·injection h with h;injection h with E I;subst E I;obtain⟨pv,e,L⟩:=O
  refine⟨#[pv],e,rfl,λj y C=>?_⟩
  rcases j with _|j
  ·injection C with C;subst C;exact L
  ·cases C
 ·cases h
def abu{f:Nat}{cl:Operand}{ex:aa A}{args:Array Operand}{Y:Array TypeId}{c:tA}{k:S->ah X}(ho:o.op = .call { callee:=.value cl,args,argTypes:=Y })(wH:M8 (aK σ cl)=some (f,ex))(he:enters P f)(Z:pP P f c)
  (h:G6 N σ o.dst c (args.toList.map (aK σ)++ex) k=some r):∃cY,k cY=some r/\lA P w0 N o σ cY:=by
 unfold G6 at h
 haveI:Inhabited Wd:=⟨w0⟩
 obtain⟨pN,y,C,D⟩:=(Z.1 _ _ _).lZ h;have GJ:=Z.2 _ _ _ _ _ (D _ _);have step:∀ a w K Q,R w0 N σ a w->(∀ v w' aD ρ',Rl w0 N aD ρ' pN a w'->RA w' w0.heap.size aD ρ' y v->K (a.put o.dst v) w')->o.wp P a w K Q:=by
  intro a w K Q hR E;obtain⟨aj,ρ,hR⟩:=hR;obtain⟨L,hv,hs,l6⟩:=aoW wH (hR.aK cl);unfold Oper.wp;rw[aoV w o a f cl L args Y ho hv he,Oper.upon_enter]
  refine(GJ w0 aj ρ a w _ hR (by simp[hs]) λi=>?_).mono λe w' qI=>?_
  ·by_cases hi:i<args.size
   ·have e1:(args.toList.map (aK σ)++ex)[i]?=some (aK σ args[i]):=by
     rw[List.getElem?_append_left (by simpa using hi),eJ,Array.getElem?_toList,Array.getElem?_eq_getElem hi];rfl
    have O:(args.map a.eval++L).getD i undef=a.eval args[i]:=by
     rw[iE,Array.getElem?_append_left (by simpa using hi)];simp[hi]
    rw[e1,O];exact hR.aK _
   ·have e0:(args.toList.map (aK σ)++ex)[i]?=ex[i-args.size]?:=by
     rw[List.getElem?_append_right (by simp;omega)];simp
    rw[e0];cases hp:ex[i-args.size]? with
    |none=>trivial
    | some p=>
     have O:(args.map a.eval++L).getD i undef=L.getD (i-args.size) undef:=by
      rw[iE,Array.getElem?_append_right (by simp;omega),iE];simp
     rw[O];exact l6 _ p hp
  ·obtain⟨v,aD,ρ',rfl,I,T⟩:=qI;exact E v w' aD ρ' I T
 unfold ir at C;split at C
 ·rename_i D
  refine⟨pN,C,λa w K Q hR E=>step a w K Q hR λv w' aD ρ' I _=>?_⟩
  rw[D];exact E _ _ ⟨aD,ρ',I⟩
 ·rename_i d D;cases U:Nat.blt d N with
  |false=>rw[U]at C;cases C
  | true=>
   rw[U,aq]at C
   refine⟨_,C,λa w K Q hR E=>step a w K Q hR λv w' aD ρ' I T=>?_⟩
   rw[D];exact E _ _ ⟨aD,ρ',I.set T (by have:=cK U;omega)⟩
def abv:∀ (xs:aa Operand) (ps:aa (Nat×Nat)),G7 σ xs=some ps -> ps.length=xs.length /\ ∀ aj ρ a w,Rl w0 N aj ρ σ a w -> ∀ (j:Nat) p,ps[j]?=some p -> ∃ b off,ρ p.1 = .aC b off/\(xs.map a.eval)[j]?=some (.pointer (some ⟨b,off+p.2,none⟩))
 | [],ps,h=>by
  simp only[G7,iQ]at h;simp_all
 | x :: xs,ps,h=>by
  unfold G7 at h;split at h
  ·rename_i rr j I L O;injection h with h;subst h;obtain⟨T,U⟩:=abv xs I O
   refine⟨by simp[T],λaj ρ a w hR C p D=>?_⟩
   cases C with
   | zero=>
    simp at D;subst D;have E:=hR.aK x;rw[L]at E;obtain⟨b,off,Y,Z⟩:=E;simp_all
   |succ C =>grind
  ·cases h
end
def A.zp(q s n:Nat):A->A
 |.lf (.own [C])=>bif Nat.beq C q then .view [q] s 0 n else .lf (.own [C])
 |x=>x
def S.zp(σ:S)(p:Nat×Nat×Nat):S:=⟨λk=>(σ.t k).zp p.1 p.2.1 p.2.2,σ.m⟩
def Uz:aa (Nat×Nat×Nat)->S->S
 |[],σ=>σ
 |p::l,σ=>Uz l (σ.zp p)
def UA(c0 g:Nat):Mu->aa (Nat×Nat×Nat)
 |.sl q (.sl t _ _ l)=>bif Nat.ble 1000000 g&&Nat.blt q c0 then [(q,aG t,l.length)]else []
 |_=>[]
def G8(c0:Nat):aa PK->aa Mu->aa (Nat×Nat×Nat)
 |.v _ _::ps,C=>G8 c0 ps C
 |.p _ _ _::ps,_::C=>G8 c0 ps C
 |.s _ g::ps,D::C=>UA c0 g D++G8 c0 ps C
 |_,_=>[]
def G9{X:Type}(N:Nat)(σ:S)(C:ah Tmp)(c:nA)(args:aa Operand)(k:S->ah X):ah X:=
 match jC σ c.ps args with
 |some D=>nX N σ C c args λE=>k (Uz (G8 (iG C) c.ps D) E)
 |none=>none
section
variable {P:Program} {w w':World} {w0:Wd} {B N:Nat} {aj dA aD:bI} {ρ eZ ρ':Nat->Loc} {σ:S} {a:Act} {X:Type} {d:Nat} {r:X} {o:Oper}
def Rl.zp{p:Nat×Nat×Nat}{ad:ah Addr}{c:Nat}(h:Rl w0 N aj ρ σ a w)(E:ρ p.1 = .dH (.slice ad p.2.2 c)):Rl w0 N aj ρ (σ.zp p) a w:=by
 refine⟨h.below,h.cV,h.root,λk=>?_,h.size,h.defers,h.fix,h.dm⟩
 have C:=h.tmp k;show RA _ _ _ _ ((σ.t k).zp p.1 p.2.1 p.2.2) _;generalize σ.t k=x at C;unfold A.zp;split
 ·rename_i I;cases hb:Nat.beq I p.1 with
  |false=>exact C
  | true=>
   obtain rfl:=cB hb;have D:=C.2;simp only[cU,E]at D;injection D with D;refine⟨ad,p.2.2,c,by simp[cU,E],Nat.zero_le _,dJ _,?_⟩;rw[<- D];cases ad<;>simp[sliced,Addr.add]
 ·exact C
def abw:∀ (l:aa (Nat×Nat×Nat)) (σ:S),Rl w0 N aj ρ σ a w->(∀ p∈l,∃ A c,ρ p.1 = .dH (.slice A p.2.2 c))->Rl w0 N aj ρ (Uz l σ) a w
 |[],σ,h,_=>h
 | p :: l,σ,h,hl=>by
  obtain⟨A,c,C⟩:=hl p (.head _);exact abw l _ (h.zp C) λp C=>hl p (.tail _ C)
def aoX{c0 g:Nat}{D:Mu}{p:Nat×Nat×Nat}(h:p∈UA c0 g D):∃ q t o C l,D = .sl q (.sl t o C l)/\p=(q,aG t,l.length)/\q<c0:=by
 unfold UA at h;split at h
 ·rename_i q t o C l;cases hb:(Nat.ble 1000000 g&&Nat.blt q c0)with
  |false=>simp_all
  | true=>
   rw[hb]at h;rw[aQ]at hb;exact⟨q,t,o,C,l,rfl,oy.1 h,cK hb.2⟩
 ·cases h
def M9{c0:Nat}{p:Nat×Nat×Nat}:∀ (ps:aa PK) (C:aa Mu),p∈G8 c0 ps C -> ∃ q t o D l,Mu.sl q (.sl t o D l)∈C/\p=(q,aG t,l.length)/\q<c0
 |.v _ _::ps,C,h=>M9 ps C h
 |.p _ _ _::ps,L::C,h=>let ⟨q,t,o,D,l,I,E⟩:=M9 ps C h;⟨q,t,o,D,l,.tail _ I,E⟩
 | .s _ g :: ps,L :: C,h=>by
  rcases List.mem_append.1 h with h|h
  ·obtain⟨q,t,o,D,l,rfl,E⟩:=aoX h;exact⟨q,t,o,D,l,.head _,E⟩
  ·obtain⟨q,t,o,D,l,I,E⟩:=M9 ps C h;exact⟨q,t,o,D,l,.tail _ I,E⟩
def RV.aoY{q:aa Nat}{t:TC}{g:Nat}{C:Bool}{l:aa (T t)}{v:Value}(h:RV w B aj q (.sl t g C l) v):∃ A c,v = .slice A l.length c:=by
 cases h<;>exact⟨_,_,rfl⟩
def aoZ{f:Nat}{args:Array Operand}{T:Array TypeId}{c:nA}{k:S->ah X}(U:o.op = .call { callee:=.value (.func f),args,argTypes:=T })(Y:enters P f)(Z:uP P f c)(h:G9 N σ o.dst c args.toList k=some r):∃ E,k E=some r/\lA P w0 N o σ E:=by
 unfold G9 at h;split at h
 ·rename_i Ua I;obtain⟨pN,Na,cn,h1,D,_,h4,h5⟩:=T7 (w0:=w0) U Y Z h;rw[I]at D;injection D with D;subst D
  refine⟨_,h1,λa w K Q hR hK=>?_⟩
  obtain⟨aj,ρ,hR⟩:=hR
  refine h5 a w K Q aj ρ hR λv w' dA eZ uW dX hv _ cO=>hK _ _ ⟨dA,uW,abw _ _ dX λp hp=>?_⟩
  obtain⟨q,t,oo,qn,l,L,rfl,hq⟩:=M9 _ _ hp;have jS:=(MN _ _ _ I _ L).1;have O:=hR.root q _ jS;generalize C:aV.sl _=z at O;cases O with
  |aC=>cases C
  |mp=>cases C
  |gh=>cases C
  | sl u y Tx hr=>
   injection C with C;subst C;obtain⟨A,c,rfl⟩:=hr.aoY;exact⟨A,c,(cO q hq).trans ((hv.eY q (h4 _ L)).trans Tx)⟩
 ·cases h
def ao0{C:ah Tmp}{c:nA}{args:aa Operand}:cI λX k=>G9 (X:=X) N σ C c args k:=λX Y k g=>by
 unfold G9;split
 ·exact Uv _ _ _ _
 ·rfl
end
def bI.un(aj:bI)(q:Nat):bI:=λb=>match aj b with
 |some k=>bif cR q k then none else some k
 |none=>none
def He{X:Type}(P:Program)(σ:S)(q s i j:Nat)(t:TypeId)(x:A)(k:S->ah X):ah X:=
 match σ.m q with
 |some (.sl (.sl C (o+2) D l))=>bif Nat.beq s (aG C)&&Nat.beq (full C) 0 then pH P (σ.drop q) t (x.drop q) (.lf (.v (.sl C 0 false ((l.take j).drop i)))) k else none
 |_=>none
section
variable {P:Program} {w w':World} {w0:Wd} {B N:Nat} {aj aD:bI} {ρ ρ':Nat->Loc} {σ:S} {a:Act} {X:Type} {d q:Nat} {r:X} {o:Oper} {y:V}
def ao1(C:∀ b,aj b≠some []):Rel q aj (aj.un q):=
 ⟨C,λb h=>by simp[bI.un,h],λb k h D=>by simp[bI.un,h,D]⟩
def RV.ice{C:TC}{g:Nat}{U:Bool}{l:aa (T C)}{A:ah Addr}{n c:Nat}(E:RV w B aj [q] (.sl C (g+2) U l) (.slice A n c))(hf:full C=0):RV w B (aj.un q) [] (.sl C 0 false l) (.slice A n c)/\n=l.length:=by
 cases E with
 |eE=>exact⟨.eE _ _ _,rfl⟩
 |fI=>grind
 |fV=>grind
 |aI _ _ _ _ _ _ _ _ _ ho=>omega
 | own=>
  rename_i b cs u hl L hc E hs Y hm;have O:∀ (i:Nat) (h:i<l.length) (j:Nat) (x:V),(enc C 0 l[i])[j]?=some x -> (enc C g l[i])[j]?=some x/\x.plain=true:=by
   intro i h j x D;obtain⟨y,I,rfl⟩:=wh C g l[i] j x D;have Z:=Md C g l[i] y (gX I);cases y with
   | sl t' o' q' l'=>
    have:=cK (show Nat.ble _ _=true from Z);omega
   | nil=>
    have:=SL C g l[i] _ (gX I);cases this
   |_=>exact⟨I,rfl⟩
  refine⟨.aI _ _ _ _ _ b 0 c u (by omega) (by simp[bI.un,hl,cR]) (iO.1 L).1 (by omega) Y (λi h j x D=>?_) (λi h j x D=>?_),rfl⟩
  ·rw[fh,cell_of_row w b _ cs _ _ L];simp_all
  ·exact(E i h j x (O i h j x D).1).sS (O i h j x D).2
def ao2{s i j:Nat}{t:TypeId}{x:A}{k:S -> ah X}(h:He P σ q s i j t x k=some r):∃ E,k E=some r /\ ∀ aj ρ a w,Rl w0 N aj ρ σ a w -> ∀ u v,RA w w0.heap.size aj ρ x u -> RA w w0.heap.size aj ρ (.view [q] s i j) v ->
  ∃w' aD,(Instr.storeAt t u v).run P w = .ok () w'/\Rl w0 N aD ρ E a w':=by
 unfold He at h;split at h
 ·rename_i I g Z l hm;cases hb:(Nat.beq s (aG I)&&Nat.beq (full I) 0)with
  |false=>rw[hb]at h;cases h
  | true=>
   rw[hb,aq]at h;rw[aQ]at hb;obtain rfl:=cB hb.1;have hf:=cB hb.2;obtain⟨E,h1,hs⟩:=aaj (w0:=w0) (N:=N) h
   refine⟨E,h1,λaj ρ a w hR u v hu hv=>?_⟩
   have L:Rel q aj (aj.un q):=ao1 hR.wC;have r4:=hR.rel L (λb k C=>by
    unfold bI.un at C;cases hl:aj b with
    |none=>rw[hl]at C;cases C
    | some O=>
     rw[hl]at C;simp only at C;cases T:cR q O with
     |true=>rw[T]at C;cases C
     | false=>
      rw[T]at C;injection C with C;subst C;exact⟨⟨_,rfl⟩,(hR.cV b O hl).2.2⟩)
   obtain⟨A,n,c,U,h3,h4,rfl⟩:=hv;have Y:=hR.root q _ hm;generalize D:aV.sl (.sl I (g+2) Z l)=z at Y;cases Y with
   |aC=>cases D
   |mp=>cases D
   |gh=>cases D
   | sl vq y cO hr=>
    injection D with D;subst D;have hvq:vq = .slice A n c:=by
     simp only[cU,cO]at U;injection U
    subst hvq;obtain⟨h5,h6⟩:=hr.ice hf;have h7:=(h5.part (by omega) h3 (by omega)).1;obtain⟨w',eO,lE⟩:=hs _ _ _ _ r4 u _ (hu.rel L) (show RA _ _ _ _ (.lf (.v _)) _ from ⟨rfl,h7⟩);exact⟨w',_,eO,lE⟩
 ·cases h
def ao3{q s i j:Nat}{t:TypeId}{x:A}:cI λX k=>He (X:=X) P σ q s i j t x k:=λX Y k g=>by
 unfold He
 repeat' first|rfl|exact abj _ _ _ _|refine dc ?_ ?_|split
def DR{X:Type}(P:Program)(σ:S)(t:TypeId)(x lo hi C:A)(k:ah X):ah X:=
 match x,lo,hi,C with
 | .lf (.own q),.lf (.v (.int _ a)),.lf (.v (.int _ b)),.lf (.v (.int _ c))=>(match pF P t with
  | some e=>(match jA P e with
   | some _=>jr σ.m q λy=>(match y with
    |.sl _ _ _ l=>if 0<=a/\a<=b/\b<=c/\c<=(l.length:Int)then k else none
    |_=>none)
   |none=>none)
  |none=>none)
 |_,_,_,_=>none
def ao4{t:TypeId}{x lo hi U:A}{k:ah X}(h:DR P σ t x lo hi U k=some r):k=some r /\
  ∀aj ρ a w,Rl w0 N aj ρ σ a w -> ∀u I L O,RA w w0.heap.size aj ρ x u -> RA w w0.heap.size aj ρ lo I -> RA w w0.heap.size aj ρ hi L -> RA w w0.heap.size aj ρ U O -> ∃v,(Instr.sliceAt t u (some I) (some L) (some O)).run P w = .ok v w:=by
 unfold DR at h;split at h
 ·rename_i q kl a kh b km c;split at h
  ·rename_i e T;split at h
   ·rename_i n Y;obtain⟨y0,Tp,C⟩:=rP q _ h;split at C
    ·rename_i tc g qn xs;split at C
     ·rename_i hb
      refine⟨C,λaj ρ ac w hR u I L O Z hl hh hm=>?_⟩
      rw[hl.2.gU,hh.2.gU,hm.2.gU];have gy:P.underlying t=some (.slice e):=by
       unfold pF at T;split at T
       ·grind
       ·cases T
      have iT:P.elem t=e:=by simp[Program.elem,gy]
      have abx:P.underlying t=some (.slice (P.elem t)):=by rw[iT];exact gy
      have hss:(sizeOf (P.elem t)).run P w = .ok n w:=by
       unfold jA at Y;cases hi:P.info? e with
       |none=>grind
       | some i=>
        have:i.size=n:=by simpa [hi]using Y
        simp[sizeOf,typeInfo,iT,hi,this]
      obtain⟨v0,wG,iU⟩:=Tp.ok hR.root;have gx:∃ D n c,u = .slice D n c:=by
       have:=Z.1;cases u<;>first|cases this;done|exact⟨_,_,_,rfl⟩
      obtain⟨D,n',c',rfl⟩:=gx;have E:=Z.2;rw[wG]at E;injection E with E;subst E;have hf:RV w 0 (λ_=>none) [] (.sl tc 0 qn xs) (.slice D n' c'):=iU.gG;obtain⟨_,Dx,To⟩:=RV.part (w:=w) hf (a:=0) (h:=xs.length) (by omega) (by omega) (by omega);refine⟨sliced D a.toNat b.toNat c.toNat n,?_⟩;rw[run_sliceAt_slice w t _ _ _ _ abx,run_slice_lhm w t D n' c' abx kl kh km a b c hb.1 hb.2.1 hb.2.2.1 (by omega),hss];rfl
     ·cases C
    ·cases C
   ·cases h
  ·cases h
 ·cases h
end
section
variable {P:Program} (w:World)
end
section
variable {P:Program} {w w':World} {w0:Wd} {B N:Nat} {aj aD:bI} {ρ ρ':Nat->Loc} {σ:S} {a:Act} {X:Type} {d:Nat} {r:X}
end
def mI(l:aa (Int×Bool))(k:Int):Bool:=match l with
 |[]=>false
 |p::ps=>bif k==p.1 then p.2 else mI ps k
def nD(l:aa (Int×Bool))(k:Int)(v:Bool):aa (Int×Bool):=match l with
 |[]=>[(k,v)]
 |p::ps=>bif k==p.1 then (k,v)::ps else p::nD ps k v
def DS(P:Program)(t:TypeId):Bool:=match P.underlying t with
 | some (.map k e)=>(match P.underlying k with
  |some (.int .i64)=>true
  |_=>false)&&(match zeroOf P e with
  |some (.bool false)=>true
  |_=>false)
 |_=>false
def UB{X:Type}(N:Nat)(σ:S)(d:Nat)(k:S->ah X):ah X:=iw N σ d (.mp []) (.pk d qy) k
def Bp{X:Type}(P:Program)(σ:S)(t:TypeId)(x i:A)(k:A->ah X):ah X:=
 match x,i with
 | .pk r n,.lf (.v (.int .i64 key))=>bif Nat.beq n qy&&DS P t then (match σ.m r with
  |some (.mp l)=>k (.lf (.v (.bool (mI l key))))
  |_=>none)else none
 |_,_=>none
def Bq{X:Type}(P:Program)(σ:S)(t:TypeId)(x i v:A)(k:S->ah X):ah X:=
 match x,i,v with
 | .pk r n,.lf (.v (.int .i64 key)),.lf (.v (.bool b))=>bif Nat.beq n qy&&DS P t then (match σ.m r with
  |some (.mp l)=>k ⟨σ.t,bW σ.m r (some (.mp (nD l key b)))⟩
  |_=>none)else none
 |_,_,_=>none
section
variable {P:Program} {w w':World} {w0:Wd} {B N:Nat} {aj aD:bI} {ρ ρ':Nat->Loc} {σ:S} {a:Act} {X:Type} {d:Nat} {r:X} {o:Oper}
def aby{t:TypeId}(h:DS P t=true):∃ k e i,P.underlying t=some (.map k e)/\P.underlying k=some (.int .i64)/\P.info? e=some i/\i.zero=some (.bool false):=by
 unfold DS at h;split at h
 ·rename_i k e D;rw[aQ]at h;obtain⟨E,I⟩:=h;have L:P.underlying k=some (.int .i64):=by
   grind
  have C:zeroOf P e=some (.bool false):=by
   grind
  unfold zeroOf at C;cases hi:P.info? e with
  |none=>simp_all
  |some i =>grind
 ·cases h
def Rl.newObj{D:Obj}{x:aV}{ρ':Nat -> Loc}(h:Rl w0 N aj ρ σ a w)(E:w0.F d=none)(I:∀ r,r≠d -> ρ' r=ρ r)
  (L:ei (w.alloc D) w0.heap.size (bW aj w.heap.size (some [d])) ρ' d x):Rl w0 N (bW aj w.heap.size (some [d])) ρ' ((σ.drop d).root d x) a (w.alloc D):=by
 refine h.yO E (jq.aaq w0 w _ h.below.size) ⟨by simp,λb hb _=>Below.heap_alloc w _ b hb,λb hb=>cH _ _ _ (by omega),λb hb=>(h.cV b [] hb).2.2 rfl⟩ (λb k hb C=>?_) I L
 by_cases e:b=w.heap.size
 ·subst e;rw[bZ]at C;injection C with C;subst C;simp_all
 ·rw[cH _ _ _ e]at C;have:=(h.cV b k C).2.1;omega
def ao5{t:TypeId}{k:S -> ah X}(h:UB N σ d k=some r):∃ C,k C=some r /\ ∀ aj ρ a w,Rl w0 N aj ρ σ a w -> ∃ w' aD ρ' v,(Instr.makeMap t none).run P w = .ok v w'/\Rl w0 N aD ρ' C (a.put (some d) v) w':=by
 obtain⟨D,h⟩:=oJ h
 refine⟨_,h,λaj ρ a w hR=>?_⟩
 have E:(Instr.makeMap t none).run P w = .ok _ _:=rfl
 refine⟨_,bW aj _ _,bW ρ d _,_,E,(hR.newObj (hR.dm d (.inl D)) (λr I=>cH _ _ _ I) ?_).set ⟨w.heap.size,bZ _ _ _,(SO _).symm⟩ D⟩
 exact .mp _ 0 #[] [] (bZ _ _ _) (bZ _ _ _) (heap_alloc_new w _) rfl
def ao6:cI λX k=>UB (X:=X) N σ d k:=MY
def ao7{t:TypeId}{x i:A}:cI λX k=>Bp (X:=X) P σ t x i k:=λX Y k g=>by
 unfold Bp
 repeat' first|rfl|refine dc ?_ ?_|split
def ao8{t:TypeId}{x i v:A}:cI λX k=>Bq (X:=X) P σ t x i v k:=λX Y k g=>by
 unfold Bq
 repeat' first|rfl|refine dc ?_ ?_|split
def Br(l:aa (Int×Bool)):aa (Value×Value):=l.map λp=>(.int .i64 p.1,.bool p.2)
def UC:∀ (C:aa MapEntry) (l:aa (Int×Bool)) (k:Int) (n:Nat),C.map (λe=>(e.key,e.val))=Br l ->
  (Instr.findNow (.int .i64) (.int .i64 k) C n=some none/\mI l k=false /\ ∀v,nD l k v=l++[(k,v)]) \/
  (∃i b,Instr.findNow (.int .i64) (.int .i64 k) C n=some (some (n+i,.bool b))/\mI l k=b /\ ∃h:i<C.length,C[i].key = .int .i64 k /\ ∀v,Br (nD l k v)=(C.modify i λe=>{ e with key:=.int .i64 k,val:=.bool v }).map (λe=>(e.key,e.val)))
 |[],[],k,n,_=>.inl ⟨rfl,rfl,λv=>rfl⟩
 |[],_::_,k,n,h=>by cases h
 |_::_,[],k,n,h=>by cases h
 | e :: C,p :: l,k,n,h=>by
  have h:(e.key,e.val) :: C.map (λe=>(e.key,e.val))=(.int .i64 p.1,.bool p.2) :: Br l:=h;injection h with U L;injection U with O Y;have D:Instr.sameNow (.int .i64) (.int .i64 k) e.key=some (k==p.1):=by
   rw[O];simp[Instr.sameNow]
  cases hb:(k==p.1)with
  | true=>
   have Z:k=p.1:=by simpa using hb
   refine .inr ⟨0,p.2,?_,by simp only[mI,hb,aq],by simp,by simp[O,Z],λv=>?_⟩
   ·simp only[Instr.findNow,D,hb,Y];rfl
   ·simp only[nD,hb];simp;show _::Br l=_;rw[L]
  | false=>
   rcases UC C l k (n+1) L with ⟨T,E,I⟩|⟨i,b,T,E,hi,I,a4⟩
   ·refine .inl ⟨?_,by simp[mI,hb,au,E],λv=>by simp only[nD,hb,I];rfl⟩
    simp[Instr.findNow,D,hb];exact T
   ·refine .inr ⟨i+1,b,?_,by simp only[mI,hb,au,E],by simpa using hi,by simpa using I,λv=>?_⟩
    ·simp[Instr.findNow,D,hb]
     grind
    ·simp only[nD,hb];simp;show _ :: Br _=_
     grind
def Nb{kt:TypeId}{k:Int}{C:aa MapEntry}{z:ah (Nat×Value)}(D:P.underlying kt=some (.int .i64))(h:Instr.findNow (.int .i64) (.int .i64 k) C 0=some z):(Instr.findKey kt (.int .i64 k) C).run P w = .ok z w:=by
 unfold Instr.findKey;simp only[gk,gY D,mz,h];rfl
def ao9{t:TypeId}{x i:A}{k:A -> ah X}(h:Bp P σ t x i k=some r):∃ v,k v=some r/\mF (λX k=>Bp (X:=X) P σ t x i k) v /\ ∀ aj ρ a w,Rl w0 N aj ρ σ a w -> ∀ u z,RA w w0.heap.size aj ρ x u -> RA w w0.heap.size aj ρ i z ->
  ∃y,(Instr.lookup t u z false).run P w = .ok y w/\RA w w0.heap.size aj ρ v y:=by
 unfold Bp at h;split at h
 ·rename_i rr n key;cases hb:(Nat.beq n qy&&DS P t)with
  |false=>grind
  | true=>
   rw[hb,aq]at h;split at h
   ·rename_i l L
    refine⟨_,h,λX k=>by simp only[Bp,hb,aq,L],λaj ρ a w hR u z Y D=>?_⟩
    rw[aQ]at hb;obtain⟨kt,Z,ti,ht,E,hi,hz0⟩:=aby hb.2;have hn:=cB hb.1;subst hn;obtain⟨b,cO,rfl⟩:=Y;have D:z = .int .i64 key:=by
     have h2:=D.2;cases h2;rfl
    subst D;have O:=hR.root rr _ L;generalize C:aV.mp l=y at O;cases O with
    |aC=>cases C
    |sl=>cases C
    |gh=>cases C
    | mp b' c es l' T hl hh Nc=>
     injection C with C;subst C;rw[cO]at T;injection T with e1 _;subst e1;refine⟨.bool (mI l key),?_,rfl,.bool _ _⟩;rw[SO];unfold Instr.lookup;simp only[gk,gY ht,mz,MapKept.run_getObj_map hh,Sem.run_pure];rw[MapKept.run_checkKey (k:=.int .i64 key) E rfl];simp only[mz];rcases UC es.toList l key 0 Nc with ⟨I,U,_⟩|⟨i,v,I,U,_⟩
     ·rw[Nb E I];have Dm:(zeroValue Z).run P w = .ok (.bool false) w:=by simp[zeroValue,typeInfo,hi,hz0]
      simp_all
     ·rw[Nb E I];simp only[ U,gk];rfl
   ·cases h
 ·cases h
def apa{t:TypeId}{x i v:A}{k:S -> ah X}(h:Bq P σ t x i v k=some r):∃ O,k O=some r/\mF (λX k=>Bq (X:=X) P σ t x i v k) O /\ ∀ aj ρ a w,Rl w0 N aj ρ σ a w -> ∀ u z y,RA w w0.heap.size aj ρ x u -> RA w w0.heap.size aj ρ i z -> RA w w0.heap.size aj ρ v y ->
  ∃w',(Instr.mapUpdate t u z y).run P w = .ok () w'/\Rl w0 N aj ρ O a w':=by
 unfold Bq at h;split at h
 ·rename_i rr n key T;cases hb:(Nat.beq n qy&&DS P t)with
  |false=>grind
  | true=>
   rw[hb,aq]at h;split at h
   ·rename_i l hm
    refine⟨_,h,λX k=>by simp only[Bq,hb,aq,hm],λaj ρ a w hR u z y hu U C=>?_⟩
    rw[aQ]at hb;obtain⟨kt,et,ti,ht,Y,hi,hz0⟩:=aby hb.2;have hn:=cB hb.1;subst hn;obtain⟨b,cO,rfl⟩:=hu;have U:z = .int .i64 key:=by
     have Z:=U.2;cases Z;rfl
    subst U;have C:y = .bool T:=by
     have Z:=C.2;cases Z;rfl
    subst C;have fF:=hR.root rr _ hm;generalize D:aV.mp l=y at fF;cases fF with
    |aC=>cases D
    |sl=>cases D
    |gh=>cases D
    | mp b' c es l' jd hl L Nc=>
     injection D with D;subst D;rw[cO]at jd;injection jd with e1 _;subst e1;have Uq:b<w.heap.size:=(iO.1 L).1;have MS:∀ (E:Array MapEntry) (I:Nat),E.toList.map (λe=>(e.key,e.val))=Br (nD l key T) -> Rl w0 N aj ρ ⟨σ.t,bW σ.m rr (some (.mp (nD l key T)))⟩ a { w with heap:=w.heap.setIfInBounds b (.map E I) }:=by
      intro E I apb;have hW:uE w { w with heap:=w.heap.setIfInBounds b (.map E I) } b:=by
       refine⟨by simp,rfl,rfl,rfl,λk hk=>?_⟩
       show _[k]?=_;rw[Array.getElem?_setIfInBounds_ne (Ne.symm hk)]
      have hC:qA w { w with heap:=w.heap.setIfInBounds b (.map E I) } aj ρ:=by
       intro k ad v ha hv gx;obtain⟨j',i',s',q,rfl,hq,_,_,hh'⟩:=AT k ad ha;have cL:ad.block≠b:=by
        grind
       exact(World.cell?_of_block (hW.block _ cL)).trans hv
      refine hR.wrote hW hl hC λr' y C=>?_
      by_cases qE:r'=rr
      ·subst qE;rw[bZ]at C;injection C with C;subst C;refine .mp b I E _ cO hl ?_ apb;simp_all
      ·rw[cH _ _ _ qE]at C;exact(hR.root r' y C).wrote hW hl hC (aab qE)
     rw[SO];unfold Instr.mapUpdate;simp only[gk,gY ht,mz,MapKept.run_getObj_map L,Sem.run_pure];rw[MapKept.run_checkKey (k:=.int .i64 key) Y rfl];simp only[mz];rcases UC es.toList l key 0 Nc with ⟨a1,a2,a3⟩|⟨i,v,a1,a2,G1,a3,a4⟩
     ·rw[Nb Y a1];simp;rw[MapKept.run_setObj_map _ L];refine⟨_,rfl,MS _ _ ?_⟩;rw[a3];simp only[Array.toList_push,List.map_append,Nc,Br];rfl
     ·rw[Nb Y a1];simp only[mz,fh];have Uh:(es[i]?.map (·.key)).getD (.int .i64 key) = .int .i64 key:=by
       grind
      rw[Uh];have ko:(Instr.keyThatStays (.int .i64 key) (.int .i64 key)).run P w = .ok (.int .i64 key) w:=by
       unfold Instr.keyThatStays;simp[Instr.sameBits]
      simp only[gk];rw[ko];simp only[mz];rw[MapKept.run_setObj_map _ L];refine⟨_,rfl,MS _ _ ?_⟩;rw[a4];simp
   ·cases h
 ·cases h
end
def Nd(t:TypeId)(d:Nat)(x:Operand):Bool:=[(55,26,22)].any λ(p:Nat×Nat×Nat)=>Nat.beq p.1 t&&Nat.beq p.2.1 d&&(match x with
 |.tmp n=>Nat.beq n p.2.2 ||Nat.beq p.2.2 1000000
 |_=>false)
def Bt(C:ah Tmp)(t:TypeId)(x:Operand):Bool:=match C with
 |some d=>Nd t d x
 |none=>false
def Hf{X:Type}(P:Program)(N:Nat)(σ:S)(d:Nat)(t:TypeId)(x y:A)(k:S->ah X):ah X:=
 match uJ P t with
 | some (e,C)=>bif Nat.beq (full C) 0&&(zeroOf P e).any (λz=>Nat.beq z.cells.size (aG C))then rQ σ y λD=>(match D.Mt C with
  |none=>none
  | some l2=>match x with
   | .lf (.own [r])=>(match σ.m r with
    |some (.sl (.sl E (o+2) true l))=>if h:E=C then (bif !jP l2&&bF (l.length+l2.length)then iw N σ d (.sl (.sl C (o+2) false ((h ▸ l)++l2))) (.lf (.own [d])) k else none)else none
    |_=>none)
   |_=>none)else none
 |none=>none
section
variable {P:Program} {w w':World} {w0:Wd} {B N:Nat} {aj aD:bI} {ρ ρ':Nat->Loc} {σ:S} {a:Act} {X:Type} {d:Nat} {r:X}
def Rl.apc{t e ty:TypeId}{C:TC}{i:TypeInfo}{z:Value}{rr o g:Nat}{qn:Bool}{l l2:aa (T C)}{u v:Value}{q':aa Nat}{Bx:Nat}{Ta:bI}(h:Rl w0 N aj ρ σ a w)(hF:w0.F d=none)(gy:P.underlying t=some (.slice e))(ht:tid C=e)(hi:P.info? e=some i)(hz:i.zero=some z)
  (Y:i.size=aG C) (jZ:i.bytes <= 65536) (m6:z.cells.size=aG C) (hf:full C=0) (hd:RV w w0.heap.size aj [rr] (.sl C (o+2) true l) u) (hs:RV w Bx Ta q' (.sl C g qn l2) v) (cL:l2≠[]) (hlen:l.length+l2.length<1073741824):
  ∃E w' aD,(Builtin.append_ #[t,t] ty #[u,v]).run P w = .ok E w'/\Rl w0 N aD (bW ρ d (.dH E)) ((σ.drop d).root d (.sl (.sl C (o+2) false (l++l2)))) a w'/\mD E=true:=by
 subst ht;obtain⟨xs,I,aFT,Gm,iT⟩:=hd.aat hf (B':=0) (λb _=>Nat.zero_le b);obtain⟨A,c,news,rfl,Z,oM,Gn⟩:=hs.reads hf;have gT:(l.length+l2.length)*i.bytes <= 140737488355328:=by
  have h1:(l.length+l2.length)*i.bytes <= 1073741824*65536:=Nat.mul_le_mul (by omega) jZ;omega
 have sW:0<l2.length:=List.length_pos_iff.2 cL;obtain⟨E,w',eO,abz,hgr,lD⟩:=Sz (P:=P) w 0 t ty (tid C) i z (aG C) i.bytes gy hi hz Y rfl m6 (oB C) u l.length xs I _ A l2.length c news Z oM (by unfold maxLen;omega) gT (Nat.zero_le _);have Gq:(l++l2).length=l.length+l2.length:=ox;have hex:∃ b,u = .slice (some ⟨b,0,none⟩) l.length l.length:=by
  cases hd with
  |aI _ _ _ _ _ _ _ _ _ ho=>omega
  |fV _ _ _ _ _ ho=>omega
  |own _ _ _ _ _ b cap cs us hl hh hs hn hm hc hr=>exact⟨b,by rw[hm.2 rfl]⟩
 obtain⟨b,rfl⟩:=hex;obtain⟨L,O,rfl,_,jB⟩:=Z.2 sW;have apd:∀ j x,news[j]?=some x -> w.cell? ((⟨L,O,none⟩:Addr).add j)=some x:=by
  intro j x hx;have Mb:(⟨L,O,none⟩:Addr).add j=⟨L,O+j,none⟩:=by unfold Addr.add;split<;>simp_all
  grind
 have abA:=run_append_grow (P:=P) w t ty (tid C) i z gy hi hz ⟨b,0,none⟩ l.length l.length xs (by rw[Y];exact I.1) (I.cells (g:=b) rfl) ⟨L,O,none⟩ l2.length c news (by rw[Y];exact Z.1) apd (by omega) (by omega) (growslice_fits (by omega) gT);rw[eO]at abA;injection abA with e1 e2;have hold:∀ k,k<w.heap.size -> w'.heap[k]?=w.heap[k]?:=by
  intro k D;rw[e2];exact heap_alloc_old _ _ D
 have hvb:E.ownBlock=some w.heap.size:=by rw[e1];rfl
 have dW:w.heap.size<w'.heap.size:=by rw[e2];simp
 rw[<- Gq]at abz;have A8:=iT.append Gn I.1;have gx:mD E=true:=by rw[e1];rfl
 have U:Below 0 w w':=(Below.refl 0 w).grown hgr (Nat.zero_le _) (λ_ _=>Nat.zero_le _);have rU:jq w0 w w':=⟨U.os,U.tape,U.output,U.size,λk D hL=>hold k (Nat.lt_of_lt_of_le D h.below.size)⟩
 refine⟨E,w',bW aj w.heap.size (some [d]),eO,h.yO hF rU ⟨hgr.size,λb hb _=>hold b hb,λb hb=>cH _ _ _ (by omega),λb hb=>(h.cV b [] hb).2.2 rfl⟩ (λb k hb D=>?_) (λr hr=>cH _ _ _ hr) (.sl E _ (bZ _ _ _) (S9 abz A8 (λb hb=>?_))),gx⟩
 ·by_cases e:b=w.heap.size
  ·subst e;rw[bZ]at D;injection D with D
   grind
  ·rw[cH _ _ _ e]at D;have:=(h.cV b k D).2.1;omega
 ·rw[hvb]at hb;injection hb with hb;subst hb;exact bZ _ _ _
def ape{t ty:TypeId}{x y:A}{k:S -> ah X}(h:Hf P N σ d t x y k=some r):∃ T,k T=some r /\ ∀ aj ρ a w,Rl w0 N aj ρ σ a w -> ∀ u v,RA w w0.heap.size aj ρ x u -> RA w w0.heap.size aj ρ y v ->
  ∃w' aD ρ' z,(Builtin.append_ #[t,t] ty #[u,v]).run P w = .ok z w'/\Rl w0 N aD ρ' T (a.put (some d) z) w':=by
 unfold Hf at h;split at h
 ·rename_i e U oK;obtain⟨gy,ht,i,hi,iN,jZ⟩:=yQ oK;cases E:(Nat.beq (full U) 0&&(zeroOf P e).any (λz=>Nat.beq z.cells.size (aG U)))with
  |false=>grind
  | true=>
   rw[E,aq]at h;rw[aQ]at E;have hf:=cB E.1;obtain⟨z,Y,L⟩:=(Option.any_eq_true _ _).1 E.2;have L:=cB L;have oL:i.zero=some z:=by unfold zeroOf at Y;simpa [hi]using Y
   obtain⟨yv,Mx,C⟩:=aau (w0:=w0) (N:=N) h;clear h;split at C
   ·cases C
   ·rename_i l2 kM;split at C
    ·rename_i rr;split at C
     ·rename_i t' o l hm;split at C
      ·rename_i nj;subst nj;cases I:(!jP l2&&bF (l.length+l2.length))with
       |false=>grind
       | true=>
        rw[I,aq]at C;rw[aQ]at I;have cL:l2≠[]:=by rintro rfl;cases I.1
        have Gr:l.length+l2.length<1073741824:=by simpa [bF]using I.2
        obtain⟨Z,h3⟩:=oJ C
        refine⟨_,h3,λaj ρ a w hR u v hu hv=>?_⟩
        obtain⟨q',_,_,O⟩:=Mx aj ρ a w hR v hv;obtain⟨g,qn,O⟩:=Tc kM O;have fF:=hR.root rr _ hm;generalize D:aV.sl (.sl t' (o+2) true l)=x at fF;cases fF with
        |aC=>cases D
        |mp=>cases D
        |gh=>cases D
        | sl uu y cO hr=>
         injection D with D;subst D;have Gk:uu=u:=by
          have h4:=hu.2;simp only[cU,cO]at h4;simp_all
         subst Gk;obtain⟨v',w',aD,eO,dX,gx⟩:=hR.apc (ty:=ty) (d:=d) (hR.dm d (.inl Z)) gy ht hi oL iN jZ L hf hr O cL Gr;exact⟨w',aD,_,v',eO,dX.set ⟨gx,by simp[cU,bZ]⟩ Z⟩
      ·cases C
     ·cases C
    ·cases C
 ·cases h
def apf{t:TypeId}{x y:A}:cI λX k=>Hf (X:=X) P N σ d t x y k:=λX Y k g=>by
 unfold Hf;split
 ·refine dc ((Ui _ _ _ _).trans (bx _ (funext λC=>?_))) rfl
  repeat' first|rfl|exact MY _ _ _ _|refine dc ?_ ?_|split
 ·rfl
def Hg{X:Type}(P:Program)(N:Nat)(σ:S)(d:Nat)(t:TypeId)(x y:A)(k:S->ah X):ah X:=
 match x with
 |.view q s i j=>Gs P N σ d t (.view q s i j) y k
 |x=>Hf P N σ d t x y k
def apg{t ty:TypeId}{x y:A}{k:S->ah X}(h:Hg P N σ d t x y k=some r):∃ C,k C=some r/\∀ aj ρ a w,Rl w0 N aj ρ σ a w->∀ u v,RA w w0.heap.size aj ρ x u->RA w w0.heap.size aj ρ y v->
  ∃w' aD ρ' z,(Builtin.append_ #[t,t] ty #[u,v]).run P w = .ok z w'/\Rl w0 N aD ρ' C (a.put (some d) z) w':=by
 unfold Hg at h;split at h
 ·exact anc h
 ·exact ape h
def aph{t:TypeId}{x y:A}:cI λX k=>Hg (X:=X) P N σ d t x y k:=λX Y k g=>by
 unfold Hg;split
 ·exact ane _ _ _ _
 ·exact apf _ _ _ _
end
abbrev ez:=Nat->ah pQ
def fL(P:Program)(Φ:ez):Prop:=∀f c,Φ f=some c->enters P f/\Uu P f c
def gP{X:Type}(o:Oper)(k:Nat->ah X):ah X:=
 match o.dst with
 |some d=>k d
 |none=>none
def fM:Op->Bool
 |.move _|.assign _|.pick .. |.build .. |.load .. |.binOp .. |.unOp .. |.convert .. |.fieldAddr .. |.field .. |.indexAddr .. |.index .. |.extract .. |.nilCheck _=>true
 |.call ⟨.builtin .len,_,_⟩|.call ⟨.builtin .max,_,_⟩|.call ⟨.builtin .min,_,_⟩=>true
 |.slice _ _ _ _ none=>true
 |_=>false
def mJ{X:Type}(P:Program)(σ:S)(C:Op)(k:A->ah X):ah X:=
 match C with
 |.move x=>k (aK σ x)
 |.assign x=>k (aK σ x)
 | .pick c x y=>(match aK σ c with
  |.lf (.v (.bool b))=>bif b then k (aK σ x)else k (aK σ y)
  |_=>none)
 |.build t parts=>Dq P σ t parts.toList k
 |.load t x=>nP P σ t (aK σ x) k
 |.binOp C t x y _=>yX P σ C t (aK σ x) (aK σ y) k
 |.unOp C _ x=>vK (aK σ x) λa=>Gd C a λz=>k (.lf (.v z))
 |.convert s d x=>yU P σ s d (aK σ x) k
 |.fieldAddr s x f=>Dj P s (aK σ x) f k
 |.field s x f=>Gy P s (aK σ x) f k
 |.indexAddr t x i=>yL P σ t (aK σ x) (aK σ i) k
 |.index t x i=>Gz P t (aK σ x) (aK σ i) k
 |.extract x i=>A4 (aK σ x) i k
 |.nilCheck x=>M1 (aK σ x) k
 |.call ⟨.builtin .len,⟨[x]⟩,⟨[t]⟩⟩=>A3 P σ t (aK σ x) k
 |.call ⟨.builtin .max,⟨[x,y]⟩,⟨[_,_]⟩⟩=>Ds true (aK σ x) (aK σ y) k
 |.call ⟨.builtin .min,⟨[x,y]⟩,⟨[_,_]⟩⟩=>Ds false (aK σ x) (aK σ y) k
 |.slice t x lo hi none=>yZ P σ t (aK σ x) (lo.map (aK σ)) (hi.map (aK σ)) k
 |_=>none
def iH{X:Type}(P:Program)(N:Nat)(Φ:ez)(σ:S)(o:Oper)(k:S->ah X):ah X:=
 match o.op with
 |.alloc e=>gP o λd=>qD P N σ d e k
 |.box e x=>gP o λd=>zo N σ d (aK σ x) k
 |.buildSlice t len parts=>gP o λd=>bif pO t then wT P N σ d t len parts.toList k else yT P N σ d t len parts.toList k
 | .store t x y=>(match o.dst with
  |none=>bif wU (aK σ x) (aK σ y)then tv P σ t (aK σ x) (aK σ y) k else pH P σ t (aK σ x) (aK σ y) k
  |some _=>none)
 |.makeSlice t l c=>gP o λd=>yP P N σ d t (aK σ l) (aK σ c) k
 | .call ⟨.value (.func f),args,_⟩=>(match Φ f with
  |some (.p c)=>gP o λd=>anC N σ d c args.toList k
  |some (.m c)=>nX N σ o.dst c args.toList k
  |some (.v c)=>gP o λd=>G5 N σ d c args.toList k
  | some (.n F)=>gP o λd=>(match args.toList with
   |[x]=>G4 N σ d F (aK σ x) k
   |_=>none)
  |some (.i c)=>G6 N σ o.dst c (args.toList.map (aK σ)++[]) k
  |some (.d c)=>G0 N σ o.dst c args.toList k
  |some (.q c)=>gP o λd=>anB N σ d c args.toList k
  |some (.c c)=>G9 N σ o.dst c args.toList k
  |none=>none)
 |.call ⟨.builtin .append,⟨[x,y]⟩,⟨[t,C]⟩⟩=>bif Nat.beq t C then gP o λd=>bif pO t then G3 P N σ d t (aK σ x) (aK σ y) k else bif Nd t d x then Hg P N σ d t (aK σ x) (aK σ y) k else sV P N σ d t (aK σ x) (aK σ y) k else none
 |.makeMap _ none=>gP o λd=>UB N σ d k
 |.lookup t x i false=>Bp P σ t (aK σ x) (aK σ i) λv=>ir N σ o.dst v k
 | .mapUpdate t x i v=>(match o.dst with
  |none=>Bq P σ t (aK σ x) (aK σ i) (aK σ v) k
  |some _=>none)
 | .call ⟨.value (.tmp t),args,_⟩=>(match M8 (aK σ (.tmp t))with
  | some (f,ex)=>(match Φ f with
   |some (.i c)=>G6 N σ o.dst c (args.toList.map (aK σ)++ex) k
   |_=>none)
  |none=>none)
 | .makeFunc (.func f) ⟨[]⟩ D=>(match G7 σ D.toList with
  |some ps=>ir N σ o.dst (.fn f ps) k
  |none=>none)
 |.call ⟨.builtin .clear,⟨[x]⟩,⟨[t]⟩⟩=>Gt P σ t (aK σ x) λE=>ir N E o.dst .undef k
 |_=>none
def dB{X:Type}(P:Program)(N:Nat)(Φ:ez)(σ:S)(o:Oper)(k:S->ah X):ah X:=
 bif fM o.op then mJ P σ o.op λv=>ir N σ o.dst v k else iH P N Φ σ o k
def Hh{X:Type}(P:Program)(N:Nat)(Φ:ez)(σ:S)(o:Oper)(k:S->ah X):ah X:=
 match o.op,o.dst with
 | .store t x y,none=>(match aK σ y with
  |.view [q] s i j=>He P σ q s i j t (aK σ x) k
  |_=>dB P N Φ σ o k)
 |.slice t x (some lo) (some hi) (some C),some d=>DR P σ t (aK σ x) (aK σ lo) (aK σ hi) (aK σ C) (bif Nat.blt d N then k (σ.set d .undef)else none)
 |_,_=>dB P N Φ σ o k
def fX(σ:S)(ops:Array Oper)(o:Oper):ah Bool:=
 match o.guard with
 |none=>some true
 | some (j,want)=>match (ops[j]?).bind (·.dst)with
  | some t=>(match σ.t t with
   |.lf (.v (.bool b))=>some (b==want)
   |.skip=>some false
   |_=>none)
  |none=>none
def Hi(ops:Array Oper)(j:Nat):Bool:=ops.toList.any λo=>match o.guard with
 |some (i,_)=>Nat.beq i j
 |none=>false
def r5{X:Type}(σ:S)(C:ah Tmp)(g:Bool)(k:S->ah X):ah X:=
 bif g then (match C with
  | some d=>(match σ.t d with
   |.lf (.v (.bool b))=>bif b then k (σ.set d (.lf (.v (.bool true))))else k (σ.set d (.lf (.v (.bool false))))
   |_=>k σ)
  |none=>k σ)else k σ
def Bu{X:Type}(P:Program)(N:Nat)(Φ:ez)(ops:Array Oper):Nat->aa Oper->S->(S->ah X)->ah X
 |_,[],σ,k=>k σ
 | j,o :: rest,σ,k=>match fX σ ops o with
  |some true=>Hh P N Φ σ o λC=>r5 C o.dst (Hi ops j) λD=>Bu P N Φ ops (j+1) rest D k
  |some false=>ir N σ o.dst .skip λC=>Bu P N Φ ops (j+1) rest C k
  |none=>none
/-! Regions whose order is open: what is listed is a set of bits. -/
def dw{X:Type}(P:Program)(N:Nat)(Φ:ez)(ops:Array Oper)(σ:S)(o:Oper)(k:S->ah X):ah X:=
 match fX σ ops o with
 |some true=>dB P N Φ σ o k
 |some false=>ir N σ o.dst .skip k
 |none=>none
def mb(ops:Array Oper)(L j:Nat):Bool:=!L.testBit j&&(match ops[j]? with
 |some o=>o.after.toList.all λe=>!Region.binds .any e ||L.testBit e.on
 |none=>false)
def Hj(ops:Array Oper)(i W j:Nat):Bool:=(match ops[j]? with
 |some o=>o.after.toList.any λe=>Region.binds .any e&&(Nat.beq e.on i ||W.testBit e.on)
 |none=>false)
def waits(ops:Array Oper)(i:Nat):Nat->Nat->Nat->Nat
 |0,_,W=>W
 |n+1,j,W=>waits ops i n (j+1) (bif Hj ops i W j then W |||2 ^ j else W)
def eS(o:Oper)(n:Nat):Bool:=match o.dst with
 | some d=>(match o.op with
  |.alloc _|.box .. |.buildSlice .. |.makeSlice ..=>Nat.beq n d
  |.call ⟨.value (.func _),_,_⟩=>Nat.ble (1000000000100000+1000*d) n
  |.call ⟨.builtin .append,_,_⟩=>Nat.beq n d
  |_=>false)
 |none=>false
def Nf(Φ:ez)(C:Op):Bool:=fM C || (match C with
 |.alloc _|.box .. |.buildSlice .. |.makeSlice ..=>true
 | .call ⟨.value (.func f),_,_⟩=>(match Φ f with
  |some (.p _)=>true
  |some (.q _)=>true
  |_=>false)
 |_=>false)
def iy(g:Oper->Bool)(ops:Array Oper)(i L W:Nat):Nat->Nat->Bool
 |0,_=>false
 | f+1,j=>(!(Nat.beq j i || L.testBit j || W.testBit j)&&(match ops[j]? with
  |some C=>g C
  |none=>false)) ||iy g ops i L W f (j+1)
def Hl(g:Oper->Bool)(ops:Array Oper)(C:Oper)(i L W:Nat):Nat->Nat->Bool
 |0,_=>true
 | n+1,j=>(Nat.beq j i || L.testBit j || (bif W.testBit j then Hj ops i W j else (match ops[j]? with
  |some D=>g D&&C.apart ops D
  |none=>true)))&&Hl g ops C i L W n (j+1)
def Ng(c:nA):Bool:=c.ps.all λp=>match p with
 |.v _ _=>true
 |.p _ g _=>Nat.beq g 0
 |.s _ _=>false
def r6(ok:Nat->Nat->Bool)(σ:S):aa PK->aa Operand->Bool
 | .p _ _ _ :: ps,.tmp t :: xs=>(match σ.t t with
  |.aO r _=>ok t r
  |_=>false)&&r6 ok σ ps xs
 |.v _ _::ps,_::xs=>r6 ok σ ps xs
 |[],[]=>true
 |_,_=>false
def iW(σ:S):aa PK->aa Operand->aa Nat
 | .p _ _ _ :: ps,x :: xs=>(match aK σ x with
  |.aO r _=>r::iW σ ps xs
  |_=>iW σ ps xs)
 |_::ps,_::xs=>iW σ ps xs
 |_,_=>[]
def oT(Φ:ez)(σ:S)(o:Oper):aa Nat:=match o.op with
 | .call ⟨.value (.func f),args,_⟩=>(match Φ f with
  |some (.m c)=>iW σ c.ps args.toList
  |_=>[])
 |_=>[]
def kz(t:Nat)(o:Oper):Bool:=match o.dst with
 |some d=>Nat.beq d t
 |none=>false
def uX(o:Oper):Bool:=(match o.op with
 |.alloc _=>true
 |_=>false)&&o.guard.isNone&&(match o.dst with
 |some d=>Nat.blt d 20000
 |none=>false)
def nZ(o:Oper):Bool:=(match o.op with
 |.alloc _=>true
 |.buildSlice t _ _=>!pO t
 |.makeSlice ..=>true
 |_=>false)&&(match o.dst with
 |some d=>Nat.blt d 20000
 |none=>false)
def isApp(o:Oper):Bool:=match o.op with
 |.call ⟨.builtin .append,⟨[x,_]⟩,⟨[t,C]⟩⟩=>!pO t&&Nat.beq t C && !Bt o.dst t x
 |_=>false
def UD(Φ:ez)(ops:Array Oper)(i L W:Nat)(σ:S)(o:Oper):Bool:=match o.op with
 | .call ⟨.value (.func f),args,_⟩=>(match Φ f with
  |some (.m c)=>Ng c&&r6 (λt r=>!iy (kz t) ops i L W ops.size 0 && !iy (λok=>eS ok r) ops i L W ops.size 0 && !iy isApp ops i L W ops.size 0) σ c.ps args.toList
  |_=>false)
 |_=>false
def A.n5(p pb:Nat->Bool):A->Bool:=A.fr (tu p pb)
def zq(σ:S)(o:Oper):aa Nat:=match o.op with
 | .store _ (.tmp t) _=>(match σ.t t with
  |.aO r _=>[r]
  |_=>[])
 | .call ⟨.builtin .append,⟨[.tmp t,_]⟩,⟨[_,_]⟩⟩=>(match σ.t t with
  |.lf (.own [r])=>[r]
  |_=>[])
 |_=>[]
def Nh(σ:S)(o:Oper):aa Nat:=match o.op with
 | .call ⟨.builtin .append,⟨[.tmp t,_]⟩,⟨[_,_]⟩⟩=>(match σ.t t with
  |.lf (.own [r])=>[r]
  |_=>[])
 |_=>[]
def api(t:Nat)(o:Oper):Bool:=match o.op with
 |.store _ (.tmp C) _=>Nat.beq C t
 |_=>false
def faR(ops:Array Oper)(i L W:Nat)(σ:S)(o:Oper):aa Nat:=match o.op,o.dst with
 | .fieldAddr _ (.tmp x) _,some t=>bif iy (api t) ops i L W ops.size 0 then (match σ.t x with
  |.aO r _=>[r]
  |_=>[])else []
 |_,_=>[]
def zu(Φ:ez)(ops:Array Oper)(i L W:Nat)(σ:S)(n:Nat):Bool:=
 iy (λo=>eS o n) ops i L W ops.size 0 ||iy (λo=>cW n (oT Φ σ o) ||cW n (zq σ o)) ops i L W ops.size 0
def zx(Φ:ez)(ops:Array Oper)(i L W:Nat)(σ:S)(n:Nat):Bool:=
 zu Φ ops i L W σ n ||iy (λo=>cW n (faR ops i L W σ o)) ops i L W ops.size 0
def Bv(σ:S)(ops:Array Oper)(i L W n:Nat):Bool:=iy (λo=>eS o n) ops i L W ops.size 0 ||iy (λo=>cW n (Nh σ o)) ops i L W ops.size 0
def zy(Φ:ez)(o:Oper):Bool:=match o.op with
 | .call ⟨.value (.func f),_,_⟩=>(match Φ f with
  |some (.p _)=>true
  |_=>false)
 |_=>false
def mK(Φ:ez)(ops:Array Oper)(i L W t:Nat):Bool:=!iy (λok=>kz t ok && !(nZ ok ||isApp ok ||zy Φ ok)) ops i L W ops.size 0
def UE(Φ:ez)(ops:Array Oper)(i L W:Nat)(o:Oper):Bool:=match o.op with
 |.call ⟨.builtin .append,⟨[.tmp t,_]⟩,⟨[ty,C]⟩⟩=>mK Φ ops i L W t&&(!pO ty&&Nat.beq ty C && !Bt o.dst ty (.tmp t))
 |_=>false
def mL(Φ:ez)(ops:Array Oper)(i L W:Nat)(σ:S)(x:Nat):Bool:=!iy (kz x) ops i L W ops.size 0&&(match σ.t x with
 |.aO r _=>zx Φ ops i L W σ r
 |.jo _=>true
 |_=>false)
def Ni(Φ:ez)(ops:Array Oper)(i L W:Nat)(σ:S)(o:Oper):Bool:=match o.op with
 |.fieldAddr _ (.tmp x) _=>mL Φ ops i L W σ x
 |_=>false
def Nj(Φ:ez)(ops:Array Oper)(i L W:Nat)(σ:S)(t:Nat):Bool:=!iy (λok=>kz t ok && !(uX ok ||Ni Φ ops i L W σ ok)) ops i L W ops.size 0
def Ga(Φ:ez)(ops:Array Oper)(i L W:Nat)(σ:S)(o:Oper):Bool:=match o.op with
 | .store _ (.tmp t) _=>o.dst.isNone&&Nj Φ ops i L W σ t&&(match σ.t t with
  |.ptr _=>false
  |_=>true)
 |_=>false
def UF(σ:S)(p:Nat->Bool)(o:Oper):Bool:=o.op.operands.toList.all λx=>(aK σ x).nr p
def UG(σ:S)(p pb:Nat->Bool)(o:Oper):Bool:=(o.op.operands.toList.all λx=>(aK σ x).n5 p pb)&&(match o.op with
 | .load _ x=>(match aK σ x with
  |.aO r _=>!p r
  |_=>true)
 |_=>true)
def abC(Φ:ez)(ops:Array Oper)(L:Nat)(σ:S)(i:Nat):Bool:=match ops[i]? with
 | some C=>(fM C.op || (match fX σ ops C with
  |some b=>!b
  |none=>false))&&Nat.beq ((L |||2 ^ i) &&& waits ops i ops.size 0 0) 0&&Hl (λD=>Nf Φ D.op ||UD Φ ops i L (waits ops i ops.size 0 0) σ D ||Ga Φ ops i L (waits ops i ops.size 0 0) σ D ||UE Φ ops i L (waits ops i ops.size 0 0) D) ops C i L (waits ops i ops.size 0 0) ops.size 0&&UG σ (zx Φ ops i L (waits ops i ops.size 0 0) σ) (Bv σ ops i L (waits ops i ops.size 0 0)) C
 |none=>false
def Ho{X:Type}(P:Program)(N:Nat)(Φ:ez)(ops:Array Oper)(L i:Nat)(σ:S)(o:Oper)(k:S->ah X):ah X:=
 match fX σ ops o with
 |some true=>mJ P σ o.op λv=>bif v.n5 (zx Φ ops i L (waits ops i ops.size 0 0) σ) (Bv σ ops i L (waits ops i ops.size 0 0))then ir N σ o.dst v k else none
 |some false=>ir N σ o.dst .skip k
 |none=>none
/-! A call may be taken first where all that is free beside it are new blocks. -/
def A.fM:A->Bool
 |.lf (.v _)=>true
 | .agg cs=>cs.all λl=>match l with
  |.v _=>true
  |_=>false
 |_=>false
def UH(ops:Array Oper)(i L W:Nat)(σ:S)(o:Oper):Bool:=nZ o&&(match fX σ ops o with
 |some b=>b
 | none=>false)&&(o.op.operands.toList.all λx=>(aK σ x).fM&&(match x with
  |.tmp t=>!iy (kz t) ops i L W ops.size 0
  |_=>true))&&(match o.guard with
 | some (g,_)=>(match (ops[g]?).bind (·.dst)with
  |some t=>!iy (kz t) ops i L W ops.size 0
  |none=>true)
 |none=>true)
def nE(Φ:ez)(o:Oper):Bool:=match o.op with
 | .call ⟨.value (.func f),_,_⟩=>(match Φ f with
  |some (.p _)=>true
  |some (.m _)=>true
  |_=>false)
 |_=>false
def Hp(o:Oper):Bool:=(match o.op with
 |.store _ (.tmp _) _=>true
 |_=>false)&&o.dst.isNone
def wV(σ:S)(o:Oper):Bool:=match o.op with
 | .store _ (.tmp t) _=>(match σ.t t with
  |.aO _ _=>true
  |_=>false)
 |_=>true
def Hq(Φ:ez)(o:Oper):Bool:=nE Φ o ||nZ o ||isApp o ||Hp o
def wW(σ:S)(p:Nat->Bool)(r:Nat):Bool:=match σ.m r with
 |some (.aC cs)=>cs.all (Lf.nr p)
 |_=>true
def DT(o:Oper)(n:Nat):Bool:=kz n o
def abD(Φ:ez)(ops:Array Oper)(L:Nat)(σ:S)(i:Nat):Bool:=match ops[i]? with
 | some C=>Hq Φ C&&Nat.beq ((L ||| 2 ^ i) &&& waits ops i ops.size 0 0) 0&&Hl (UH ops i L (waits ops i ops.size 0 0) σ) ops C i L (waits ops i ops.size 0 0) ops.size 0 &&
   UF σ (λn=>iy (λo=>DT o n) ops i L (waits ops i ops.size 0 0) ops.size 0) C&&(oT Φ σ C).all (wW σ (λn=>iy (λo=>DT o n) ops i L (waits ops i ops.size 0 0) ops.size 0))&&wV σ C
 |none=>false
def qP(x:A)(n:Nat):ah V:=match x with
 | .eX xs=>(match xs[n]? with
  |some (false,[.v z])=>some z
  |_=>none)
 |_=>none
def UI(ops:Array Oper)(L:Nat)(σ:S)(i:Nat):Bool:=match ops[i]?,(List.range ops.size).filter (λj=>!(Nat.beq j i || L.testBit j))with
 | some C,[E]=>(match C.op,C.dst,C.guard,ops[E]? with
  | .extract (.tmp x) n,some _,none,some D=>(match D.op,D.dst,D.guard with
   |.store _ a b,none,none=>(qP (σ.t x) n).isSome&&wU (aK σ a) (aK σ b)&&C.apart ops D
   |_,_,_=>false)
  |_,_,_,_=>false)
 |_,_=>false
def qQ{X:Type}(P:Program)(N:Nat)(Φ:ez)(ops:Array Oper):Nat->Nat->S->(S->ah X)->ah X
 | 0,L,σ,k=>(match (List.range ops.size).filter (mb ops L)with
  |[]=>k σ
  |_=>none)
 | f+1,L,σ,k=>(match (List.range ops.size).filter (mb ops L)with
  |[]=>k σ
  | [i]=>(match ops[i]? with
   |some o=>dw P N Φ ops σ o λC=>r5 C o.dst (Hi ops i) λD=>qQ P N Φ ops f (L |||2 ^ i) D k
   |none=>none)
  | rs=>(match rs.find? (abC Φ ops L σ)with
   | some i=>(match ops[i]? with
    |some o=>Ho P N Φ ops L i σ o λC=>r5 C o.dst (Hi ops i) λD=>qQ P N Φ ops f (L |||2 ^ i) D k
    |none=>none)
   | none=>(match rs.find? (abD Φ ops L σ)with
    | some i=>(match ops[i]? with
     |some o=>dw P N Φ ops σ o λC=>r5 C o.dst (Hi ops i) λD=>qQ P N Φ ops f (L |||2 ^ i) D k
     |none=>none)
    | none=>(match rs.find? (UI ops L σ)with
     | some i=>(match ops[i]? with
      |some o=>dw P N Φ ops σ o λC=>r5 C o.dst (Hi ops i) λD=>qQ P N Φ ops f (L |||2 ^ i) D k
      |none=>none)
     |none=>none))))
/-! A new slice of constants may come first,beside values and calls of contents. -/
structure r7 where
 run:(X:Type)->S->(Exit->S->Option X)->Option X
abbrev mM:=Nat->ah r7
def lI{X:Type}(P:Program)(N:Nat)(Φ:ez)(Λ:mM):Code->S->(Exit->S->ah X)->ah X
 |.skip,σ,k=>k .normal σ
 |.label _,σ,k=>k .normal σ
 |.ret,σ,k=>k .ret σ
 |.exit id,σ,k=>k (.exit id) σ
 |.region _ ops false,σ,k=>Bu P N Φ ops 0 ops.toList σ λC=>k .normal C
 |.region _ ops true,σ,k=>bif P.follows .mixedOrders then qQ P N Φ ops ops.size 0 σ λC=>k .normal C else none
 | .seq x y,σ,k=>lI P N Φ Λ x σ λe C=>match e with
  |.normal=>lI P N Φ Λ y C k
  |e=>k e C
 | .cond c x y,σ,k=>match aK σ c with
  |.lf (.v (.bool b))=>bif b then lI P N Φ Λ x σ k else lI P N Φ Λ y σ k
  |_=>none
 | .block id c,σ,k=>match Λ id with
  |some b=>b.run X σ k
  | none=>lI P N Φ Λ c σ λe C=>match e with
   |.exit D=>if D=id then k .normal C else k (.exit D) C
   |e=>k e C
 |_,_,_=>none
def AW(P:Program)(w0:Wd)(N:Nat)(c:Code)(σ:S)(K:Exit->S->Prop):Prop:=
 ∀a w,R w0 N σ a w->c.wp P (λe D w'=>∃C,K e C/\R w0 N C D w') a w
def occs:Code->aa (Nat×Code)
 |.seq x y=>occs x++occs y
 |.cond _ x y=>occs x++occs y
 |.block id c=>(id,c)::occs c
 |_=>[]
def Bw(P:Program)(N:Nat)(c:Code)(b:r7):Prop:=∀(X:Type) σ k (r:X) w0,b.run X σ k=some r->AW P w0 N c σ λe C=>k e C=some r
def oU(P:Program)(N:Nat)(Λ:mM)(l:aa (Nat×Code)):Prop:=∀p∈l,∀b,Λ p.1=some b->Bw P N (.block p.1 p.2) b
section
variable {P:Program} {w w':World} {w0:Wd} {B N:Nat} {aj aD:bI} {ρ ρ':Nat->Loc} {σ:S} {a:Act} {X:Type} {d:Nat} {r:X} {o:Oper} {Φ:ez} {Λ:mM}
def lA.mem{C:S}(D:o.dst=some d)(h:∀ aj ρ a w,Rl w0 N aj ρ σ a w->∃ w' aD ρ' v,(execOp a.eval o).run P w = .ok (.value v) w'/\Rl w0 N aD ρ' C (a.put (some d) v) w'):lA P w0 N o σ C:=by
 intro a w K Q hR E;obtain⟨aj,ρ,hR⟩:=hR;obtain⟨w',aD,ρ',v,I,L⟩:=h aj ρ a w hR;unfold Oper.wp;rw[I,Oper.upon_value,D];exact E _ _ ⟨aD,ρ',L⟩
def jT{k:Nat -> ah X}(h:gP o k=some r):∃ d,o.dst=some d/\k d=some r:=by
 unfold gP at h
 grind
def jE{s:Sem Value}{v:Value}(h:s.run P w = .ok v w'):(do pure (.value (<-s)):Sem Next).run P w = .ok (.value v) w':=by
 rw[gk,h];rfl
def abE{b:Go.Builtin}{x:Operand}{t:TypeId}{v:Value}(C:o.op = .call ⟨.builtin b,⟨[x]⟩,⟨[t]⟩⟩)(h:∀ cs,(builtin b #[t] o.type cs #[a.eval x]).run P w = .ok (.value v) w'):(execOp a.eval o).run P w = .ok (.value v) w':=by
 simp only[execOp,C,resolve,gk,Sem.run_pure,mz,invoke,List.map_toArray,List.map_cons,List.map_nil];exact h _
def UJ{b:Go.Builtin}{x y:Operand}{t C:TypeId}{v:Value}(D:o.op = .call ⟨.builtin b,⟨[x,y]⟩,⟨[t,C]⟩⟩)(h:∀ cs,(builtin b #[t,C] o.type cs #[a.eval x,a.eval y]).run P w = .ok (.value v) w'):(execOp a.eval o).run P w = .ok (.value v) w':=by
 simp only[execOp,D,resolve,gk,Sem.run_pure,mz,invoke,List.map_toArray,List.map_cons,List.map_nil];exact h _
def UK{C:Op}:cI λX k=>mJ (X:=X) P σ C k:=λX Y k g=>by
 unfold mJ;split
 ·rfl
 ·rfl
 ·repeat' first|rfl|refine dc ?_ ?_|split
 ·exact aot _ _ _ _
 ·exact abd _ _ _ _
 ·exact aon _ _ _ _
 ·exact(Uj.comp λa=>aoo.comp (b:=λX k z=>k (.lf (.v z))) λz _ _ _ _=>rfl) X Y k g
 ·exact aow _ _ _ _
 ·exact aop _ _ _ _
 ·exact aou _ _ _ _
 ·exact aoq _ _ _ _
 ·exact aov _ _ _ _
 ·exact aos _ _ _ _
 ·unfold M1;split<;>rfl
 ·exact aor _ _ _ _
 ·exact abe _ _ _ _
 ·exact abe _ _ _ _
 ·exact aox _ _ _ _
 ·rfl
def UL{op:Op}{k:A->ah X}(h:mJ P σ op k=some r):∃ v,k v=some r/\mF (λX k=>mJ (X:=X) P σ op k) v/\∀ aj ρ a w (o:Oper),o.op=op->Rl w0 N aj ρ σ a w->∃ u,(execOp a.eval o).run P w = .ok (.value u) w/\RA w w0.heap.size aj ρ v u:=by
 obtain⟨z,L,U⟩:=UK.lZ h
 refine⟨z,L,U,λaj ρ a w o I hR=>?_⟩
 replace h:mJ P σ op some=some z:=U A some;clear U L;unfold mJ at h;split at h
 ·cases h;exact⟨_,by simp[execOp,I],hR.aK _⟩
 ·cases h;exact⟨_,by simp[execOp,I],hR.aK _⟩
 ·rename_i c x y;split at h
  ·rename_i b hb;have Z:=hR.aK c;rw[hb]at Z;have hv:=Z.2.yJ;cases b with
   |true=>cases h;exact⟨a.eval x,by simp[execOp,I,hv,asBool],hR.aK x⟩
   |false=>cases h;exact⟨a.eval y,by simp[execOp,I,hv,asBool],hR.aK y⟩
  ·cases h
 next t parts=>obtain⟨_,⟨⟩,C⟩:=anj (w0:=w0) (N:=N) h;obtain⟨v,D,E⟩:=C aj ρ a w hR;exact⟨v,by simp only[execOp,I];exact jE D,E⟩
 next t x=>obtain⟨_,⟨⟩,C⟩:=aah (w0:=w0) (N:=N) h;obtain⟨v,D,E⟩:=C aj ρ a w hR _ (hR.aK x);exact⟨v,by simp only[execOp,I];exact jE D,E⟩
 next op t x y yt=>obtain⟨_,⟨⟩,C⟩:=anu (w0:=w0) (N:=N) h;obtain⟨v,D,E⟩:=C aj ρ a w hR x y _ _ (hR.aK x) (hR.aK y);exact⟨v,by simp only[execOp,I];exact jE D,E⟩
 next op t x=>obtain⟨u,hx,h⟩:=SW h;obtain⟨_,⟨⟩,hp,C⟩:=amX (P:=P) h;have L:=hR.aK x;rw[hx]at L;obtain⟨O,D,Y⟩:=C w _ aj [] _ L.2;exact⟨O,by simp only[execOp,I];exact jE D,V.Ge hp,Y⟩
 next s d' x=>obtain⟨_,⟨⟩,C⟩:=anq (w0:=w0) (N:=N) h;obtain⟨v,D,E⟩:=C aj ρ a w hR _ (hR.aK x);exact⟨v,by simp only[execOp,I];exact jE D,E⟩
 next s x f=>obtain⟨_,⟨⟩,C⟩:=am0 h;obtain⟨v,D,E⟩:=C w _ aj ρ _ (hR.aK x);exact⟨v,by simp only[execOp,I];exact jE D,E⟩
 next s x f=>obtain⟨_,⟨⟩,C⟩:=anr h;obtain⟨v,D,E⟩:=C w _ aj ρ _ (hR.aK x);exact⟨v,by simp only[execOp,I];exact jE D,E⟩
 next t x i=>obtain⟨_,⟨⟩,C⟩:=am1 (w0:=w0) (N:=N) h;obtain⟨v,D,E⟩:=C aj ρ a w hR _ _ (hR.aK x) (hR.aK i);exact⟨v,by simp only[execOp,I];exact jE D,E⟩
 next t x i=>obtain⟨_,⟨⟩,C⟩:=anp h;obtain⟨v,D,E⟩:=C w _ aj ρ _ _ (hR.aK x) (hR.aK i);exact⟨v,by simp only[execOp,I];exact jE D,E⟩
 next x i=>obtain⟨_,⟨⟩,C⟩:=am3 (P:=P) h;obtain⟨v,D,E⟩:=C w _ aj ρ _ (hR.aK x);exact⟨v,by simp only[execOp,I];exact jE D,E⟩
 next x=>obtain⟨h,C⟩:=aoE (w:=w) (B:=w0.heap.size) (aj:=aj) (ρ:=ρ) h;cases h;obtain⟨ad,hu⟩:=C _ (hR.aK x);refine⟨a.eval x,?_,hR.aK x⟩;simp only[execOp,I,hu];rfl
 next x t=>obtain⟨_,⟨⟩,C⟩:=am2 (w0:=w0) (N:=N) (ty:=o.type) h;obtain⟨v,D,E⟩:=C aj ρ a w hR _ (hR.aK x);exact⟨v,abE I λ_=>jE D,E⟩
 next x y t O=>obtain⟨_,⟨⟩,C⟩:=aaC (P:=P) h;obtain⟨v,D,E⟩:=C w _ aj ρ t o.type _ _ (hR.aK x) (hR.aK y);exact⟨v,UJ I λ_=>jE (s:=Builtin.max_ #[t,O] o.type #[a.eval x,a.eval y]) D,E⟩
 next x y t O=>obtain⟨_,⟨⟩,C⟩:=aaC (P:=P) h;obtain⟨v,D,E⟩:=C w _ aj ρ t o.type _ _ (hR.aK x) (hR.aK y);exact⟨v,UJ I λ_=>jE (s:=Builtin.min_ #[t,O] o.type #[a.eval x,a.eval y]) D,E⟩
 ·rename_i t x lo hi;obtain⟨_,⟨⟩,C⟩:=anA (w0:=w0) (N:=N) h;have T:∀ z:ah Operand,(∀ b,z.map (aK σ)=some b->∃ v,z.map a.eval=some v/\RA w w0.heap.size aj ρ b v)/\(z.map (aK σ)=none->z.map a.eval=none):=by
   intro z;cases z with
   |none=>exact⟨λb hb=>(by cases hb),λ_=>rfl⟩
   |some z=>exact⟨λb hb=>(by cases hb;exact⟨_,rfl,hR.aK z⟩),λhb=>(by cases hb)⟩
  obtain⟨v,D,Y⟩:=C aj ρ a w hR _ _ _ (hR.aK x) (T lo).1 (T lo).2 (T hi).1 (T hi).2;exact⟨v,by simp only[execOp,I];exact jE D,Y⟩
 ·cases h
def lA.skip{C:S}(D:o.dst=none)(h:∀ aj ρ a w,Rl w0 N aj ρ σ a w->∃ w' aD,(execOp a.eval o).run P w = .ok .skip w'/\Rl w0 N aD ρ C a w'):lA P w0 N o σ C:=by
 intro a w K Q hR E;obtain⟨aj,ρ,hR⟩:=hR;obtain⟨w',aD,I,L⟩:=h aj ρ a w hR;unfold Oper.wp;rw[I,Oper.upon_skip,D];exact E _ _ ⟨aD,ρ,L⟩
def Nk{s:Sem af}(h:s.run P w = .ok () w'):(do s;pure .skip:Sem Next).run P w = .ok .skip w':=by
 rw[gk,h];rfl
def apj{k:S->ah X}(dS:fL P Φ)(h:iH P N Φ σ o k=some r):∃ L,k L=some r/\lA P w0 N o σ L:=by
 unfold iH at h;split at h
 ·rename_i e C;obtain⟨d,D,h⟩:=jT h;obtain⟨L,h,O⟩:=am9 (w0:=w0) h
  refine⟨L,h,.mem D λaj ρ a w hR=>?_⟩
  obtain⟨w',aD,ρ',v,E,I⟩:=O aj ρ a w hR;exact⟨w',aD,ρ',v,by simp only[execOp,C];exact jE E,I⟩
 ·rename_i e x C;obtain⟨d,D,h⟩:=jT h;obtain⟨L,h,O⟩:=aoC (w0:=w0) (e:=e) h
  refine⟨L,h,.mem D λaj ρ a w hR=>?_⟩
  obtain⟨w',aD,ρ',v,E,I⟩:=O aj ρ a w hR _ (hR.aK x);exact⟨w',aD,ρ',v,by simp only[execOp,C];exact jE E,I⟩
 ·rename_i t len parts C;obtain⟨d,D,h⟩:=jT h;cases hn:pO t with
  | true=>
   rw[hn,aq]at h;obtain⟨L,h,O⟩:=aoF (w0:=w0) h
   refine⟨L,h,.mem D λaj ρ a w hR=>?_⟩
   obtain⟨w',aD,ρ',v,E,I⟩:=O aj ρ a w hR;exact⟨w',aD,ρ',v,by simp only[execOp,C];exact jE E,I⟩
  | false=>
   rw[hn,au]at h;obtain⟨L,h,O⟩:=ann (w0:=w0) h
   refine⟨L,h,.mem D λaj ρ a w hR=>?_⟩
   obtain⟨w',aD,ρ',v,E,I⟩:=O aj ρ a w hR;exact⟨w',aD,ρ',v,by simp only[execOp,C];exact jE E,I⟩
 ·rename_i t x y C;split at h
  ·rename_i D;cases hn:wU (aK σ x) (aK σ y)with
   | true=>
    rw[hn,aq]at h;obtain⟨L,h,O⟩:=aoN (w0:=w0) (N:=N) h
    refine⟨L,h,.skip D λaj ρ a w hR=>?_⟩
    obtain⟨w',aD,E,I⟩:=O aj ρ a w hR _ _ (hR.aK x) (hR.aK y);exact⟨w',aD,by simp only[execOp,C];exact Nk E,I⟩
   | false=>
    rw[hn,au]at h;obtain⟨L,h,O⟩:=aaj (w0:=w0) (N:=N) h
    refine⟨L,h,.skip D λaj ρ a w hR=>?_⟩
    obtain⟨w',E,I⟩:=O aj ρ a w hR _ _ (hR.aK x) (hR.aK y);exact⟨w',aj,by simp only[execOp,C];exact Nk E,I⟩
  ·cases h
 ·rename_i t l c C;obtain⟨d,D,h⟩:=jT h;obtain⟨L,h,O⟩:=ana (w0:=w0) h
  refine⟨L,h,.mem D λaj ρ a w hR=>?_⟩
  obtain⟨w',aD,ρ',v,E,I⟩:=O aj ρ a w hR _ _ (hR.aK l) (hR.aK c);exact⟨w',aD,ρ',v,by simp only[execOp,C];exact jE E,I⟩
 ·rename_i f args jR C;split at h
  next c T=>obtain⟨d,D,h⟩:=jT h;obtain⟨U,Y⟩:=dS f _ T;exact aaN C D U Y (aaL (w0:=w0) (N:=N) _) h
  next c T=>obtain⟨U,Y⟩:=dS f _ T;exact an2 C U Y h
  next c T=>obtain⟨d,D,h⟩:=jT h;obtain⟨U,Y⟩:=dS f _ T;exact aoS C D U Y h
  ·rename_i F T;obtain⟨d,D,h⟩:=jT h;obtain⟨U,Y⟩:=dS f _ T;split at h
   next x hx=>exact aoR C hx D U Y h
   ·cases h
  next c T=>obtain⟨U,Y⟩:=dS f _ T;exact abu (ex:=[]) C rfl U Y h
  next c T=>obtain⟨U,Y⟩:=dS f _ T;exact an8 C U Y h
  next c T=>obtain⟨d,D,h⟩:=jT h;obtain⟨U,Y⟩:=dS f _ T;exact aaN C D U Y (anF (w0:=w0) (N:=N) _) h
  next c T=>obtain⟨U,Y⟩:=dS f _ T;exact aoZ C U Y h
  ·cases h
 ·rename_i x y t t' C;cases nj:Nat.beq t t' with
  |false=>rw[nj]at h;cases h
  | true=>
   rw[nj,aq]at h;obtain rfl:=cB nj;obtain⟨d,D,h⟩:=jT h;have hh:∃ L,k L=some r/\∀ aj ρ a w,Rl w0 N aj ρ σ a w->∀ u v,RA w w0.heap.size aj ρ (aK σ x) u->RA w w0.heap.size aj ρ (aK σ y) v->
     ∃w' aD ρ' z,(Builtin.append_ #[t,t] o.type #[u,v]).run P w = .ok z w'/\Rl w0 N aD ρ' L (a.put (some d) z) w':=by
    cases hn:pO t with
    |true=>rw[hn,aq]at h;exact aoL h
    | false=>
     rw[hn,au]at h;cases hk:Nd t d x with
     |true=>rw[hk,aq]at h;exact apg h
     |false=>rw[hk,au]at h;exact anb h
   obtain⟨L,h,O⟩:=hh
   refine⟨L,h,.mem D λaj ρ a w hR=>?_⟩
   obtain⟨w',aD,ρ',v,E,I⟩:=O aj ρ a w hR _ _ (hR.aK x) (hR.aK y);exact⟨w',aD,ρ',v,UJ C λ_=>jE E,I⟩
 ·rename_i t C;obtain⟨d,D,h⟩:=jT h;obtain⟨L,h,O⟩:=ao5 (w0:=w0) (t:=t) (P:=P) h
  refine⟨L,h,.mem D λaj ρ a w hR=>?_⟩
  obtain⟨w',aD,ρ',v,E,I⟩:=O aj ρ a w hR;exact⟨w',aD,ρ',v,by simp only[execOp,C];exact jE E,I⟩
 ·rename_i t x i C;obtain⟨v,Z,_,O⟩:=ao9 (w0:=w0) (N:=N) h
  refine lA.val Z λaj ρ a w hR=>?_
  obtain⟨y,E,I⟩:=O aj ρ a w hR _ _ (hR.aK x) (hR.aK i);exact⟨y,by simp only[execOp,C];exact jE E,I⟩
 ·rename_i t x i v C;split at h
  ·rename_i D;obtain⟨L,h,_,O⟩:=apa (w0:=w0) (N:=N) h
   refine⟨L,h,.skip D λaj ρ a w hR=>?_⟩
   obtain⟨w',E,I⟩:=O aj ρ a w hR _ _ _ (hR.aK x) (hR.aK i) (hR.aK v);exact⟨w',aj,by simp only[execOp,C];exact Nk E,I⟩
  ·cases h
 ·rename_i t args jR C;split at h
  ·rename_i f cap wH;split at h
   next c T=>obtain⟨U,Y⟩:=dS f _ T;exact abu C wH U Y h
   ·cases h
  ·cases h
 ·rename_i f abF C;split at h
  ·rename_i ps qJ;obtain⟨Z,h2⟩:=abv (w0:=w0) (N:=N) _ _ qJ
   refine lA.val h λaj ρ a w hR=>⟨.func (.func f) #[] (abF.map a.eval),by simp[execOp,C,Instr.makeFunc],_,rfl,by simp[Z],λj p hp=>?_⟩
   obtain⟨b,off,e1,e2⟩:=h2 aj ρ a w hR j p hp;exact⟨b,off,e1,by simpa using e2⟩
  ·cases h
 ·rename_i x t C;obtain⟨pN,Z,O⟩:=anf (w0:=w0) (N:=N) (ty:=o.type) h;have run:∀ aj ρ a w,Rl w0 N aj ρ σ a w->∃ w',(execOp a.eval o).run P w = .ok (.value (.tuple #[])) w'/\Rl w0 N aj ρ pN a w':=by
   intro aj ρ a w hR;obtain⟨w',E,I⟩:=O aj ρ a w hR _ (hR.aK x);exact⟨w',abE C λ_=>jE E,I⟩
  unfold ir at Z;split at Z
  ·rename_i D
   refine⟨_,Z,λa w K Q hR hK=>?_⟩
   obtain⟨aj,ρ,hR⟩:=hR;obtain⟨w',E,I⟩:=run aj ρ a w hR;unfold Oper.wp;rw[E,Oper.upon_value,D];exact hK _ _ ⟨aj,ρ,I⟩
  ·rename_i d D;cases hN:Nat.blt d N with
   |false=>rw[hN]at Z;cases Z
   | true=>
    rw[hN,aq]at Z
    refine⟨_,Z,.mem D λaj ρ a w hR=>?_⟩
    obtain⟨w',E,I⟩:=run aj ρ a w hR;exact⟨w',aj,ρ,_,E,I.set trivial (by have:=cK hN;omega)⟩
 ·cases h
def UM{k:S -> ah X}(E:fL P Φ)(h:dB P N Φ σ o k=some r):∃ C,k C=some r/\lA P w0 N o σ C:=by
 unfold dB at h;cases D:fM o.op with
 | true=>
  rw[D,aq]at h;obtain⟨v,I,_,L⟩:=UL h;exact lA.val I λaj ρ a w hR=>L aj ρ a w o rfl hR
 | false=>
  rw[D]at h;exact apj E h
def apk{k:S->ah X}(U:fL P Φ)(h:Hh P N Φ σ o k=some r):∃ D,k D=some r/\lA P w0 N o σ D:=by
 unfold Hh at h;split at h
 ·rename_i t x y E I;split at h
  ·rename_i q s i j Z;obtain⟨D,C,L⟩:=ao2 (w0:=w0) (N:=N) h
   refine⟨D,C,.skip I λaj ρ a w hR=>?_⟩
   have Y:=hR.aK y;rw[Z]at Y;obtain⟨w',aD,O,dX⟩:=L aj ρ a w hR _ _ (hR.aK x) Y;exact⟨w',aD,by simp only[execOp,E];exact Nk O,dX⟩
  ·exact UM U h
 ·rename_i t x lo hi mx d E I;obtain⟨C,L⟩:=ao4 (w0:=w0) (N:=N) h;cases T:Nat.blt d N with
  |false=>rw[T]at C;cases C
  | true=>
   rw[T,aq]at C
   refine⟨_,C,.mem I λaj ρ a w hR=>?_⟩
   obtain⟨v,O⟩:=L aj ρ a w hR _ _ _ _ (hR.aK x) (hR.aK lo) (hR.aK hi) (hR.aK mx);refine⟨w,aj,ρ,v,?_,hR.set trivial (by have:=cK T;omega)⟩;simp only[execOp,E,Option.map_some];exact jE O
 ·exact UM U h
/-! What an operation gives hangs on its operands and on the roots that they name. -/
def A.key:A->ah (aa Nat)
 |.lf (.own q)=>some q
 |.view q _ _ _=>some q
 |.ptr (_::_::_::q)=>some q
 |_=>none
def Sm(σ2 σ:S)(x:A):Prop:=∀q,x.key=some q->∀(X:Type) (k:V->ah X),jr σ2.m q k=jr σ.m q k
def Sm.eq{σ2:S}(C:σ2.m=σ.m)(x:A):Sm σ2 σ x:=λq _ X k=>by rw[C]
def Sm.lf{σ2:S}{l:Lf}(h:Sm σ2 σ (.lf l))(k:V->ah X):oH σ2 l k=oH σ l k:=by
 cases l with
 |own q=>exact h q rfl X k
 |_=>rfl
def Sm.bin{σ2:S}{C:BinOp}{t:TypeId}{x y:A}(h:Sm σ2 σ x)(k:A->ah X):yX P σ2 C t x y k=yX P σ C t x y k:=by
 unfold yX;split
 ·rfl
 ·split
  ·exact h.lf _
  ·rfl
 ·rfl
def Sm.conv{σ2:S}{t C:TypeId}{x:A}(h:Sm σ2 σ x)(k:A->ah X):yU P σ2 t C x k=yU P σ t C x k:=by
 unfold yU;split
 ·rfl
 ·exact h.lf _
 ·rfl
def Sm.idx{σ2:S}{t:TypeId}{x i:A}(h:Sm σ2 σ x)(k:A->ah X):yL P σ2 t x i k=yL P σ t x i k:=by
 unfold yL;split
 ·rfl
 ·split
  ·split
   ·rfl
   ·exact h _ rfl _ _
   ·rfl
  ·rfl
def Sm.len{σ2:S}{t:TypeId}{x:A}(h:Sm σ2 σ x)(k:A->ah X):A3 P σ2 t x k=A3 P σ t x k:=by
 cases x with
 |lf l=>exact h.lf _
 |_=>rfl
def Sm.slc{σ2:S}{t:TypeId}{x:A}{lo hi:ah A}(h:Sm σ2 σ x)(k:A->ah X):yZ P σ2 t x lo hi k=yZ P σ t x lo hi k:=by
 unfold yZ Bc;split
 ·simp only[h _ rfl]
 ·simp only[h _ rfl]
 ·rfl
def Sm.load{σ2:S}{t:TypeId}{x:A}(h:Sm σ2 σ x)(hb:∀ r j,x = .aO r j->σ2.m r=σ.m r)(k:A->ah X):nP P σ2 t x k=nP P σ t x k:=by
 unfold nP;split
 ·rfl
 ·split
  ·rw[hb _ _ rfl]
  ·rfl
  ·exact h _ rfl _ _
  ·rfl
def abG{σ2:S}(C:Op)(h:∀ x∈C.operands,aK σ2 x=aK σ x/\Sm σ2 σ (aK σ x))(hl:∀ t x,C = .load t x->∀ k:A->ah X,nP P σ2 t (aK σ x) k=nP P σ t (aK σ x) k)(k:A->ah X):mJ P σ2 C k=mJ P σ C k:=by
 unfold mJ;split
 case h_4 t parts=>
  have e:(parts.toList.map λp=>(p.1,aK σ2 p.2))=parts.toList.map λp=>(p.1,aK σ p.2):=List.map_congr_left λp I=>by rw[(h p.2 (by simp only[Op.operands];exact List.mem_toArray.2 (List.mem_map_of_mem (f:=(·.2)) I))).1]
  simp only[Dq,e]
 case h_18 t x lo hi=>
  have e:∀ z:ah Operand,(∀ y,z=some y->aK σ2 y=aK σ y)->z.map (aK σ2)=z.map (aK σ):=by
   intro z L;cases z with
   |none=>rfl
   |some z=>exact bx some (L z rfl)
  have E:=h x (by simp[Op.operands]);rw[E.1,e lo (λy D=>(h y (by subst D;simp[Op.operands])).1),e hi (λy D=>(h y (by subst D;simp[Op.operands])).1)];exact E.2.slc k
 all_goals simp[Op.operands,Call.operands]at h
 case h_5=>rw[h.1];exact hl _ _ rfl k
 case h_6=>rw[h.1.1,h.2.1];exact h.1.2.bin k
 case h_8=>rw[h.1];exact h.2.conv k
 case h_11=>rw[h.1.1,h.2.1];exact h.1.2.idx k
 case h_15=>rw[h.1];exact h.2.len k
 all_goals first|rfl|simp only[h]
def abH{σ2:S}(C:Op)(D:σ2.m=σ.m)(h:∀ x∈C.operands,aK σ2 x=aK σ x)(k:A->ah X):mJ P σ2 C k=mJ P σ C k:=
 abG C (λx E=>⟨h x E,.eq D _⟩) (λt x _ k=>(Sm.eq D _).load (λr _ _=>by rw[D]) k) k
def abI{σ2:S}(C:σ2.m=σ.m)(q:aa Nat)(s i j:Nat)(k:V->ah X):uH σ2 q s i j k=uH σ q s i j k:=by
 simp only[uH,C]
def UN{σ2:S}(C:σ2.m=σ.m)(x:Lf)(k:V->ah X):oH σ2 x k=oH σ x k:=(Sm.eq C _).lf k
def apl{σ2:S}(C:σ2.m=σ.m)(x:A)(k:V->ah X):rQ σ2 x k=rQ σ x k:=by
 cases x<;>simp only[rQ,UN C,abI C]
def UO{σ2:S}(C:σ2.m=σ.m):∀ (xs:aa Lf) (k:aa V->ah X),qH σ2 xs k=qH σ xs k
 |[],k=>rfl
 | x :: xs,k=>by
  simp only[qH,UN C,UO C xs]
def abJ{σ2:S}(C:σ2.m=σ.m)(x:A)(k:Pt->ah X):nS σ2 x k=nS σ x k:=by
 unfold nS;simp only[UO C,abI C]
def UP{σ2:S}{f:A->(Pt->ah X)->ah X}:∀ (xs:aa Operand) (k:aa Pt->ah X),(∀ x∈xs,aK σ2 x=aK σ x)->uM f σ2 xs k=uM f σ xs k
 |[],k,_=>rfl
 | x :: xs,k,h=>by
  simp only[uM,h x (.head _),UP xs _ λy C=>h y (.tail _ C)]
def apm{σ2:S}(C:σ2.m=σ.m)(xs:aa Operand)(k:aa Pt->ah X)(h:∀ x∈xs,aK σ2 x=aK σ x):rV σ2 xs k=rV σ xs k:=by
 unfold rV;rw[show nS σ2=nS σ from funext λx=>funext λk=>abJ C x k,UP xs k h]
def apn{σ2:S}(C:σ2.m=σ.m)(x:A)(k:Pt->ah X):uL σ2 x k=uL σ x k:=by
 unfold uL;simp only[abJ C,UO C,C]
def apo{σ2:S}(C:σ2.m=σ.m)(xs:aa Operand)(k:aa Pt->ah X)(h:∀ x∈xs,aK σ2 x=aK σ x):Bd σ2 xs k=Bd σ xs k:=by
 unfold Bd;rw[show uL σ2=uL σ from funext λx=>funext λk=>apn C x k,UP xs k h]
/-! .. and a root that it does not name is of no account. -/
def Hr(n:Nat)(x:aV)(m:Nat->ah aV):Nat->ah aV:=bW (λr=>bif Nat.beq r n then none else (m r).map (aV.drop n)) n (some x)
def abK{n:Nat}{x:aV}{m:Nat->ah aV}{q:Nat}(h:q≠n):Hr n x m q=(m q).map (aV.drop n):=by
 unfold Hr;rw[cH _ _ _ h,oE h];rfl
def Nl{m m':Nat->ah aV}{p:Nat->Bool}(D:∀ r,p r=false->∀ y,m' r=some (.sl y) ↔ m r=some (.sl y)):∀ (q:aa Nat) (k:V->ah X),nY p q=true->jr m' q k=jr m q k
 |[],_,_=>rfl
 | [r],k,h=>by
  have E:=D r (by simpa [nY,jc]using h);simp only[jr];split
  next y C=>rw[(E y).1 C]
  ·rename_i I;split
   next y C=>exact absurd ((E y).2 C) (I y)
   ·rfl
 |[_,_],_,_=>rfl
 |[j,i,s],k,h=>rfl
 | j :: i :: s :: L :: q,k,h=>by
  simp only[jr];exact Nl D (L::q) _ (by simpa [nY,Mh]using h)
def apq{n:Nat}{q:aa Nat}(h:cR n q=false):nY (λr=>Nat.beq r n) q=true:=by
 unfold nY jc;unfold cR at h;split
 next r C=>rw[C]at h;show (!Nat.beq r n)=true;rw[oE (show r≠n by simpa using h)];rfl
 ·rfl
def aV.Hs(n:Nat)(cs:aa Lf):(aV.aC cs).drop n = .aC (cs.map (Lf.drop n)):=rfl
def apr{n:Nat}(z:ah aV)(y:V):z.map (aV.drop n)=some (.sl y) ↔ z=some (.sl y):=by
 cases z with
 |none=>simp
 |some z=>cases z<;>simp[aV.drop,aV.cE]
def abL{n:Nat}{x:aV}{m:Nat->ah aV}{r:Nat}(h:r≠n)(y:V):Hr n x m r=some (.sl y) ↔ m r=some (.sl y):=by
 rw[abK h];exact apr _ y
def Ht{p:Nat->Bool}{r n:Nat}(h:p r=false)(C:p n=true):r≠n:=by
 rintro rfl;rw[C]at h;cases h
def aps{n:Nat}{x:aV}{m:Nat->ah aV}(q:aa Nat)(k:V->ah X)(h:cR n q=false):jr (Hr n x m) q k=jr m q k:=
 Nl (p:=λr=>Nat.beq r n) (λr C y=>abL (Ht (p:=λr=>Nat.beq r n) C (Nat.beq_refl n)) y) q k (apq h)
def apt{p:Nat->Bool}{r j n:Nat}(h:(A.aO r j).nr p=true)(C:p n=true):r≠n:=
 Ht (by simpa [A.nr,A.fr,tu]using h) C
def abM{p pb:Nat->Bool}{x:A}{q:aa Nat}(h:x.n5 p pb=true)(e:x.key=some q):nY p q=true:=by
 unfold A.key at e;split at e
 ·injection e with e;subst e;exact h
 ·injection e with e;subst e;exact h
 ·rename_i j i s C;injection e with e;subst e;have h:nY p (j :: i :: s :: C)=true:=h;cases C with
  |nil=>rfl
  |cons D q=>simpa [nY,Mh]using h
 ·cases e
def apu{p pb:Nat->Bool}{t:TypeId}{cs:aa Lf}{y:A}(h:wA P t cs some=some y)(C:y.n5 p pb=true):∀ c∈cs,c.nr p=true:=by
 unfold wA at h;split at h
 ·split at h
  ·split at h
   ·injection h with h;subst h;exact cv.1 C
   ·split at h
    ·injection h with h;subst h;intro c D;rw[oy.1 D];exact C
    ·cases h
   ·cases h
  ·cases h
 ·cases h
def A.wX:A->Bool
 |.aO .. |.ptr _|.lf (.own _)=>true
 |_=>false
def A.abN(x:A)(K:nh):x.cE K=x\/(x.cE K).wX=false:=by
 cases x with
 | lf l=>cases l with
  |own k=>cases h:K.l k<;>simp[A.cE,Lf.cE,h,A.wX]
  |_=>exact .inl rfl
 |ptr k=>cases h:K.p k<;>simp[A.cE,h,A.wX]
 |aO r j=>cases h:K.r r<;>simp[A.cE,h,A.wX]
 |pk r j=>cases h:K.r r<;>simp[A.cE,h,A.wX]
 |view k s i j=>cases h:K.p k<;>simp[A.cE,h,A.wX]
 |fn f cap=>cases h:(cap.any λp=>K.r p.1)<;>simp[A.cE,h,A.wX]
 |_=>exact .inr rfl
structure hU (p pb:Nat->Bool) (σ cY:S):Prop where
 t:∀{g},(σ.t g).n5 p pb=true->cY.t g=σ.t g
 sl:∀r,p r=false->∀y,cY.m r=some (.sl y) ↔ σ.m r=some (.sl y)
 aC:∀r,p r=false->∀cs,σ.m r=some (.aC cs)->∃f:Lf->Lf,cY.m r=some (.aC (cs.map f))/\∀l,l.nr p=true->f l=l
 nw:∀g,cY.t g=σ.t g\/(cY.t g).wX=false
def hU.refl{p pb:Nat->Bool}(σ:S):hU p pb σ σ:=
 ⟨λ_=>rfl,λ_ _ _=>.rfl,λ_ _ cs h=>⟨id,by rw[List.map_id];exact h,λ_ _=>rfl⟩,λ_=>.inl rfl⟩
def hU.trans{p pb:Nat->Bool}{σ E I:S}(h:hU p pb σ E)(D:hU p pb E I):hU p pb σ I:=by
 refine⟨λ{g} L=>?_,λr C y=>(D.sl r C y).trans (h.sl r C y),λr C cs T=>?_,λg=>?_⟩
 ·have e:=h.t L;rw[D.t (by rw[e];exact L),e]
 ·obtain⟨f,U,Y⟩:=h.aC r C cs T;obtain⟨O,Z,h4⟩:=D.aC r C _ U;exact⟨O ∘ f,by rw[<-List.map_map];exact Z,λl hl=>by show O (f l)=l;rw[Y l hl,h4 l hl]⟩
 ·rcases D.nw g with e | e
  ·rw[e];exact h.nw g
  ·exact .inr e
def hU.root{p pb:Nat->Bool}{σ D:S}(n:Nat)(x:aV)(C:p n=true)(hb:pb n=true)(h:hU p pb σ D):hU p pb σ ((D.drop n).root n x):=by
 refine h.trans ⟨λI=>A.Bl I C hb,λr E y=>abL (Ht E C) y,λr E cs L=>⟨Lf.drop n,?_,λl hl=>Lf.zn hl C⟩,λg=>A.abN _ _⟩
 show Hr n x D.m r=_;rw[abK (Ht E C),L];rfl
def hU.rt{p pb:Nat->Bool}{σ D:S}(n:Nat)(x:aV)(E:p n=true)(h:hU p pb σ D):hU p pb σ (D.root n x):=by
 have e:∀r,p r=false->(D.root n x).m r=D.m r:=λr C=>cH _ _ _ (Ht C E)
 exact h.trans ⟨λ_=>rfl,λr C y=>by rw[e r C],λr C cs I=>⟨id,by rw[e r C,List.map_id];exact I,λ_ _=>rfl⟩,λ_=>.inl rfl⟩
/-! Roots that a call writes. -/
def abO(ns:aa Nat)(nr:aa (Nat×aV))(m:Nat->ah aV):Nat->ah aV:=λr=>match nr.lookup r with
 |some x=>some x
 |none=>bif cW r ns ||cW r []then none else (m r).map (aV.di ns [])
structure UQ (p:Nat->Bool) (ns:List Nat) (nr:List (Nat×aV)):Prop where
 ns:∀n,cW n ns=true->p n=true
 nr:∀n x,nr.lookup n=some x->p n=true
def apv{p:Nat->Bool}{ns:aa Nat}{nr:aa (Nat×aV)}{m:Nat->ah aV}(hb:UQ p ns nr){q:Nat}(h:p q=false):abO ns nr m q=(m q).map (aV.di ns []):=by
 unfold abO;cases C:nr.lookup q with
 |some x=>rw[hb.nr q x C]at h;cases h
 | none=>
  cases D:cW q ns with
  |true=>rw[hb.ns q D]at h;cases h
  |false=>rfl
def UR(k:aa Nat):fW k []=false:=by
 unfold fW;split<;>rfl
def US{p:Nat->Bool}{ns:aa Nat}(hb:∀ n,cW n ns=true->p n=true)(k:aa Nat)(h:fW k ns=true):jc p k=true:=by
 unfold fW at h;unfold jc;split at h
 next r C=>rw[C];exact hb _ h
 ·cases h
def Lf.apw{p:Nat->Bool}{x:Lf}{ns:aa Nat}(h:x.nr p=true)(hb:∀ n,cW n ns=true->p n=true):x.di ns []=x:=
 Lf.oC (Lf.rL (λk C=>US hb k (by simp[uQ,UR]at C;exact C.1)) h)
def A.UT{p pb:Nat->Bool}{x:A}{ns:aa Nat}(h:x.n5 p pb=true)(hb:∀ n,cW n ns=true->p n=true):x.di ns []=x:=
 A.oC (A.rL (K:=uQ ns []) (J:=tu p pb) (λk C=>US hb k (by simp[uQ,UR]at C;exact C.1)) (λk C=>US hb k (by simpa [uQ,UR]using C)) (λr D=>by cases D) h)
def hU.di{p pb:Nat->Bool}{σ C:S}(ns:aa Nat)(nr:aa (Nat×aV))(hb:UQ p ns nr)(h:hU p pb σ C):hU p pb σ (C.di ns [] nr):=by
 have e:∀r,p r=false->(C.di ns [] nr).m r=(C.m r).map (aV.di ns []):=λr D=>apv hb D
 refine h.trans ⟨λE=>A.UT E hb.ns,λr D y=>?_,λr D cs I=>⟨Lf.di ns [],?_,λl hl=>Lf.apw hl hb.ns⟩,λg=>A.abN _ _⟩
 ·rw[e r D];cases C.m r with
  |none=>simp
  |some z=>cases z<;>simp[aV.di,aV.cE]
 ·rw[e r D,I];rfl
end
end Go.Proofs.YtglnbhiaknohlaaGreat
