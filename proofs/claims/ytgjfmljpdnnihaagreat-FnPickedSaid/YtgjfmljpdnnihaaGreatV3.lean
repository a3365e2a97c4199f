/-
  Running the program over pure contents, and that it follows (part 3). Nothing here is a claim.
-/
import Derived.Lib.AppendStr
import Derived.MapKept
import Derived.Test.YtgjfmljpdnnihaaGreatV2
set_option linter.unusedSimpArgs false
namespace Go.Proofs.YtgjfmljpdnnihaaGreat
set_option linter.defProp false
open Go.RowKit
set_option linter.unusedVariables false
def dT:Nat:=89999
def p9(ah:bE)(k:aa Nat):bE:=λb=>match ah b with
 |some q=>bif k.isSuffixOf q then some (q.take (q.length-k.length)++[dT])else bif cS dT q then none else some q
 |none=>none
def Ua(σ:S)(c:nK)(args:aa Operand)(q:Nat):Bool:=match jr σ c.ps args with
 |some C=>!cY q ((lF 0 C).map (·.1))&&C.any λD=>Nat.beq D.root dT
 |none=>false
def G3{X:Type}(N:Nat)(σ:S)(E:aj Tmp)(c:nK)(args:aa Operand)(k:S->aj X):aj X:=
 match args with
 | .tmp t :: _=>(match σ.t t with
  | .lf (.own [j,i,s,q])=>(match σ.m q with
   | some (.sl (.sl C (o+2) I l))=>if s=aF C then (if hi:i<l.length then (match (enc C o l[i])[j]? with
    | some y=>bif Nat.ble N 20000&&Nat.ble 20000 q&&Nat.blt q 60000&&Ua ((σ.dh [q,dT] [dT] [(dT,.sl y)]).set t (.lf (.own [dT]))) c args q then oq N ((σ.dh [q,dT] [dT] [(dT,.sl y)]).set t (.lf (.own [dT]))) E c args λD=>(match D.m dT with
      | some (.sl L)=>(match dec C o (splice (enc C o l[i]) j [L])with
       |some e=>k ((D.drop dT).root q (.sl (.sl C (o+2) I (l.set i e))))
       |none=>none)
      |_=>none)else none
    |none=>none)else none)else none
   |_=>none)
  |_=>none)
 |_=>none
section
variable {P:Program} {w w':World} {w0:Wd} {B N:Nat} {ah dA aD:bE} {ρ eY ρ':Nat->Loc} {σ:S} {a:Act} {X:Type} {d:Nat} {r:X} {o:Oper} {K:aa Nat} {m:Nat->aj aW}
def MM{b:Nat}(h:ah b=none):p9 ah K b=none:=by simp[p9,h]
def amM{b:Nat}{p:aa Nat}(h:ah b=some (p++K)):p9 ah K b=some (p++[dT]):=by
 have C:K.isSuffixOf _=true:=List.isSuffixOf_iff_suffix.2 ⟨p,rfl⟩;simp[p9,h,C]
def Ub{b:Nat}{k:aa Nat}(h:ah b=some k)(C:¬ K <:+ k)(D:cS dT k=false):p9 ah K b=some k:=by
 have C:K.isSuffixOf k=false:=by
  grind
 simp[p9,h,C,D]
def RV.cut{k:aa Nat}{x:V}{v:Value}(h:RV w B ah k x v)(p:aa Nat)(D:k=p++K\/x.aH=true):RV w B (p9 ah K) (p++[dT]) x v:=
 h.map (Q:=λk C=>∃ p,k=p++K/\C=p++[dT]) (dx _) (λb _ h=>⟨rfl,MM h⟩) (λb k C _ hl e=>by
  obtain⟨p,rfl,rfl⟩:=e;exact⟨rfl,amM hl,λj i s=>⟨j::i::s::p,rfl,rfl⟩⟩) (D.symm.imp_right λh=>⟨p,h,rfl⟩)
def RV.amN{k:aa Nat}{x:V}{v:Value}(h:RV w B ah k x v)(I:∀ b,ah b≠some [])(L:((∀ p,¬ K <:+ p++k)/\cS dT k=false)\/x.aH=true):RV w B (p9 ah K) k x v:=
 h.map (Q:=λk C=>k=C/\(∀ p,¬ K <:+ p++k)/\cS dT k=false) (dx _) (λb _ h=>⟨rfl,MM h⟩) (λb k C _ hl e=>by
  obtain⟨rfl,D,E⟩:=e
  refine⟨rfl,Ub hl (D []) E,λj i s=>⟨rfl,λp=>?_,?_⟩⟩
  ·have:=D (p++[j,i,s])
   rwa [List.append_assoc]at this
  ·rw[Mh (by rintro rfl;exact I b hl)];exact E) (L.symm.imp_right λh=>⟨rfl,h⟩)
def Rl.amO{t:Nat}{x:A}(h:Rl w0 N ah ρ σ a w)(D:RA w w0.heap.size ah ρ x (a.tmps.getD t undef)):Rl w0 N ah ρ (σ.set t x) a w:=by
 refine⟨h.below,h.cX,h.root,λk=>?_,h.size,h.defers,h.fix,h.dj⟩
 show RA w _ ah ρ (bV σ.t t x k) _;by_cases C:k=t
 ·subst C;rw[cc];exact D
 ·rw[cH _ _ _ C];exact h.tmp k
def Rl.amP{q:Nat}{x:aW}(h:Rl w0 N ah ρ σ a w)(E:dZ w w0.heap.size ah ρ q x):Rl w0 N ah ρ (σ.root q x) a w:=by
 refine⟨h.below,h.cX,λr y C=>?_,h.tmp,h.size,h.defers,h.fix,h.dj⟩
 have C:bV σ.m q _ r=some y:=C;by_cases D:r=q
 ·subst D;rw[cc]at C;simp_all
 ·rw[cH _ _ _ D]at C;exact h.root r y C
def je.amQ(h:Rl w0 N ah ρ σ a w):je w0 w w:=⟨rfl,rfl,rfl,dx _,λ_ _ _=>rfl⟩
def amR{f:Nat}{args:Array Operand}{jE:Array TypeId}{c:nK}{k:S -> aj X}(ho:o.op = .call { callee:=.value (.func f),args,argTypes:=jE })(he:enters P f)(hc:va P f c)(h:G3 N σ o.dst c args.toList k=some r):∃ c8,k c8=some r/\lu P w0 N o σ c8:=by
 unfold G3 at h;split at h
 ·rename_i t rest o8;split at h
  ·rename_i j i s q ht;split at h
   ·rename_i E oo qn l hm;split at h
    ·rename_i hs;subst hs;split at h
     ·rename_i hi;split at h
      ·rename_i y hy;generalize amS:((σ.dh [q,dT] [dT] [(dT,.sl y)]).set t (.lf (.own [dT])))=qa at h;cases hb:(Nat.ble N 20000&&Nat.ble 20000 q&&Nat.blt q 60000&&Ua qa c args.toList q)with
       |false=>rw[hb]at h;cases h
       | true=>
        rw[hb,aq]at h;simp only[aO]at hb;obtain⟨⟨⟨hN,Dx⟩,Be⟩,MN⟩:=hb;have hN:=cK hN;have Dx:=cK Dx;have Be:q<60000:=cK Be;obtain⟨τ,T9,cn,U,tM,o6,zi,GM⟩:=T6 (w0:=w0) ho he hc h;clear h;unfold Ua at MN;rw[tM]at MN;simp only[aO,gW]at MN;obtain⟨Gr,hdT⟩:=MN;obtain⟨mu,jF,Uc⟩:=List.any_eq_true.1 hdT;have Uc:=cC Uc;have amT:cY dT cn=false:=by rw[<- Uc];exact zi mu jF
        have amU:cY q cn=false:=by
         cases D:cY q cn with
         |false=>rfl
         |true=>have:=o6 q D;omega
        have Ud:q≠dT:=by unfold dT;omega
        split at U
        ·rename_i y' GD;split at U
         ·rename_i e Ue
          refine⟨_,U,λa w KK Q hR hK=>?_⟩
          obtain⟨ah,ρ,hR⟩:=hR;have cL:=hR.wJ;have amV:w0.F dT=none:=hR.dj dT (.inr (by decide));have fB:=hR.root q _ hm;generalize D:aW.sl (.sl E (oo+2) qn l)=x at fB;cases fB with
          |aC=>cases D
          |mp=>cases D
          |gh=>cases D
          | sl v yq cN hr=>
           injection D with D;subst D;cases hr with
           |eD=>simp at hi
           |fF=>simp at hi
           |fV=>simp at hi
           |aH _ _ _ _ _ _ _ _ _ ho=>omega
           | own _ _ _ _ _ b cap cs u hl hh hs Z r8 hcc qW=>
            have hKv:wB σ.m [j,i,aF E,q] y:=.elem j i [q] E oo qn l y (.root q _ hm) hi hy;obtain⟨Y,Bf,amW⟩:=hKv.ok hR.root;have wS:=hR.tmp t;rw[ht]at wS;have lz:a.tmps.getD t undef=Y:=by
             have h2:=wS.2;rw[Bf]at h2;injection h2 with h2;exact h2.symm
            have amX:Y=u i j:=by
             have h3:cW w ah ρ [j,i,aF E,q]=some (u i j):=by
              rw[L7,AY j i _ (show cW w ah ρ [q]=some (.slice (some ⟨b,0,none⟩) l.length cap) by simp[cW,cN]) hl];show w.cell? _=_;rw[cell_of_row w b _ cs _ _ hh];simp[*]
             rw[Bf]at h3;injection h3
            have gf:mD Y=true:=by rw[<- lz];exact wS.1
            -- the state that the callee's caller sees
            have TK:∀ k:aa Nat,fW k [q,dT]=false -> cS q k=false/\cS dT k=false:=by
             intro k U;unfold fW at U;unfold cS;split at U
             next z O=>rw[O];have:=aax U;simp only[gn,List.not_mem_nil,not_or]at this;exact⟨by simpa using this.1,by simpa using this.2⟩
             next O=>rw[O];exact⟨rfl,rfl⟩
            have hKq:∀ k:aa Nat,[j,i,aF E,q] <:+ k -> cS q k=true:=by
             rintro k ⟨p,rfl⟩;simp[cS]
            have GG:tH w w ah (p9 ah [j,i,aF E,q]) ρ (bV ρ dT (.dJ Y)) [q,dT] [dT]:=by
             refine⟨dx _,λI Bc C=>⟨rfl,?_⟩,λn Z=>?_,λI k C=>(hR.cX I k C).2⟩
             ·cases L:ah I with
              |none=>exact MM L
              | some k=>
               obtain⟨g1,g2⟩:=TK k (C k L);exact Ub L (λoS=>by rw[hKq k oS]at g1;cases g1) g2
             ·refine cH _ _ _ ?_;rintro rfl;simp[cY]at Z
            have wO:∀ I k,p9 ah [j,i,aF E,q] I=some k -> (∃ T,ah I=some T)/\k≠[]:=by
             intro I k C;cases L:ah I with
             |none=>rw[MM L]at C;cases C
             | some T=>
              refine⟨⟨T,rfl⟩,?_⟩;unfold p9 at C;rw[L]at C;simp only at C;cases h1:List.isSuffixOf [j,i,aF E,q] T with
              | true=>
               rw[h1,aq]at C;injection C with C;rw[<- C];simp
              | false=>
               rw[h1,au]at C;cases h2:cS dT T with
               |true=>rw[h2,aq]at C;cases C
               | false=>
                rw[h2,au]at C;injection C with C;rw[<- C];exact(hR.cX I T L).2.2
            have sC:Rl w0 N (p9 ah [j,i,aF E,q]) (bV ρ dT (.dJ Y)) (σ.dh [q,dT] [dT] [(dT,.sl y)]) a w:=by
             refine hR.tJ GG (je.amQ hR) (λI k C=>?_) (λn Z=>?_) (λn z O=>?_)
             ·obtain⟨⟨T,L⟩,MO⟩:=wO I k C;have:=hR.cX I T L;exact⟨this.1,this.2.1,MO⟩
             ·have:n=dT:=by simpa [cY]using Z
              rw[this];exact amV
             ·have Z:n=dT/\z = .sl y:=by
               rw[List.lookup_cons]at O;cases DS:(n==dT)with
               |false=>rw[DS]at O;cases O
               | true=>
                rw[DS]at O;injection O with O;exact⟨by simpa using DS,O.symm⟩
              obtain⟨rfl,rfl⟩:=Z;exact .sl Y y (cc _ _ _) (amW.cut [] (.inl rfl))
            have lD:Rl w0 N (p9 ah [j,i,aF E,q]) (bV ρ dT (.dJ Y)) qa a w:=by
             rw[<- amS];refine sC.amO ?_;rw[lz];exact⟨gf,by simp only[cW,cc]⟩
            refine GM a w KK Q _ _ lD λvv w' dA eY vi G2 wR sr wX=>?_
            -- behind the call
            have tF:90000 <= iw o.dst:=by unfold iw;split<;>omega
            have amY:vi dT = .dJ Y:=by
             rw[wX dT (by unfold dT;omega),wR.eX dT amT,cc]
            have amZ:vi q = .dJ (.slice (some ⟨b,0,none⟩) l.length cap):=by
             rw[wX q (by omega),wR.eX q amU,cH _ _ _ Ud,cN]
            have fB:=G2.root dT _ GD;generalize D:aW.sl y'=x at fB;cases fB with
            |aC=>cases D
            |mp=>cases D
            |gh=>cases D
            | sl v' y'' iQ fG=>
             injection D with D;subst D;rw[amY]at iQ;injection iQ with iQ;subst iQ;have Uf:=G2.wJ;have hrel:Rel dT dA (dA.gN dT [j,i,aF E,q]):=Gm Uf;have aaP:cS dT [q]=false:=by simpa [cS]using λe=>Ud e
             have DR:p9 ah [j,i,aF E,q] b=some [q]:=Ub hl (λoS=>by have:=oS.length_le;simp at this) aaP;have am0:fW [q] ((lF 0 T9).map (·.1))=false:=Gr;obtain⟨g1,g2⟩:=wR.same b (wR.ah b _ DR).1 (λk C=>by rw[DR]at C;injection C with C;subst C;exact am0);have am1:dA b=some [q]:=g2.trans DR;have am2:dA.gN dT [j,i,aF E,q] b=some [q]:=hrel.ld b _ am1 aaP;have hR4:=G2.rel hrel (λI k C=>by
              unfold bE.gN at C;cases L:dA I with
              |none=>rw[L]at C;cases C
              | some T=>
               rw[L]at C;injection C with C;subst C;exact⟨⟨T,rfl⟩,Z0 (by simp) (λe=>Uf I (by rw[L,e]))⟩)
             refine hK _ _ ⟨_,vi,hR4.amP (.sl _ _ amZ ?_)⟩;have hj:j<aF E:=by
              have:=(dO.1 hy).1
              rwa [kL]at this
             refine RV.Mb (w':=w') (cs:=cs) (xs:=[y']) (u:=u) (us:=u) am2 (g1.trans hh) hs Z r8 hi (show j+1 <= aF E from hj) Ue (λi' G4 j' x D hij=>⟨hcc i' G4 j' x D,?_⟩) (λn x D=>?_)
             ·have Ug:=qW i' G4 j' x D;have am3:¬ (i'=i/\j'=j):=λe=>hij ⟨e.1,by simp;omega⟩
              have aaQ:cS dT [j',i',aF E,q]=false:=by simpa [cS]using λe=>Ud e
              have a1:=Ug.amN (K:=[j,i,aF E,q]) cL (.inl ⟨λp oS=>?_,aaQ⟩)
              ·have a2:=a1.tJ wR (.inl (by simpa [fW]using Gr));exact a2.rel hrel (.inl aaQ)
              ·have e1:[j,i,aF E,q]=[j',i',aF E,q]:=SR oS ⟨p,rfl⟩ rfl;injection e1 with e1 e2;injection e2 with e2 e3;exact am3 ⟨e2.symm,e1.symm⟩
             ·cases n with
              | zero=>
               simp only[List.getElem?_cons_zero,iD]at D;subst D;refine⟨hcc i hi j y hy,?_⟩;have:=fG.gN (q:=dT) (nk:=[j,i,aF E,q]) Uf;rw[ZZ,amX]at this;exact this
              |succ n=>simp at D
         ·cases U
        ·cases U
      ·cases h
     ·cases h
    ·cases h
   ·cases h
  ·cases h
 ·cases h
def am4{C:aj Tmp}{c:nK}{args:aa Operand}(D:∀ σ,cI λX k=>oq (X:=X) N σ C c args k):cI λX k=>G3 (X:=X) N σ C c args k:=λX Y k g=>by
 unfold G3
 repeat' first|rfl|refine de ((D _ _ _ _ _).trans (bq _ (funext λE=>?_))) rfl|split
def wY:∀ (q:aa Nat),cI λX k=>jf (X:=X) m q k
 |[]=>λ_ _ _ _=>rfl
 | [x]=>λX Y k g=>by
  simp only[jf]
  repeat' first|rfl|refine de ?_ ?_|split
 |[_,_]=>λ_ _ _ _=>rfl
 | j :: i :: s :: q=>λX Y k g=>by
  simp only[jf]
  refine(wY q _ _ _ _).trans (bq _ (funext λy=>?_))
  repeat' first|rfl|split
  all_goals simp_all
def DT{x:Lf}:cI λX k=>oT (X:=X) σ x k:=by
 cases x with
 |own q=>exact wY q
 |_=>exact λ_ _ _ _=>rfl
def aaR{q:aa Nat}{s i j:Nat}:cI λX k=>uS (X:=X) σ q s i j k:=λX Y k g=>by
 refine(wY q _ _ _ _).trans (bq _ (funext λy=>?_))
 repeat' first|rfl|refine de ?_ ?_|split
def Uh{x:A}:cI λX k=>sj (X:=X) σ x k:=by
 cases x with
 |lf l=>exact DT
 |view=>exact aaR
 |_=>exact λ_ _ _ _=>rfl
def Ui{x:A}:cI λX k=>vK (X:=X) x k:=λX Y k g=>by
 unfold vK
 repeat' first|rfl|refine de ?_ ?_|split
def am5{ty:TypeId}{C:BinOp}{x y:V}:cI λX k=>Gg (X:=X) P ty C x y k:=λX Y k g=>by
 unfold Gg
 repeat' first|rfl|refine de ?_ ?_|split
def am6{C:BinOp}{t:TypeId}{x y:A}:cI λX k=>yT (X:=X) P σ C t x y k:=λX Y k g=>by
 unfold yT;split
 ·repeat' first|rfl|refine de ?_ ?_|split
 ·split
  ·refine(DT _ _ _ _).trans (bq _ (funext λz=>?_))
   repeat' first|rfl|refine de ?_ ?_|split
  ·rfl
 ·exact(Ui.comp λa=>Ui.comp λb=>am5.comp (b:=λX k z=>k (.lf (.v z))) λz _ _ _ _=>rfl) X Y k g
def am7{C:UnOp}{x:V}:cI λX k=>Gh (X:=X) C x k:=λX Y k g=>by
 unfold Gh
 repeat' first|rfl|refine de ?_ ?_|split
def MP{t:TypeId}{cs:aa Lf}:cI λX k=>wH (X:=X) P t cs k:=λX Y k g=>by
 unfold wH
 repeat' first|rfl|refine de ?_ ?_|split
def aaS{t:TypeId}{x:A}:cI λX k=>oa (X:=X) P σ t x k:=λX Y k g=>by
 unfold oa;split
 ·rfl
 ·split
  ·split
   ·exact MP _ _ _ _
   ·rfl
  ·exact MP _ _ _ _
  ·refine(wY _ _ _ _ _).trans (bq _ (funext λz=>?_))
   repeat' first|rfl|exact MP _ _ _ _|split
  ·rfl
def am8{s:TypeId}{x:A}{f:Nat}:cI λX k=>Ds (X:=X) P s x f k:=λX Y k g=>by
 unfold Ds
 repeat' first|rfl|refine de ?_ ?_|split
def am9{t:TypeId}{x i:A}:cI λX k=>yH (X:=X) P σ t x i k:=λX Y k g=>by
 unfold yH;split
 ·rfl
 ·split
  ·split
   ·repeat' first|rfl|refine de ?_ ?_|split
   ·refine(wY _ _ _ _ _).trans (bq _ (funext λz=>?_))
    repeat' first|rfl|refine de ?_ ?_|split
   ·rfl
  ·rfl
def ana{t:TypeId}{x:A}:cI λX k=>A8 (X:=X) P σ t x k:=λX Y k g=>by
 unfold A8;split
 ·refine(DT _ _ _ _).trans (bq _ (funext λz=>?_))
  repeat' first|rfl|refine de ?_ ?_|split
 ·repeat' first|rfl|refine de ?_ ?_|split
 ·rfl
def anb{x:A}{i:Nat}:cI λX k=>A9 (X:=X) x i k:=λX Y k g=>by
 unfold A9
 repeat' first|rfl|refine de ?_ ?_|split
def anc{t:TypeId}{parts:aa (Nat×Operand)}:cI λX k=>Dy (X:=X) P σ t parts k:=λX Y k g=>by
 unfold Dy
 repeat' first|rfl|refine de ?_ ?_|split
def ane{s:TypeId}{x:A}{f:Nat}:cI λX k=>GB (X:=X) P s x f k:=λX Y k g=>by
 unfold GB
 repeat' first|rfl|refine de ?_ ?_|split
def aaT{C:Bool}{x y:A}:cI λX k=>Dz (X:=X) C x y k:=λX Y k g=>by
 unfold Dz
 repeat' first|rfl|refine de ?_ ?_|split
def anf{t:TypeId}{x i:A}:cI λX k=>GC (X:=X) P t x i k:=λX Y k g=>by
 unfold GC
 repeat' first|rfl|refine de ?_ ?_|split
def ang{C D:TypeId}{x:A}:cI λX k=>yQ (X:=X) P σ C D x k:=λX Y k g=>by
 unfold yQ;split
 ·repeat' first|rfl|refine de ?_ ?_|split
 ·refine(DT _ _ _ _).trans (bq _ (funext λz=>?_))
  unfold Mt
  repeat' first|rfl|refine de ?_ ?_|split
 ·rfl
def DU{x:aj A}{d:Int}:cI λX k=>tA (X:=X) x d k:=λX Y k g=>by
 unfold tA
 repeat' first|rfl|refine de ?_ ?_|split
def aaU{t:TypeId}{q:aa Nat}{C:aj Nat}{lo hi:aj A}:cI λX k=>Bh (X:=X) P σ t q C lo hi k:=λX Y k g=>by
 unfold Bh;split
 ·split
  ·refine(wY _ _ _ _ _).trans (bq _ (funext λz=>?_))
   unfold DF;split
   ·split
    ·refine(DU _ _ _ _).trans (bq _ (funext λ_=>(DU _ _ _ _).trans (bq _ (funext λ_=>?_))))
     repeat' first|rfl|refine de ?_ ?_|split
    ·rfl
   ·rfl
  ·rfl
 ·rfl
def anh{t:TypeId}{x:A}{lo hi:aj A}:cI λX k=>yV (X:=X) P σ t x lo hi k:=λX Y k g=>by
 unfold yV;split
 ·exact aaU _ _ _ _
 ·exact aaU _ _ _ _
 ·unfold wP;split
  ·split
   ·refine(DU _ _ _ _).trans (bq _ (funext λ_=>(DU _ _ _ _).trans (bq _ (funext λ_=>?_))))
    repeat' first|rfl|refine de ?_ ?_|split
   ·rfl
  ·split
   ·split
    ·split
     ·refine de ((DU _ _ _ _).trans (bq _ (funext λ_=>(DU _ _ _ _).trans (bq _ (funext λ_=>?_))))) rfl
      repeat' first|rfl|refine de ?_ ?_|split
     ·rfl
    ·rfl
   ·rfl
  ·rfl
def wZ{C:aj Tmp}{x:A}:cI λX k=>gY (X:=X) N σ C x k:=λX Y k g=>by
 unfold gY
 repeat' first|rfl|refine de ?_ ?_|split
def MQ{x:aW}{y:A}:cI λX k=>hD (X:=X) N σ d x y k:=λX Y k g=>de rfl rfl
def DV{x:aW}{y:A}{k:S -> aj X}(h:hD N σ d x y k=some r):k (((σ.drop d).root d x).set d y)=some r/\mF (λX k=>hD (X:=X) N σ d x y k) (((σ.drop d).root d x).set d y):=by
 unfold hD at h;cases C:Nat.blt d N with
 |false=>simp_all
 |true=>rw[C]at h;exact⟨h,λX k=>by simp[hD,C,aq]⟩
def ani{e:TypeId}{k:S -> aj X}(h:qU P N σ d e k=some r):∃ x y,k (((σ.drop d).root d x).set d y)=some r/\y = .aG d 0/\(∀ (C:S),mF (λX k=>qU (X:=X) P N C d e k) (((C.drop d).root d x).set d y)):=by
 unfold qU at h;split at h
 ·rename_i z D;obtain⟨E,_⟩:=DV h
  refine⟨_,_,E,rfl,λC X k=>?_⟩
  obtain⟨I,_⟩:=oV h;have hb:Nat.blt d N=true:=iM I;simp[qU,D,hD,hb,aq]
 ·cases h
def aaV{t:TypeId}{l c:A}{k:S -> aj X}(h:yL P N σ d t l c k=some r):∃ y,k (((σ.drop d).root d (.sl y)).set d (.lf (.own [d])))=some r/\(∀ (C:S),mF (λX k=>yL (X:=X) P N C d t l c k) (((C.drop d).root d (.sl y)).set d (.lf (.own [d])))):=by
 unfold yL at h;split at h
 ·rename_i e T U n Y c D;split at h
  ·cases h
  ·rename_i z E;split at h
   ·rename_i hb;obtain⟨I,_⟩:=DV h
    refine⟨_,I,λC X k=>?_⟩
    obtain⟨L,_⟩:=oV h;have O:Nat.blt d N=true:=iM L;simp[yL,D,E,bH hb,hD,O,aq]
   ·cases h
 ·cases h
def aaW{t:TypeId}{len:Nat}{parts:aa (Nat×Operand)}{k:S -> aj X}(h:yP P N σ d t len parts k=some r):∃ y,k (((σ.drop d).root d (.sl y)).set d (.lf (.own [d])))=some r /\
  (∀(C:S),(∀p∈parts,aK C p.2=aK σ p.2) -> mF (λX k=>yP (X:=X) P N C d t len parts k) (((C.drop d).root d (.sl y)).set d (.lf (.own [d])))):=by
 unfold yP at h;split at h
 ·rename_i e D I;split at h
  ·rename_i z L;cases E:(Nat.beq (full D) 0&&Nat.beq z.cells.size (aF D)&&Nat.blt (len*aF D) 16777217)with
   |false=>simp_all
   | true=>
    rw[E,aq]at h;split at h
    ·rename_i cs O;split at h
     ·rename_i vs T;split at h
      ·rename_i l hl;obtain⟨U,_⟩:=DV h
       refine⟨_,U,λC Y X k=>?_⟩
       obtain⟨Z,_⟩:=oV h;have gI:Nat.blt d N=true:=iM Z;have e:(parts.map λp=>(p.1,aK C p.2))=parts.map λp=>(p.1,aK σ p.2):=List.map_congr_left λp hp=>by rw[Y p hp]
       simp[yP,I,L,E,aq,e,O,T,hl,hD,gI]
      ·cases h
     ·cases h
    ·cases h
  ·cases h
 ·cases h
def anj{t:TypeId}{x y:A}:cI λX k=>tu (X:=X) P N σ d t x y k:=λX Y k g=>by
 unfold tu;split
 ·refine de ((Uh _ _ _ _).trans (bq _ (funext λC=>?_))) rfl
  repeat' first|rfl|exact MQ _ _ _ _|refine de ?_ ?_|split
 ·rfl
def aaX:∀ (q:aa Nat) (y:V),cI λX k=>wI (X:=X) m q y k
 |[],_=>λ_ _ _ _=>rfl
 | [x],y=>λX Y k g=>by
  simp only[wI]
  repeat' first|rfl|refine de ?_ ?_|split
 |[_,_],_=>λ_ _ _ _=>rfl
 | j :: i :: s :: q,y=>λX Y k g=>by
  simp only[wI]
  refine(wY q _ _ _ _).trans (bq _ (funext λz=>?_))
  repeat' first|rfl|exact aaX q _ _ _ _ _|split
def aaY{t:TypeId}{x y:A}:cI λX k=>pY (X:=X) P σ t x y k:=λX Y k g=>by
 unfold pY;split
 ·split
  ·split
   ·repeat' first|rfl|refine de ?_ ?_|split
   ·split
    ·rfl
    ·refine(wY _ _ _ _ _).trans (bq _ (funext λz=>?_))
     repeat' first|rfl|exact aaX _ _ _ _ _ _|refine de ?_ ?_|split
   ·rfl
  ·rfl
 ·rfl
def Uj:∀ (xs:aa Lf),cI λX k=>qZ (X:=X) σ xs k
 |[]=>λ_ _ _ _=>rfl
 |x::xs=>DT.comp λy=>(Uj xs).comp (b:=λX k ys=>k (y.gp::ys)) λ_ _ _ _ _=>rfl
def aaZ{x:A}:cI λX k=>oe (X:=X) σ x k:=λX Y k g=>by
 unfold oe
 repeat' first|rfl|exact Uj _ _ _ _ _|exact aaR _ _ _ _|split
def ank{x:A}:cI λX k=>uW (X:=X) σ x k:=λX Y k g=>by
 unfold uW
 repeat' first|rfl|exact aaZ _ _ _ _|refine(Uj _ _ _ _ _).trans (bq _ (funext λz=>?_))|split
def Uk{f:(X:Type)->A->(Pt->aj X)->aj X}(C:∀ x,cI λX k=>f X x k):∀ (xs:aa Operand),cI λX k=>uX (f X) σ xs k
 |[]=>λ_ _ _ _=>rfl
 |x::xs=>(C _).comp λp=>(Uk C xs).comp (b:=λX k ps=>k (p::ps)) λ_ _ _ _ _=>rfl
def DW{xs:aa Operand}:cI λX k=>su (X:=X) σ xs k:=Uk (λ_=>aaZ) xs
def aa0{xs:aa Operand}:cI λX k=>Bi (X:=X) σ xs k:=Uk (λ_=>ank) xs
def MR{C:fZ}:cI λX k=>nH (X:=X) σ d C k:=λX Y k g=>by
 unfold nH
 repeat' first|rfl|refine de ?_ ?_|split
def aa1{f:Nat}{c:iR}(C:iu P f c){ev:(X:Type)->(aa Pt->aj X)->aj X}(D:cI ev):cI λX k=>sx (X:=X) N σ d c (ev X) k:=λX Y k g=>
 de ((D.comp λps=>(C.1 ps).comp λE=>MR) X Y k g) rfl
def MS{f:Nat}{c:iR}(U:iu P f c){ev:(X:Type)->(aa Pt->aj X)->aj X}(Y:cI ev){k:S->aj X}(h:sx N σ d c (ev X) k=some r):∃ C D,nH σ d C some=some D/\k D=some r/\
  ∀E L (I:(X:Type)->(aa Pt->aj X)->aj X),(∀(X:Type) (k:aa Pt->aj X),I X k=ev X k)->nH E d C some=some L->mF (λX k=>sx (X:=X) N E d c (I X) k) L:=by
 unfold sx at h;cases O:Nat.blt d N with
 |false=>rw[O]at h;cases h
 | true=>
  rw[O,aq]at h;obtain⟨ps,Z,hd⟩:=Y.lX h;obtain⟨C,h3,Tx⟩:=(U.1 ps).lX Z;obtain⟨D,h4,hd3⟩:=MR.lX h3
  refine⟨C,D,hd3 _ _,h4,λE L I ha iU X k=>?_⟩
  obtain⟨τ2,T,hd4⟩:=MR.lX iU;injection T with T;subst T;show sx N E d c (I X) k=_;unfold sx;rw[O,aq,ha,hd X];exact(Tx X _).trans (hd4 X k)
/-! Keys that do not end in certain names. -/
def ot(p:Nat->Bool)(k:aa Nat):Bool:=!iP p k
def tN(p pb:Nat->Bool):nB:=⟨iP p,iP p,pb⟩
def Lf.nr(p:Nat->Bool):Lf->Bool:=Lf.fr (iP p)
def A.nr(p:Nat->Bool):A->Bool:=A.fr (tN p p)
def G5{p:Nat->Bool}{n:Nat}(C:p n=true)(k:aa Nat)(h:cS n k=true):iP p k=true:=by
 unfold iP;rw[show k.getLast?=some n by simpa [cS]using h];exact C
def aa2{p:Nat->Bool}{k:aa Nat}{n:Nat}(h:ot p k=true)(C:p n=true):cS n k=false:=by
 cases hl:cS n k with
 |false=>rfl
 |true=>unfold ot at h;rw[G5 C k hl]at h;cases h
def anl{p:Nat->Bool}{n:Nat}(C:p n=true)(r:Nat)(h:Nat.beq r n=true):p r=true:=by rw[cC h];exact C
def Lf.zj{p:Nat->Bool}{x:Lf}{n:Nat}(h:x.nr p=true)(C:p n=true):x.drop n=x:=Lf.oO (Lf.r6 (G5 C) h)
def qQ.zj{p:Nat->Bool}{xs:aa Lf}{n:Nat}(h:xs.all (Lf.nr p)=true)(C:p n=true):xs.map (Lf.drop n)=xs:=qQ.oO (cu.2 λc D=>Lf.r6 (G5 C) (cu.1 h c D))
def A.Bq{p pb:Nat->Bool}{x:A}{n:Nat}(h:x.fr (tN p pb)=true)(C:p n=true)(hb:pb n=true):x.drop n=x:=A.oO (A.r6 (K:=wC n) (J:=tN p pb) (G5 C) (G5 C) (anl hb) h)
def A.zj{p:Nat->Bool}{x:A}{n:Nat}(h:x.nr p=true)(C:p n=true):x.drop n=x:=A.Bq h C C
def S.ext'{σ C:S}(D:∀ k,σ.t k=C.t k)(E:∀ r,σ.m r=C.m r):σ=C:=by
 cases σ;cases C;simp
 grind
def S.set_set{e d:Nat}(h:e≠d)(v u:A):(σ.set d v).set e u=(σ.set e u).set d v:=by
 refine S.ext' (λk=>?_) λ_=>rfl
 show bV (bV σ.t d v) e u k=bV (bV σ.t e u) d v k;by_cases C:k=e
 ·subst C;rw[cc,cH _ _ _ h,cc]
 ·by_cases D:k=d
  ·subst D;rw[cH _ _ _ C,cc,cc]
  ·rw[cH _ _ _ C,cH _ _ _ D,cH _ _ _ D,cH _ _ _ C]
def S.drop_set(n:Nat){v:A}(C:v.drop n=v):(σ.set d v).drop n=(σ.drop n).set d v:=by
 refine S.ext' (λk=>?_) λ_=>rfl
 show (bV σ.t d v k).drop n=bV (λk=>(σ.t k).drop n) d v k;by_cases h:k=d
 ·subst h;rw[cc,cc,C]
 ·rw[cH _ _ _ h,cH _ _ _ h]
def Ul(v:A):∀ (xs:aa V) (c:Nat) (σ:S),(∀ n,c <= n -> v.drop n=v) -> mG c (σ.set d v) xs=(mG c σ xs).set d v
 |[],c,σ,h=>rfl
 | x :: xs,c,σ,h=>by
  simp[mG];cases D:x.aH with
  | true=>
   exact Ul v xs _ σ (λn C=>h n (by omega))
  | false=>
   rw[S.drop_set c (h c (dx _))];exact Ul v xs _ ((σ.drop c).root c _) (λn C=>h n (by omega))
def Um(v:A):∀ (ps:aa Pt) (c:Nat) (σ:S),(∀ n,c <= n -> v.drop n=v) -> oh c (σ.set d v) ps=(oh c σ ps).set d v
 |[],c,σ,h=>rfl
 | p :: ps,c,σ,h=>by
  simp[oh];rw[Ul v p.2 c σ h];exact Um v ps _ _ (λn C=>h n (by omega))
end
def zk{X:Type}(N:Nat)(σ:S)(d:Nat)(x:A)(k:S->aj X):aj X:=
 match x.yG with
 |some xs=>bif xs.all Lf.live then hD N σ d (.aC (xs.map (Lf.drop d))) (.aG d 0) k else none
 |none=>none
def MT{X:Type}(x:A)(k:A->aj X):aj X:=
 match x with
 |.aG r j=>k (.aG r j)
 |.ptr q=>k (.ptr q)
 |.jd cs=>k (.jd cs)
 |_=>none
section
variable {P:Program} {w w':World} {w0:Wd} {B N:Nat} {ah aD:bE} {ρ ρ':Nat->Loc} {σ:S} {a:Act} {X:Type} {d:Nat} {r:X} {o:Oper}
def anm{e:TypeId}{x:A}{k:S -> aj X}(h:zk N σ d x k=some r):∃ D,k D=some r /\ ∀ ah ρ a w,Rl w0 N ah ρ σ a w -> ∀ u,RA w w0.heap.size ah ρ x u ->
  ∃w' aD ρ' v,(Instr.box e u).run P w = .ok v w'/\Rl w0 N aD ρ' D (a.put (some d) v) w':=by
 unfold zk at h;split at h
 ·rename_i xs T;cases E:xs.all Lf.live with
  |false=>grind
  | true=>
   rw[E,aq]at h;obtain⟨I,h⟩:=oV h
   refine⟨_,h,λah ρ a w hR u U=>?_⟩
   obtain⟨hl,_⟩:=Gk T E U;have Y:(Instr.box e u).run P w = .ok (.pointer (some ⟨w.heap.size,0,none⟩)) (w.alloc (.cells u.cells e)):=by
    simp[Instr.box,newVar,newRow]
   refine⟨_,bV ah w.heap.size (some [d]),bV ρ d (.aC w.heap.size 0),_,Y,(hR.Du (hR.dj d (.inl I)) (λr C=>cH _ _ _ C) ?_).set ⟨w.heap.size,0,cc _ _ _,rfl⟩ I⟩
   have Z:eJ (w.alloc (.cells u.cells e)) w0.heap.size (bV ah w.heap.size (some [d])) ρ xs u.cells:=
    hl.ld (by simp) (λb hb=>⟨Below.heap_alloc w _ b hb,cH _ _ _ (by omega)⟩) (λb k hb=>(hR.cX b k hb).2.1)
   have L:=Z.eX (ρ':=bV ρ d (.aC w.heap.size 0)) (d:=d) (λr C=>cH _ _ _ C)
   refine .aC w.heap.size 0 u.cells e _ (λj=>u.cells.getD j undef) (cc _ _ _) (cc _ _ _) (heap_alloc_new w _) (by rw[L.1];omega) λj y hy=>?_
   obtain⟨v,O,C⟩:=L.2 j y hy;have hg:u.cells.getD j undef=v:=by rw[iq,O];rfl
   rw[hg,eN];exact⟨O,C⟩
 ·cases h
def ann{x:A}{k:S -> aj X}(h:zk N σ d x k=some r):∃ y u,k (((σ.drop d).root d y).set d u)=some r/\(∀ (C:S),mF (λX k=>zk (X:=X) N C d x k) (((C.drop d).root d y).set d u)):=by
 unfold zk at h;split at h
 ·rename_i xs E;cases D:xs.all Lf.live with
  |false=>simp_all
  | true=>
   rw[D]at h;obtain⟨I,_⟩:=DV h
   refine⟨_,_,I,λC X k=>?_⟩
   obtain⟨L,_⟩:=oV h;have hb:Nat.blt d N=true:=iM L;simp[zk,E,D,hD,hb,aq]
 ·cases h
def ano{x:A}{k:A->aj X}(h:MT x k=some r):k x=some r/\∀ u,RA w B ah ρ x u->∃ ad,u = .pointer (some ad):=by
 unfold MT at h;split at h
 ·exact⟨h,λu C=>by obtain⟨b,off,_,rfl⟩:=C;exact⟨_,rfl⟩⟩
 ·exact⟨h,λu C=>by obtain⟨ad,rfl,_⟩:=C;exact⟨_,rfl⟩⟩
 ·exact⟨h,λu C=>by obtain⟨b,off,rfl,_⟩:=C;exact⟨_,rfl⟩⟩
 ·cases h
end
def qb(t:TypeId):Bool:=[999999,999999,50,999999,57,999999,999999,999999,999999,999999,39,999999,999999,999999,999999,999999].any (Nat.beq t)
def w5{X:Type}(P:Program)(N:Nat)(σ:S)(d:Nat)(t:TypeId)(len:Nat)(parts:aa (Nat×Operand))(k:S->aj X):aj X:=
 match uU P t with
 | some (e,C)=>match zeroOf P e with
  | some z=>bif Nat.beq z.cells.size (aF C)&&Nat.blt (len*aF C) 16777217 then (match yO (λi=>some (i*aF C,aF C)) (List.replicate len (z.cells.toList.map od)).flatten (parts.map λp=>(p.1,aK σ p.2))with
   |some cs=>bif Nat.beq len 0 then hD N σ d (.sl (.sl C (full C+2) true [])) (.lf (.own [d])) k else hD N σ d (.aC (cs.map (Lf.drop d))) (.pk d len) k
   |none=>none)else none
  |none=>none
 |none=>none
def Br{X:Type}(N:Nat)(σ:S)(d r D:Nat)(C:TC)(n:Nat)(k:S->aj X):aj X:=
 match σ.m D,σ.m r with
 | some (.aC cs),some (.sl (.sl E (o+2) q l))=>if h:E=C then (match gZ r (λj=>(j % aF C) :: (l.length+j / aF C) :: aF C :: [r]) cs.length 0 cs σ with
  | some (I,L)=>(match Gz C o n I with
   |some l2=>bif Nat.blt d N&&bD (l.length+l2.length)then k (((L.drop r).root r (.sl (.sl C (o+2) false ((h ▸ l)++l2)))).set d (.lf (.own [r])))else none
   |none=>none)
  |none=>none)else none
 |_,_=>none
def G6{X:Type}(P:Program)(N:Nat)(σ:S)(d:Nat)(t:TypeId)(x y:A)(k:S->aj X):aj X:=
 match uU P t,y with
 | some (e,C),.pk D n=>bif (zeroOf P e).any (λz=>Nat.beq z.cells.size (aF C))&&(Nat.blt d N&&Nat.blt n qP)then (match x with
  |.lf (.v .nil)=>Br N ((σ.drop d).root d (.sl (.sl C (full C+2) false []))) d d D C n k
  |.lf (.own [r])=>bif Nat.blt r N ||Nat.ble 60000 r then Br N σ d r D C n k else none
  |_=>none)else none
 |_,_=>none
def tO{X:Type}(P:Program)(σ:S)(t:TypeId)(x y:A)(k:S->aj X):aj X:=
 match jo P t,y.yG,x with
 | some n,some xs,.ptr [j,i,s,r]=>if xs.length=n then (bif xs.all Lf.live then (match gZ r (λm=>(j+m) :: i :: s :: [r]) xs.length 0 xs σ with
  | some (E,D)=>(match D.m r with
   | some (.sl (.sl C (o+2) I l))=>if s=aF C then (if h:i<l.length then (if j+n<=aF C then (match dec C o (splice (enc C o l[i]) j E)with
    |some e=>k (D.dh [r] [] [(r,.sl (.sl C (o+2) I (l.set i e)))])
    |none=>none)else none)else none)else none
   |_=>none)
  |none=>none)else none)else none
 |_,_,_=>none
def w6(x y:A):Bool:=match x,y.yG with
 |.ptr _,some xs=>(qT xs).isNone
 |_,_=>false
section
variable {P:Program} {w w':World} {w0:Wd} {B N:Nat} {ah aD:bE} {ρ ρ':Nat->Loc} {σ:S} {a:Act} {X:Type} {d:Nat} {r:X} {o:Oper}
def aa3{place:Nat -> aj (Nat×Nat)}:∀ (parts:aa (Nat×A)) (cells out:aa Lf),yO place cells parts=some out -> out.length=cells.length
 |[],cells,out,h=>by injection h with h;rw[h]
 | (i,x) :: rest,cells,out,h=>by
  unfold yO at h;split at h
  ·rename_i off n xs C D;split at h
   ·rename_i E;cases hl:xs.all _ with
    | true=>
     rw[hl]at h;rw[aa3 rest _ _ h,th _ _ _ (by omega)]
    |false=>simp_all
   ·cases h
  ·cases h
def anp{t:TypeId}{len:Nat}{parts:Array (Nat×Operand)}{k:S -> aj X}(h:w5 P N σ d t len parts.toList k=some r):∃ c8,k c8=some r /\ ∀ ah ρ a w,Rl w0 N ah ρ σ a w ->
  ∃w' aD ρ' v,(Instr.buildSlice t len (parts.map λ(i,x)=>(i,a.eval x))).run P w = .ok v w'/\Rl w0 N aD ρ' c8 (a.put (some d) v) w':=by
 unfold w5 at h;split at h
 ·rename_i e D oW;obtain⟨gi,ht,i,hi,T,jU⟩:=yM oW;split at h
  ·rename_i z hz;cases U:(Nat.beq z.cells.size (aF D)&&Nat.blt (len*aF D) 16777217)with
   |false=>rw[U]at h;cases h
   | true=>
    rw[U,aq]at h;rw[aO]at U;have ni:=cC U.1;have hsm:len*aF D<16777217:=by have:=cK U.2;omega
    have oX:i.zero=some z:=by unfold zeroOf at hz;simpa [hi]using hz
    split at h
    ·rename_i cs jq;have key:∀ ah ρ (a:Act) w,Rl w0 N ah ρ σ a w -> ∃ C,(Instr.buildSlice t len (parts.map λ(i,x)=>(i,a.eval x))).run P w = .ok (.slice (some ⟨w.heap.size,0,none⟩) len len) (w.alloc (.cells C e))/\eJ w w0.heap.size ah ρ cs C/\C.size=cs.length:=λah ρ a w hR=>by
      have Te:eJ w w0.heap.size ah ρ (List.replicate len (z.cells.toList.map od)).flatten (madeCells z.cells (len*aF D)):=by
       have e1:(List.replicate len (z.cells.toList.map od)).flatten=((List.replicate len z.cells.toList).flatten).map od:=by
        rw[List.map_flatten,List.map_replicate]
       rw[e1,<- aaf z.cells (aF D) len ni (oN D)]
       refine⟨by simp,λj x E=>?_⟩
       rw[eH]at E;cases O:(madeCells z.cells (len*aF D)).toList[j]? with
       |none=>rw[O]at E;cases E
       | some v=>
        rw[O]at E;injection E with E;subst E;exact⟨v,by simpa using O,Mm v⟩
      obtain⟨C,wQ,hl⟩:=Mr (w:=w) (B:=w0.heap.size) (ah:=ah) (ρ:=ρ) _ _ _ (parts.toList.map λp=>(p.1,a.eval p.2)) cs jq Te (by simp) (λj p q I Y=>by
       rw[eH]at I Y;cases E:parts.toList[j]? with
       |none=>rw[E]at I;cases I
       | some x=>
        rw[E]at I Y;injection I with I;injection Y with Y;subst I Y;exact⟨rfl,hR.aK x.2⟩)
      have Z:(Instr.buildSlice t len (parts.map λ(i,x)=>(i,a.eval x))).run P w = .ok (.slice (some ⟨w.heap.size,0,none⟩) len len) (w.alloc (.cells C e)):=by
       have GA:(parts.map λ(i,x)=>(i,a.eval x)).toList=parts.toList.map λp=>(p.1,a.eval p.2):=by simp
       by_cases h0:len*aF D=0
       ·have hm:madeCells z.cells (len*aF D) = #[]:=by rw[h0];simp[madeCells]
        rw[hm]at wQ;have Tf:len*i.size=0:=by rw[T];exact h0
        rw[<- T]at wQ;have e0:∀f:Nat -> Value,Array.map f (Array.range 0) = #[]:=λf=>by simp
        simp only[Instr.buildSlice,gd,gL gi,sizeOf,typeInfo];simp[hi,Tf];rw[e0,wQ];simp[newRow]
       ·exact run_buildSlice (P:=P) w t e len _ C i z gi hi oX (by rw[T];omega) (by rw[T];exact h0) (by rw[T,GA];exact wQ)
      exact⟨C,Z,hl,hl.1⟩
     cases oc:Nat.beq len 0 with
     | true=>
      rw[oc,aq]at h;have hln:=cC oc;subst hln;obtain⟨hd,h⟩:=oV h
      refine⟨_,h,λah ρ a w hR=>?_⟩
      obtain⟨C,Z,hl,hcz⟩:=key ah ρ a w hR;have tF:cs.length=0:=by
       have h1:=aa3 _ _ _ jq;rw[h1];simp
      refine⟨_,bV ah w.heap.size (some [d]),bV ρ d (.dJ (.slice (some ⟨w.heap.size,0,none⟩) 0 0)),_,Z,(hR.Du (hR.dj d (.inl hd)) (λr L=>cH _ _ _ L) (.sl _ _ (cc _ _ _) ?_)).set ⟨rfl,by simp[cW,cc]⟩ hd⟩
      exact RV.own (w:=w.alloc (.cells C e)) (B:=w0.heap.size) (ah:=bV ah w.heap.size (some [d])) [d] D (full D) true [] w.heap.size 0 C (λ_ _=>undef)
       (cc _ _ _) (by rw[ht];exact heap_alloc_new w _) (by omega) (dx _) ⟨by unfold maxLen;omega,λ_=>rfl⟩ (λi' h'=>absurd h' (by simp)) (λi' h'=>absurd h' (by simp))
     |false=>
     rw[oc,au]at h;obtain⟨hd,h⟩:=oV h
     refine⟨_,h,λah ρ a w hR=>?_⟩
     obtain⟨C,Z,hl,_⟩:=key ah ρ a w hR
     refine⟨_,bV ah w.heap.size (some [d]),bV ρ d (.aC w.heap.size 0),_,Z,(hR.Du (hR.dj d (.inl hd)) (λr L=>cH _ _ _ L) ?_).set ⟨w.heap.size,cc _ _ _,(SL (by have:=Nat.le_mul_of_pos_right len (oN D);unfold qP;omega)).symm⟩ hd⟩
     have h1:eJ (w.alloc (.cells C e)) w0.heap.size (bV ah w.heap.size (some [d])) ρ cs C:=
      hl.ld (by simp) (λb hb=>⟨Below.heap_alloc w _ b hb,cH _ _ _ (by omega)⟩) (λb k hb=>(hR.cX b k hb).2.1)
     have h2:=h1.eX (ρ':=bV ρ d (.aC w.heap.size 0)) (d:=d) (λr L=>cH _ _ _ L)
     refine .aC w.heap.size 0 C e _ (λj=>C.getD j undef) (cc _ _ _) (cc _ _ _) (heap_alloc_new w _) (by rw[h2.1];omega) λj y hy=>?_
     obtain⟨v,O,L⟩:=h2.2 j y hy;have hg:C.getD j undef=v:=by rw[iq,O];rfl
     rw[hg,eN];exact⟨O,L⟩
    ·cases h
  ·cases h
 ·cases h
def anq{t:TypeId}{len:Nat}{parts:aa (Nat×Operand)}{k:S -> aj X}(h:w5 P N σ d t len parts k=some r):∃ y u,k (((σ.drop d).root d y).set d u)=some r /\
  (∀(C:S),(∀p∈parts,aK C p.2=aK σ p.2) -> mF (λX k=>w5 (X:=X) P N C d t len parts k) (((C.drop d).root d y).set d u)):=by
 unfold w5 at h;split at h
 ·rename_i e tc Y;split at h
  ·rename_i z Z;cases D:(Nat.beq _ _&&Nat.blt _ 16777217)with
   |false=>rw[D]at h;cases h
   | true=>
    rw[D]at h;split at h
    ·rename_i cs jq;cases E:Nat.beq len 0 with
     | true=>
      rw[E,aq]at h;obtain⟨I,_⟩:=DV h
      refine⟨_,_,I,λC L X k=>?_⟩
      obtain⟨O,_⟩:=oV h;have T:Nat.blt d N=true:=iM O;have e:(parts.map λp=>(p.1,aK C p.2))=parts.map λp=>(p.1,aK σ p.2):=List.map_congr_left λp U=>by rw[L p U]
      simp only[w5,Y,Z,D,aq,e,jq,hD,T,E]
     | false=>
      rw[E,au]at h;obtain⟨I,_⟩:=DV h
      refine⟨_,_,I,λC L X k=>?_⟩
      obtain⟨O,_⟩:=oV h;have T:Nat.blt d N=true:=iM O;have e:(parts.map λp=>(p.1,aK C p.2))=parts.map λp=>(p.1,aK σ p.2):=List.map_congr_left λp U=>by rw[L p U]
      simp only[w5,Y,Z,D,aq,e,jq,hD,T,E,au]
    ·cases h
  ·cases h
 ·cases h
def aa4{t e ty:TypeId}{U:TC}{i:TypeInfo}{z:Value}{rr ry n:Nat}{k:S -> aj X}(gi:P.underlying t=some (.slice e))(ht:tid U=e)(hi:P.info? e=some i)(hz:i.zero=some z)
  (iA:i.size=aF U) (jU:i.bytes <= 65536) (ni:z.cells.size=aF U) (h:Br N σ d rr ry U n k=some r):∃c8,k c8=some r /\ ∀ah ρ a w,Rl w0 N ah ρ σ a w -> w0.F rr=none -> ∀u v b,ρ rr = .dJ u -> ρ ry = .aC b 0 -> v = .slice (some ⟨b,0,none⟩) n n ->
  ∃w' aD ρ' z,(Builtin.append_ #[t,t] ty #[u,v]).run P w = .ok z w'/\Rl w0 N aD ρ' c8 (a.put (some d) z) w':=by
 unfold Br at h;split at h
 ·rename_i cs E o q l Un hr;split at h
  ·rename_i nE;subst nE;split at h
   ·rename_i vs τ Uo;split at h
    ·rename_i l2 lA;cases T:(Nat.blt d N&&bD (l.length+l2.length))with
     |false=>rw[T]at h;cases h
     | true=>
      rw[T,aq]at h;rw[aO]at T;have Gu:l.length+l2.length<1073741824:=by simpa [bD]using T.2
      have hd:d<N:=by have:=cK T.1;omega
      refine⟨_,h,λah ρ a w hR hF u v b anr ans L=>?_⟩
      subst L;have Y:=hR.root ry _ Un;generalize C:aW.aC cs=x at Y;cases Y with
      |sl=>cases C
      |mp=>cases C
      |gh=>cases C
      | aC b' off cells e' eT us cN pX hh hs hc=>
       injection C with C;subst C;rw[ans]at cN;injection cN with e1 e2;subst e1 e2;have mE:eJ w w0.heap.size ah ρ cs ((List.range cs.length).map us).toArray:=by
        refine⟨by simp,λj x I=>?_⟩
        have D:j<cs.length:=(dO.1 I).1;exact⟨us j,by simp[D],(hc j x I).2⟩
       obtain⟨aD,dV,A7,MU,_,qW,lz,_,_⟩:=Mi (w0:=w0) (N:=N) (λj=>by simp[cS]) _ _ _ _ _ _ Uo ah ρ a w hR _ mE;obtain⟨Mv,ant,iG⟩:=Td E o n vs l2 lA;have wO:cs.length=n*aF E:=by rw[<- A7,ant]
       have oY:∀ j,j<cs.length -> (us j).oneCell'=true:=by
        intro j D;have I:=bQ (by rw[A7];exact D);obtain⟨u',uT,O⟩:=MU j _ I;have:u'=us j:=by simpa [D]using uT.symm
        rw[<- this];exact O.one
       have Up:b<w.heap.size:=(iB.1 hh).1;have wM:Reads w w.heap.size (aF E) (some ⟨b,0,none⟩) n ((List.range cs.length).map us):=by
        refine⟨by simp[wO],λhn=>⟨b,0,rfl,Up,λj v L=>?_⟩⟩
        have D:j<cs.length:=by have:=(dO.1 L).1;simpa using this
        have:v=us j:=by simpa [D]using L.symm
        subst this;rw[cell_of_row w b _ cells _ _ hh];simp_all
       have gI:tw w w0.heap.size aD rr l.length E o l2 ((List.range cs.length).map us):=by
        intro Z G4 j x I;have D:j<aF E:=by have:=(dO.1 I).1;rwa [kL]at this
        obtain⟨y,Y,hw⟩:=iG Z G4 j x I;obtain⟨u',uT,O⟩:=MU _ _ Y;refine⟨u',uT,?_⟩;have e1:(0+(Z*aF E+j)) % aF E=j:=by rw[eN,Nat.add_comm,Nat.add_mul_mod_self_right,Nat.mod_eq_of_lt D]
        have e2:(0+(Z*aF E+j)) / aF E=Z:=by rw[eN,Nat.add_comm,Nat.add_mul_div_right _ _ (oN E),Nat.div_eq_of_lt D,eN]
        simp only[e1,e2]at O;exact O.wk hw
       have Bt:=dV.root rr _ (qW _ hr);generalize C:aW.sl (.sl E (o+2) q l)=x at Bt;cases Bt with
       |aC=>cases C
       |mp=>cases C
       |gh=>cases C
       | sl uu y iQ O=>
        injection C with C;subst C;rw[anr]at iQ;injection iQ with iQ;subst iQ;obtain⟨v',w',dA,eO,lD,gf⟩:=dV.al5 (ty:=ty) (c:=n) hF gi ht hi hz iA jU ni O wM (λv L=>by
         obtain⟨j,D⟩:=List.mem_iff_getElem?.1 L;have Gy:j<cs.length:=by have:=(dO.1 D).1;simpa using this
         have:v=us j:=by simpa [Gy]using D.symm
         rw[this];exact oY j Gy) Mv.symm gI Gu
        exact⟨w',dA,_,v',eO,lD.set ⟨gf,by simp[cW,cc]⟩ hd⟩
    ·cases h
   ·cases h
  ·cases h
 ·cases h
def anu{rr C n:Nat}{D:TC}:cI λX k=>Br (X:=X) N σ d rr C D n k:=λX Y k g=>by
 unfold Br
 repeat' first|rfl|refine de ?_ ?_|split
def anv{t ty:TypeId}{x y:A}{k:S -> aj X}(h:G6 P N σ d t x y k=some r):∃ C,k C=some r /\ ∀ ah ρ a w,Rl w0 N ah ρ σ a w -> ∀ u v,RA w w0.heap.size ah ρ x u -> RA w w0.heap.size ah ρ y v ->
  ∃w' aD ρ' z,(Builtin.append_ #[t,t] ty #[u,v]).run P w = .ok z w'/\Rl w0 N aD ρ' C (a.put (some d) z) w':=by
 unfold G6 at h;split at h
 ·rename_i e L ry n oW;obtain⟨gi,ht,i,hi,iA,jU⟩:=yM oW;cases E:((zeroOf P e).any (λz=>Nat.beq z.cells.size (aF L))&&(Nat.blt d N&&Nat.blt n qP))with
  |false=>simp_all
  | true=>
   rw[E,aq]at h;rw[aO]at E;obtain⟨z,hz,I⟩:=(Option.any_eq_true _ _).1 E.1;have I:=cC I;have oX:i.zero=some z:=by unfold zeroOf at hz;simpa [hi]using hz
   have O:=E.2;rw[aO]at O;have hd:d<N:=by have:=cK O.1;omega
   have l6:n<qP:=by have:=cK O.2;omega
   split at h
   ·obtain⟨C,T,U⟩:=aa4 (w0:=w0) (ty:=ty) gi ht hi oX iA jU I h
    refine⟨C,T,λah ρ a w hR u v D Y=>?_⟩
    have D:u = .slice none 0 0:=by cases D.2;rfl
    subst D;obtain⟨b,hb,rfl⟩:=Y;have Un:ry≠d:=by
     rintro rfl;unfold Br at h;split at h
     ·simp_all
     ·cases h
    have hR0:=hR.new (d:=d) (x:=.sl (.sl L (full L+2) false [])) (.dJ (.slice none 0 0)) (.sl _ _ (cc _ _ _) (.eD _ _ _)) (hR.dj d (.inl hd));exact U _ _ a w hR0 (hR.dj d (.inl hd)) _ _ b (cc _ _ _) ((cH _ _ _ Un).trans hb) (SL l6)
   ·rename_i rr;cases Z:(Nat.blt rr N || Nat.ble 60000 rr)with
    |false=>simp_all
    | true=>
     rw[Z,aq]at h;rw[eA]at Z;have qW:rr<N \/ 60000 <= rr:=Z.imp (λh=>by have:=cK h;omega) (λh=>cK h);obtain⟨C,T,U⟩:=aa4 (w0:=w0) (ty:=ty) gi ht hi oX iA jU I h
     refine⟨C,T,λah ρ a w hR u v D Y=>?_⟩
     obtain⟨b,hb,rfl⟩:=Y;have cN:ρ rr = .dJ u:=by
      have h4:=D.2;simp only[cW]at h4;cases hl:ρ rr with
      |aC b o=>simp_all
      |bS us=>simp_all
      |dJ v=>simp_all
     exact U ah ρ a w hR (hR.dj rr qW) _ _ b cN hb (SL l6)
   ·cases h
 ·cases h
def anw{t:TypeId}{x y:A}:cI λX k=>G6 (X:=X) P N σ d t x y k:=λX Y k g=>by
 unfold G6
 repeat' first|rfl|exact anu _ _ _ _|refine de ?_ ?_|split
def anx{t:TypeId}{x y:A}{k:S -> aj X}(h:tO P σ t x y k=some r):∃ c8,k c8=some r /\ ∀ ah ρ a w,Rl w0 N ah ρ σ a w -> ∀ u v,RA w w0.heap.size ah ρ x u -> RA w w0.heap.size ah ρ y v ->
  ∃w' aD,(Instr.storeAt t u v).run P w = .ok () w'/\Rl w0 N aD ρ c8 a w':=by
 unfold tO at h;split at h
 ·rename_i n xs j i s rr hn oU;split at h
  ·rename_i hlen;cases Uq:xs.all Lf.live with
   |false=>rw[Uq]at h;cases h
   | true=>
    rw[Uq,aq]at h;split at h
    ·rename_i vs τ Uo;split at h
     ·rename_i C o' qn l iU;split at h
      ·rename_i oS;split at h
       ·rename_i hi;split at h
        ·rename_i hj;split at h
         ·rename_i e he
          refine⟨_,h,λah ρ a w hR u v hu hv=>?_⟩
          obtain⟨ad,rfl,I⟩:=hu;obtain⟨hl,oY⟩:=Gk oU Uq hv;have mE:eJ w w0.heap.size ah ρ xs v.cells.toList.toArray:=by simpa using hl
          obtain⟨aD,dV,A7,MU,_,qW,lz,aCK,_⟩:=Mi (w0:=w0) (N:=N) (λm=>by simp[cS]) _ _ _ _ _ _ Uo ah ρ a w hR _ mE;simp only[addrAt]at I;split at I
          ·rename_i b n0 c0 cN;split at I
           ·rename_i pX;injection I with I;subst I;have Bt:=dV.root rr _ iU;generalize D:aW.sl (.sl C (o'+2) qn l)=x at Bt;cases Bt with
            |aC=>cases D
            |mp=>cases D
            |gh=>cases D
            | sl uu y iQ fG=>
             injection D with D;subst D;rw[cN]at iQ;injection iQ with iQ;subst iQ;cases fG with
             |aH _ _ _ _ _ _ _ _ _ ho=>omega
             |fF=>simp at hi
             |fV=>simp at hi
             | own _ _ _ _ _ _ cap cs us MV hh hs yE hm hc hr=>
              subst oS;have Ur:v.cells.size=n:=by rw[hl.1,hlen]
              have A3:i*aF C+aF C <= c0*aF C:=by
               have:(i+1)*aF C <= c0*aF C:=iL _ (by omega);rw[iC]at this;exact this
              have lW:i*aF C+j+v.cells.toList.length <= cs.size:=by rw[lR,Ur,hs];omega
              have O:=Ma w b (i*aF C+j) v.cells.toList;obtain⟨Y,gI,nD⟩:=F5 b (tid C) v.cells.toList (i*aF C+j) w cs hh lW;have tq:∀ m,Y[m]?=if m<i*aF C+j then cs[m]? else if m<i*aF C+j+n then v.cells[m-(i*aF C+j)]? else cs[m]?:=by
               intro m;have e2:Y[m]?=(splice cs.toList (i*aF C+j) v.cells.toList)[m]?:=by
                rw[show Y[m]?=Y.toList[m]? by simp,nD];rfl
               rw[e2,wD _ _ _ (by simpa using lW),lR,Ur];simp
              have Gf:Y.size=cs.size:=by
               rw[<- lR,nD];have:=th cs.toList (i*aF C+j) v.cells.toList (by simpa using lW);simp only[splice]at this;simp_all
              have Up:b<w.heap.size:=(iB.1 hh).1;have hz:w.heap.size <= (w.setCells b (i*aF C+j) v.cells.toList).heap.size:=Nat.le_of_eq O.size.symm;have Us:∀E,E<w.heap.size -> aD E≠some [rr] -> (w.setCells b (i*aF C+j) v.cells.toList).heap[E]?=w.heap[E]?:=λE _ cL=>O.block E (by rintro rfl;exact cL MV)
              have Gl:w.there b (i*aF C+j) v.cells.size:=by
               intro m sn;refine⟨?_,frozen_of_row w b _ cs _ hh⟩;rw[cell_of_row w b _ cs _ _ hh];simp;omega
              have lZ:vs.length=n:=by rw[A7,hlen]
              refine⟨_,aD,SW w b _ t v Gl (by rw[Ur];exact hn) oY,dV.tJ (ns:=[rr]) (cn:=[]) (eY:=ρ) (dA:=aD) ⟨hz,λE Bc T=>⟨O.block E ?_,rfl⟩,λ_ _=>rfl,λE k T=>(dV.cX E k T).2⟩
               ⟨O.os,O.tape,O.output,hz,λk T hL=>O.block k ?_⟩ (λE k T=>?_) (λr hr=>by cases hr) (λr0 x D=>?_)⟩
              ·rintro rfl;have:=T _ MV;simp[fW,cY]at this
              ·rintro rfl;rcases(dV.cX k _ MV).1 with h1 | h1
               ·exact absurd T (Nat.not_lt.2 h1)
               ·exact h1 hL
              ·have:=dV.cX E k T;exact⟨this.1,Nat.lt_of_lt_of_le this.2.1 hz,this.2.2⟩
              ·have iH:r0=rr/\x = .sl (.sl C (o'+2) qn (l.set i e)):=by
                simp only[List.lookup]at D;split at D
                next Bc=>injection D with D;exact⟨by simpa using Bc,D.symm⟩
                ·cases D
               obtain⟨rfl,rfl⟩:=iH;refine .sl _ _ cN ?_
               refine RV.Mb (u:=us) (us:=λ_ m=>v.cells.getD (m-j) undef) (cs:=cs) (xs:=vs) MV gI (Gf.trans hs) yE hm hi (by rw[lZ];exact hj) he (λL h' Z x U Mc=>?_) (λm x U=>?_)
               ·have r7:Z<aF C:=by have:=(dO.1 U).1;rwa [kL]at this
                refine⟨?_,(hr L h' Z x U).under (n:=r0) (.inl (by simp)) hz Us (λ_ _=>rfl)⟩
                rw[tq];have A4:¬ (¬ L*aF C+Z<i*aF C+j/\L*aF C+Z<i*aF C+j+n):=by
                 rintro⟨h1,h2⟩;rcases Nat.lt_trichotomy L i with dU|heq|Dk
                 ·have:(L+1)*aF C <= i*aF C:=iL _ dU;rw[iC]at this;omega
                 ·subst heq;exact Mc ⟨rfl,by omega,by omega⟩
                 ·have:(i+1)*aF C <= L*aF C:=iL _ Dk;rw[iC]at this;omega
                split
                ·exact hc L h' Z x U
                ·rw[bJ];exact hc L h' Z x U
               ·obtain⟨v0,wN,A5⟩:=MU m x U;have sn:m<n:=by rw[<- lZ];exact(dO.1 U).1
                have Mp:v.cells[m]?=some v0:=by simpa using wN
                have Dl:v.cells.getD (j+m-j) undef=v0:=by rw[show j+m-j=m by omega,iq,Mp];rfl
                show Y[_]?=some (v.cells.getD (j+m-j) undef)/\RV _ _ _ _ _ (v.cells.getD (j+m-j) undef);rw[Dl,tq,bJ,bH];rw[eN]at A5
                refine⟨?_,A5.under (n:=r0) (.inl (by simp)) hz Us (λ_ _=>rfl)⟩
                rw[show i*aF C+(j+m)-(i*aF C+j)=m by omega];exact Mp
           ·cases I
          ·cases I
         ·cases h
        ·cases h
       ·cases h
      ·cases h
     ·cases h
    ·cases h
  ·cases h
 ·cases h
def anz{t:TypeId}{x y:A}:cI λX k=>tO (X:=X) P σ t x y k:=λX Y k g=>by
 unfold tO
 repeat' first|rfl|refine de ?_ ?_|split
end
def MW(P:Program)(f:Nat)(F:aa Int->aj Int):Prop:=
 ∀ (w:World) (l:aa (T .u8)) (h:Int) (v:Value),F l=some h->RV w w.heap.size (λ_=>none) [] (.sl .u8 0 false l) v->Hd w (λ_=>none)->Calls P f #[v] w λe w'=>
  ∃b off cells t,e = .returned (.pointer (some ⟨b,off,none⟩))/\Below w.heap.size w w'/\w.heap.size<=b/\w'.heap[b]?=some (.cells cells t (0,0))/\cells[off]?=some v/\cells[off+1]?=some (.int .i64 0)/\cells[off+2]?=some (.int .i64 h)
def G7{X:Type}(N:Nat)(σ:S)(d:Nat)(F:aa Int->aj Int)(x:A)(k:S->aj X):aj X:=
 match x with
 | .lf (.v (.sl .u8 0 q l))=>bif Nat.blt d N then (match F l with
  |some h=>k (((σ.drop (1000000000100000+1000*d)).root (1000000000100000+1000*d) (.aC [.v (.sl .u8 0 q l),.v (.int .i64 0),.v (.int .i64 h)])).set d (.aG (1000000000100000+1000*d) 0))
  |none=>none)else none
 |_=>none
structure Bu where
 a:Nat
 j:Nat
 t:TC
 run:List Pt->Option (Nat×Nat)
def tP(bS:Array Value)(a j:Nat):aj Value:=match bS[a]? with
 |some (.agg us)=>us[j]?
 |some u=>bif Nat.beq j 0 then some u else none
 |none=>none
def MX(P:Program)(f:Nat)(c:Bu):Prop:=
 ∀ (args:aa Pt) (p:Nat×Nat),c.run args=some p->∀ (w:World) (bS:Array Value),o7 w args bS->Hd w (λ_=>none)->Calls P f bS w λe w'=>
  ∃A n cap,tP bS c.a c.j=some (.slice A n cap)/\p.1<=p.2/\p.2<=n/\e = .returned (sliced A p.1 p.2 cap (aF c.t))/\Below w.heap.size w w'
def aa5(σ:S)(args:aa Operand)(a j:Nat):aj Lf:=match args[a]? with
 | some x=>(match aK σ x with
  |.agg cs=>cs[j]?
  |.lf l=>bif Nat.beq j 0 then some l else none
  |_=>none)
 |none=>none
def G8{X:Type}(N:Nat)(σ:S)(d:Nat)(c:Bu)(args:aa Operand)(k:S->aj X):aj X:=
 bif Nat.blt d N then su σ args λps=>(match c.run ps with
  | some p=>(match aa5 σ args c.a c.j with
   |some (.v (.sl t g _ l))=>if t=c.t then (bif Nat.blt g 2&&Nat.ble p.1 p.2&&Nat.ble p.2 l.length then k (σ.set d (.lf (.v (.sl t g false ((l.take p.2).drop p.1)))))else none)else none
   |_=>none)
  |none=>none)else none
structure tQ where
 run:(X:Type)->Nat->S->List A->(S->A->Option X)->Option X
def DX{α β:Type}(f:(X:Type)->(α->β->aj X)->aj X):Prop:=∀(X Y:Type) (k:α->β->aj X) (g:X->aj Y),(f X k).bind g=f Y λa b=>(k a b).bind g
def DX.lX{α β:Type}{f:(X:Type)->(α->β->aj X)->aj X}(n:DX f){X:Type}{k:α->β->aj X}{r:X}(h:f X k=some r):∃ a b,k a b=some r/\∀ (X:Type) (k:α->β->aj X),f X k=k a b:=by
 obtain⟨⟨a,b⟩,C,D⟩:=cI.lX (f:=λX (k:α×β->aj X)=>f X λa b=>k (a,b)) (λX Y k g=>n X Y _ g) (k:=λp=>k p.1 p.2) h;exact⟨a,b,C,λX k=>D X λp=>k p.1 p.2⟩
def rm(P:Program)(f:Nat)(c:tQ):Prop:=(∀ N σ xs,DX λX k=>c.run X N σ xs k)/\
 ∀ [Inhabited Wd] (N:Nat) (σ:S) (xs:aa A) (C:S) (y:A),c.run (S×A) N σ xs (λσ y=>some (σ,y))=some (C,y)->
  ∀ (w0:Wd) (ah:bE) (ρ:Nat->Loc) (a:Act) (w:World) (bS:Array Value),Rl w0 N ah ρ σ a w->bS.size=xs.length->(∀ i,RA w w0.heap.size ah ρ ((xs[i]?).getD .undef) (bS.getD i undef))->
   Calls P f bS w λe w'=>∃v aD ρ',e = .returned v/\Rl w0 N aD ρ' C a w'/\RA w' w0.heap.size aD ρ' y v
inductive qc where
 |p (c:iR)
 |m (c:nK)
 |n (F:List Int->Option Int)
 |v (c:Bu)
 |i (c:tQ)
 |d (c:nK)
 |q (c:iR)
 |c (c:nK)
def Ut(P:Program)(f:Nat):qc->Prop
 |.p c=>iu P f c
 |.m c=>va P f c
 |.n F=>MW P f F
 |.v c=>MX P f c
 |.i c=>rm P f c
 |.d c=>va P f c
 |.q c=>iu P f c
 |.c c=>va P f c
section
variable {P:Program} {w w':World} {w0:Wd} {B N:Nat} {ah dA aD:bE} {ρ eY ρ':Nat->Loc} {σ:S} {a:Act} {X:Type} {d:Nat} {r:X} {ns cn:aa Nat} {o:Oper}
def aa6:∀ (xs:aa Lf),cI λX k=>sA (X:=X) σ ns xs k
 |[]=>λ_ _ _ _=>rfl
 |x::xs=>λX Y k g=>de ((DT.comp λy=>(aa6 xs).comp (b:=λX k ys=>k (y.gp::ys)) λ_ _ _ _ _=>rfl) X Y k g) rfl
def aa7{x:A}:cI λX k=>rj (X:=X) σ ns x k:=λX Y k g=>by
 unfold rj
 repeat' first|rfl|exact aa6 _ _ _ _ _|refine de ?_ ?_|split
def MY:∀ (ps:aa PK) (xs:aa Operand) (C:aa Mu),cI λX k=>js (X:=X) σ ns ps xs C k:=λps=>by
 induction ps with
 |nil=>intro xs C X Y k g;cases xs<;>cases C<;>rfl
 | cons p ps D=>
  intro xs C X Y k g;cases xs with
  |nil=>cases p<;>cases C<;>rfl
  | cons x xs=>
   cases p with
   | v b t=>
    refine(aa7 _ _ _ _).trans (bq _ (funext λp=>de ?_ rfl))
    split
    ·exact D _ _ _ _ _ _
    ·rfl
   | p t E o=>
    cases C with
    |nil=>rfl
    | cons m C=>cases m with
     |sl=>rfl
     | aC=>
      simp only[js];split
      ·exact D _ _ _ _ _ _
      ·rfl
   | s t E=>
    cases C with
    |nil=>rfl
    | cons m C=>cases m with
     |aC=>rfl
     | sl=>
      simp only[js];split
      ·exact D _ _ _ _ _ _
      ·rfl
def anA{C:aj Tmp}{D:fZ}:cI λX k=>p7 (X:=X) N σ C D k:=λX Y k g=>by
 unfold p7
 repeat' first|rfl|exact MR _ _ _ _|refine de ?_ ?_|split
def Uu{C:aj Tmp}{c:nK}{args:aa Operand}:cI λX k=>oq (X:=X) N σ C c args k:=λX Y k g=>by
 unfold oq;split
 ·refine de ((MY _ _ _ _ _ _ _).trans (bq _ (funext λx=>?_))) rfl
  split
  ·exact de (anA _ _ _ _) rfl
  ·rfl
 ·rfl
def anB{F:aa Int->aj Int}{x:A}:cI λX k=>G7 (X:=X) N σ d F x k:=λX Y k g=>by
 unfold G7
 repeat' first|rfl|refine de ?_ ?_|split
def anC{f:Nat}{x:Operand}{args:Array Operand}{T:Array TypeId}{F:aa Int -> aj Int}{k:S -> aj X}(ho:o.op = .call { callee:=.value (.func f),args,argTypes:=T })(hx:args.toList=[x])(hd:o.dst=some d)(he:enters P f)(hc:MW P f F)(h:G7 N σ d F (aK σ x) k=some r):
  ∃U,k U=some r/\lu P w0 N o σ U:=by
 unfold G7 at h;split at h
 ·rename_i q l hq;cases E:Nat.blt d N with
  |false=>rw[E]at h;cases h
  | true=>
   rw[E,aq]at h;have DI:d<N:=cK E;split at h
   ·rename_i Y hhz
    refine⟨_,h,λa w K Q hR hK=>?_⟩
    obtain⟨ah,ρ,hR⟩:=hR;have I:=hR.aK x;rw[hq]at I;have wN:RV w w.heap.size (λ_=>none) [] (.sl .u8 0 false l) (a.eval x):=by
     have Z:RV w w.heap.size (λ_=>none) [] (.sl .u8 0 q l) (a.eval x):=I.2.gp;cases q with
     |false=>exact Z
     |true=>exact Z.wk (.q _ _ _)
    unfold Oper.wp;rw[MA w o a f args T ho he,Oper.upon_enter];have wT:(args.map a.eval) = #[a.eval x]:=by apply Array.ext';rw[Array.toList_map,hx];rfl
    rw[wT]
    refine(hc w l _ _ hhz wN (w0.on hR.below (λ_ _ h=>by cases h))).mono λe w' q5=>?_
    obtain⟨b,off,cells,t,rfl,L,hb,hh,tF,Uv,nD⟩:=q5;have hB:=hR.below.size;have lC:b<w'.heap.size:=(iB.1 hh).1;have sC:Rl w0 N (bV ah b (some [1000000000100000+1000*d])) ρ σ a w':=by
     refine hR.grow L (λc O=>cH _ _ _ (by omega)) (λc k O D=>?_)
     by_cases e:c=b
     ·subst e;rw[cc]at D;injection D with D
      grind
     ·rw[cH _ _ _ e]at D;have:=(hR.cX c k D).2.1;omega
    have lD:=sC.new (d:=1000000000100000+1000*d) (x:=.aC [.v (.sl .u8 0 q l),.v (.int .i64 0),.v (.int .i64 Y)]) (.aC b off) (by
     refine .aC b off cells t _ (λj=>(#[a.eval x,.int .i64 0,.int .i64 Y]:Array Value).getD j undef) (cc _ _ _) (cc _ _ _) hh (by
      have:=(iB.1 nD).1;simp;omega) (λj y C=>?_)
     have GG:dP w' w0.heap.size (bV ah b (some [1000000000100000+1000*d])) (bV ρ (1000000000100000+1000*d) (.aC b off)) (.v (.sl .u8 0 q l)) (a.eval x):=by
      refine⟨rfl,I.2.ld L.size (λc O=>⟨L.block c O,cH _ _ _ (by omega)⟩)⟩
     match j,C with
     |0,C=>simp at C;subst C;exact⟨tF,GG⟩
     |1,C=>simp at C;subst C;exact⟨Uv,rfl,.int _ _ _⟩
     |2,C=>simp at C;subst C;exact⟨nD,rfl,.int _ _ _⟩
     |j+3,C=>simp at C) (hR.dj _ (.inr (by omega)))
    rw[hd];exact hK _ _ ⟨_,_,lD.set ⟨b,off,cc _ _ _,rfl⟩ DI⟩
   ·cases h
 ·cases h
def anD{f:Nat}{args:Array Operand}{O:Array TypeId}{c:Bu}{k:S -> aj X}(ho:o.op = .call { callee:=.value (.func f),args,argTypes:=O })(hd:o.dst=some d)(he:enters P f)(hc:MX P f c)(h:G8 N σ d c args.toList k=some r):∃ T,k T=some r/\lu P w0 N o σ T:=by
 unfold G8 at h;cases U:Nat.blt d N with
 |false=>grind
 | true=>
  rw[U,aq]at h;have DI:d<N:=by have:=cK U;omega
  obtain⟨ps,E,o8⟩:=aaq (w0:=w0) (N:=N) _ _ h;split at E
  ·rename_i p hp;split at E
   ·rename_i t g q l hl;split at E
    ·rename_i nE;cases hb:(Nat.blt g 2&&Nat.ble p.1 p.2&&Nat.ble p.2 l.length)with
     |false=>grind
     | true=>
      rw[hb,aq]at E;rw[aO,aO]at hb;have Y:g<2:=by have:=cK hb.1.1;omega
      have qd:=cK hb.1.2;have h2l:=cK hb.2
      refine⟨_,E,λa w K Q hR hK=>?_⟩
      obtain⟨ah,ρ,hR⟩:=hR;unfold Oper.wp;rw[MA w o a f args O ho he,Oper.upon_enter];have wT:(args.map a.eval)=(args.toList.map a.eval).toArray:=by apply Array.ext';rw[Array.toList_map]
      rw[wT]
      refine(hc ps p hp w _ (o8 ah ρ a w hR) (w0.on hR.below (λ_ _ h=>by cases h))).mono λe w' q5=>?_
      obtain⟨A,n,cap,C,hle,hn,rfl,L⟩:=q5;have jX:RV w w0.heap.size ah [] (.sl t g q l) (.slice A n cap):=by
       unfold aa5 at hl;split at hl
       ·rename_i x hx;have Uw:((args.toList.map a.eval).toArray)[c.a]?=some (a.eval x):=by
         rw[List.getElem?_toArray,eH,hx];rfl
        unfold tP at C;rw[Uw]at C;have D:=hR.aK x;split at hl
        next cs jq=>rw[jq]at D;obtain⟨us,mE,hrl⟩:=D;rw[mE]at C;obtain⟨u,I,hr⟩:=hrl.2 _ _ hl;simp only at C;rw[C]at I;injection I with I;subst I;exact hr.2
        ·rename_i lf wS;rw[wS]at D;cases hj:Nat.beq c.j 0 with
         |false=>grind
         | true=>
          rw[hj]at hl C;injection hl with hl;subst hl;have D:dP w w0.heap.size ah ρ (.v (.sl t g q l)) (a.eval x):=D;have Z:∀ us,a.eval x ≠ .agg us:=by
           intro us e;rw[e]at D;cases D.2
          generalize a.eval x=z at C D Z;cases z<;>first|exact absurd rfl (Z _)|(simp only[aq,iD]at C;cases C;exact D.2)|(simp only[aq,iD]at C;cases C)
        ·cases hl
       ·cases hl
      obtain⟨Ux,DE,Tl⟩:=jX.part (a:=p.1) (h:=p.2) Y qd h2l;subst nE;rw[hd];have dV:=hR.grow L (aD:=ah) (λ_ _=>rfl) (λb k hb hk=>absurd (hR.cX b k hk).2.1 (Nat.not_lt.2 hb));refine hK _ _ ⟨ah,ρ,dV.set ⟨by simp[V.aH,Y],?_⟩ DI⟩;exact Ux.ld L.size λb hb=>⟨L.block b hb,rfl⟩
    ·cases E
   ·cases E
  ·cases E
def anE{c:Bu}{args:aa Operand}:cI λX k=>G8 (X:=X) N σ d c args k:=λX Y k g=>by
 unfold G8
 refine de ((DW _ _ _ _).trans (bq _ (funext λps=>?_))) rfl
 repeat' first|rfl|refine de ?_ ?_|split
/-! Calls of functions that are run in the state of their caller. -/
def G9{X:Type}(N:Nat)(σ:S)(C:aj Tmp)(c:tQ)(xs:aa A)(k:S->aj X):aj X:=c.run X N σ xs λD y=>gY N D C y k
def anF(p:Nat×Nat):A:=.aG p.1 p.2
def He(σ:S):aa Operand->aj (aa (Nat×Nat))
 |[]=>some []
 | x :: xs=>match aK σ x,He σ xs with
  |.aG r j,some ps=>some ((r,j)::ps)
  |_,_=>none
def anG(w:World)(o:Oper)(a:Act)(f:Nat)(cl:Operand)(C:Array Value)(args:Array Operand)(E:Array TypeId)(I:o.op = .call { callee:=.value cl,args,argTypes:=E })(L:a.eval cl = .func (.func f) #[] C)(O:enters P f):
  (execOp a.eval o).run P w = .ok (.enter f (args.map a.eval++C)) w:=by
 obtain⟨fn,T,U,D⟩:=O;have Y:¬ fn.name = "runtime.NumGoroutine":=by simpa using U
 have Z:¬ fn.body=none:=by intro e;rw[e]at D;cases D
 simp[execOp,I,resolve,L,Deferred.ofValue,invoke,callFunc,Sem.run,T,Y,Z]
def MZ:A->aj (Nat×aa A)
 |.fn f cap=>some (f,cap.map anF)
 |.nA f cs=>some (f,[.jd cs])
 |_=>none
def anH{x:A}{f:Nat}{ex:aa A}{u:Value}(h:MZ x=some (f,ex))(O:RA w B ah ρ x u):∃ D:Array Value,u = .func (.func f) #[] D/\D.size=ex.length /\ ∀ (j:Nat) y,ex[j]?=some y -> RA w B ah ρ y (D.getD j undef):=by
 unfold MZ at h;split at h
 ·rename_i f' cap;injection h with h;injection h with E I;subst E I;obtain⟨D,T,U,Y⟩:=O
  refine⟨D,T,by simp[U],λj y C=>?_⟩
  rw[eH]at C;cases L:cap[j]? with
  |none=>simp_all
  | some p=>
   rw[L]at C;injection C with C;subst C;obtain⟨b,off,E,I⟩:=Y _ p L;rw[iq,I];exact⟨b,off,E,rfl⟩
 ·injection h with h;injection h with E I;subst E I;obtain⟨pv,e,L⟩:=O
  refine⟨#[pv],e,rfl,λj y C=>?_⟩
  rcases j with _|j
  ·injection C with C;subst C;exact L
  ·cases C
 ·cases h
def aa8{f:Nat}{cl:Operand}{ex:aa A}{args:Array Operand}{Y:Array TypeId}{c:tQ}{k:S->aj X}(ho:o.op = .call { callee:=.value cl,args,argTypes:=Y })(wO:MZ (aK σ cl)=some (f,ex))(he:enters P f)(Z:rm P f c)
  (h:G9 N σ o.dst c (args.toList.map (aK σ)++ex) k=some r):∃c8,k c8=some r/\lu P w0 N o σ c8:=by
 unfold G9 at h
 haveI:Inhabited Wd:=⟨w0⟩
 obtain⟨qa,y,C,D⟩:=(Z.1 _ _ _).lX h;have GM:=Z.2 _ _ _ _ _ (D _ _);have step:∀ a w K Q,R w0 N σ a w->(∀ v w' aD ρ',Rl w0 N aD ρ' qa a w'->RA w' w0.heap.size aD ρ' y v->K (a.put o.dst v) w')->o.wp P a w K Q:=by
  intro a w K Q hR E;obtain⟨ah,ρ,hR⟩:=hR;obtain⟨L,hv,hs,lZ⟩:=anH wO (hR.aK cl);unfold Oper.wp;rw[anG w o a f cl L args Y ho hv he,Oper.upon_enter]
  refine(GM w0 ah ρ a w _ hR (by simp[hs]) λi=>?_).mono λe w' q5=>?_
  ·by_cases hi:i<args.size
   ·have e1:(args.toList.map (aK σ)++ex)[i]?=some (aK σ args[i]):=by
     rw[List.getElem?_append_left (by simpa using hi),eH,Array.getElem?_toList,Array.getElem?_eq_getElem hi];rfl
    have O:(args.map a.eval++L).getD i undef=a.eval args[i]:=by
     rw[iq,Array.getElem?_append_left (by simpa using hi)];simp[hi]
    rw[e1,O];exact hR.aK _
   ·have e0:(args.toList.map (aK σ)++ex)[i]?=ex[i-args.size]?:=by
     rw[List.getElem?_append_right (by simp;omega)];simp
    rw[e0];cases hp:ex[i-args.size]? with
    |none=>trivial
    | some p=>
     have O:(args.map a.eval++L).getD i undef=L.getD (i-args.size) undef:=by
      rw[iq,Array.getElem?_append_right (by simp;omega),iq];simp
     rw[O];exact lZ _ p hp
  ·obtain⟨v,aD,ρ',rfl,I,T⟩:=q5;exact E v w' aD ρ' I T
 unfold gY at C;split at C
 ·rename_i D
  refine⟨qa,C,λa w K Q hR E=>step a w K Q hR λv w' aD ρ' I _=>?_⟩
  rw[D];exact E _ _ ⟨aD,ρ',I⟩
 ·rename_i d D;cases U:Nat.blt d N with
  |false=>rw[U]at C;cases C
  | true=>
   rw[U,aq]at C
   refine⟨_,C,λa w K Q hR E=>step a w K Q hR λv w' aD ρ' I T=>?_⟩
   rw[D];exact E _ _ ⟨aD,ρ',I.set T (by have:=cK U;omega)⟩
def aa9:∀ (xs:aa Operand) (ps:aa (Nat×Nat)),He σ xs=some ps -> ps.length=xs.length /\ ∀ ah ρ a w,Rl w0 N ah ρ σ a w -> ∀ (j:Nat) p,ps[j]?=some p -> ∃ b off,ρ p.1 = .aC b off/\(xs.map a.eval)[j]?=some (.pointer (some ⟨b,off+p.2,none⟩))
 | [],ps,h=>by
  simp only[He,iD]at h;simp_all
 | x :: xs,ps,h=>by
  unfold He at h;split at h
  ·rename_i rr j I L O;injection h with h;subst h;obtain⟨T,U⟩:=aa9 xs I O
   refine⟨by simp[T],λah ρ a w hR C p D=>?_⟩
   cases C with
   | zero=>
    simp at D;subst D;have E:=hR.aK x;rw[L]at E;obtain⟨b,off,Y,Z⟩:=E;simp_all
   |succ C =>grind
  ·cases h
end
def A.zl(q s n:Nat):A->A
 |.lf (.own [C])=>bif Nat.beq C q then .view [q] s 0 n else .lf (.own [C])
 |x=>x
def S.zl(σ:S)(p:Nat×Nat×Nat):S:=⟨λk=>(σ.t k).zl p.1 p.2.1 p.2.2,σ.m⟩
def Uy:aa (Nat×Nat×Nat)->S->S
 |[],σ=>σ
 |p::l,σ=>Uy l (σ.zl p)
def Uz(c0 g:Nat):Mu->aa (Nat×Nat×Nat)
 |.sl q (.sl t _ _ l)=>bif Nat.ble 1000000 g&&Nat.blt q c0 then [(q,aF t,l.length)]else []
 |_=>[]
def Hf(c0:Nat):aa PK->aa Mu->aa (Nat×Nat×Nat)
 |.v _ _::ps,C=>Hf c0 ps C
 |.p _ _ _::ps,_::C=>Hf c0 ps C
 |.s _ g::ps,D::C=>Uz c0 g D++Hf c0 ps C
 |_,_=>[]
def Hg{X:Type}(N:Nat)(σ:S)(C:aj Tmp)(c:nK)(args:aa Operand)(k:S->aj X):aj X:=
 match jr σ c.ps args with
 |some D=>oq N σ C c args λE=>k (Uy (Hf (iw C) c.ps D) E)
 |none=>none
section
variable {P:Program} {w w':World} {w0:Wd} {B N:Nat} {ah dA aD:bE} {ρ eY ρ':Nat->Loc} {σ:S} {a:Act} {X:Type} {d:Nat} {r:X} {o:Oper}
def Rl.zl{p:Nat×Nat×Nat}{ad:aj Addr}{c:Nat}(h:Rl w0 N ah ρ σ a w)(E:ρ p.1 = .dJ (.slice ad p.2.2 c)):Rl w0 N ah ρ (σ.zl p) a w:=by
 refine⟨h.below,h.cX,h.root,λk=>?_,h.size,h.defers,h.fix,h.dj⟩
 have C:=h.tmp k;show RA _ _ _ _ ((σ.t k).zl p.1 p.2.1 p.2.2) _;generalize σ.t k=x at C;unfold A.zl;split
 ·rename_i I;cases hb:Nat.beq I p.1 with
  |false=>exact C
  | true=>
   obtain rfl:=cC hb;have D:=C.2;simp only[cW,E]at D;injection D with D;refine⟨ad,p.2.2,c,by simp[cW,E],Nat.zero_le _,dx _,?_⟩;rw[<- D];cases ad<;>simp[sliced,Addr.add]
 ·exact C
def aba:∀ (l:aa (Nat×Nat×Nat)) (σ:S),Rl w0 N ah ρ σ a w->(∀ p∈l,∃ A c,ρ p.1 = .dJ (.slice A p.2.2 c))->Rl w0 N ah ρ (Uy l σ) a w
 |[],σ,h,_=>h
 | p :: l,σ,h,hl=>by
  obtain⟨A,c,C⟩:=hl p (.head _);exact aba l _ (h.zl C) λp C=>hl p (.tail _ C)
def anI{c0 g:Nat}{D:Mu}{p:Nat×Nat×Nat}(h:p∈Uz c0 g D):∃ q t o C l,D = .sl q (.sl t o C l)/\p=(q,aF t,l.length)/\q<c0:=by
 unfold Uz at h;split at h
 ·rename_i q t o C l;cases hb:(Nat.ble 1000000 g&&Nat.blt q c0)with
  |false=>simp_all
  | true=>
   rw[hb]at h;rw[aO]at hb;exact⟨q,t,o,C,l,rfl,kI.1 h,cK hb.2⟩
 ·cases h
def M0{c0:Nat}{p:Nat×Nat×Nat}:∀ (ps:aa PK) (C:aa Mu),p∈Hf c0 ps C -> ∃ q t o D l,Mu.sl q (.sl t o D l)∈C/\p=(q,aF t,l.length)/\q<c0
 |.v _ _::ps,C,h=>M0 ps C h
 |.p _ _ _::ps,L::C,h=>let ⟨q,t,o,D,l,I,E⟩:=M0 ps C h;⟨q,t,o,D,l,.tail _ I,E⟩
 | .s _ g :: ps,L :: C,h=>by
  rcases List.mem_append.1 h with h|h
  ·obtain⟨q,t,o,D,l,rfl,E⟩:=anI h;exact⟨q,t,o,D,l,.head _,E⟩
  ·obtain⟨q,t,o,D,l,I,E⟩:=M0 ps C h;exact⟨q,t,o,D,l,.tail _ I,E⟩
def RV.anJ{q:aa Nat}{t:TC}{g:Nat}{C:Bool}{l:aa (T t)}{v:Value}(h:RV w B ah q (.sl t g C l) v):∃ A c,v = .slice A l.length c:=by
 cases h<;>exact⟨_,_,rfl⟩
def anK{f:Nat}{args:Array Operand}{T:Array TypeId}{c:nK}{k:S->aj X}(U:o.op = .call { callee:=.value (.func f),args,argTypes:=T })(Y:enters P f)(Z:va P f c)(h:Hg N σ o.dst c args.toList k=some r):∃ E,k E=some r/\lu P w0 N o σ E:=by
 unfold Hg at h;split at h
 ·rename_i T9 I;obtain⟨qa,M1,cn,h1,D,_,h4,h5⟩:=T6 (w0:=w0) U Y Z h;rw[I]at D;injection D with D;subst D
  refine⟨_,h1,λa w K Q hR hK=>?_⟩
  obtain⟨ah,ρ,hR⟩:=hR
  refine h5 a w K Q ah ρ hR λv w' dA eY vi dV hv _ cN=>hK _ _ ⟨dA,vi,aba _ _ dV λp hp=>?_⟩
  obtain⟨q,t,oo,qn,l,L,rfl,hq⟩:=M0 _ _ hp;have jF:=(MF _ _ _ I _ L).1;have O:=hR.root q _ jF;generalize C:aW.sl _=z at O;cases O with
  |aC=>cases C
  |mp=>cases C
  |gh=>cases C
  | sl u y Tw hr=>
   injection C with C;subst C;obtain⟨A,c,rfl⟩:=hr.anJ;exact⟨A,c,(cN q hq).trans ((hv.eX q (h4 _ L)).trans Tw)⟩
 ·cases h
def anL{C:aj Tmp}{c:nK}{args:aa Operand}:cI λX k=>Hg (X:=X) N σ C c args k:=λX Y k g=>by
 unfold Hg;split
 ·exact Uu _ _ _ _
 ·rfl
end
def bE.un(ah:bE)(q:Nat):bE:=λb=>match ah b with
 |some k=>bif cS q k then none else some k
 |none=>none
def Hh{X:Type}(P:Program)(σ:S)(q s i j:Nat)(t:TypeId)(x:A)(k:S->aj X):aj X:=
 match σ.m q with
 |some (.sl (.sl C (o+2) D l))=>bif Nat.beq s (aF C)&&Nat.beq (full C) 0 then pY P (σ.drop q) t (x.drop q) (.lf (.v (.sl C 0 false ((l.take j).drop i)))) k else none
 |_=>none
section
variable {P:Program} {w w':World} {w0:Wd} {B N:Nat} {ah aD:bE} {ρ ρ':Nat->Loc} {σ:S} {a:Act} {X:Type} {d q:Nat} {r:X} {o:Oper} {y:V}
def anM(C:∀ b,ah b≠some []):Rel q ah (ah.un q):=
 ⟨C,λb h=>by simp[bE.un,h],λb k h D=>by simp[bE.un,h,D]⟩
def RV.ice{C:TC}{g:Nat}{U:Bool}{l:aa (T C)}{A:aj Addr}{n c:Nat}(E:RV w B ah [q] (.sl C (g+2) U l) (.slice A n c))(hf:full C=0):RV w B (ah.un q) [] (.sl C 0 false l) (.slice A n c)/\n=l.length:=by
 cases E with
 |eD=>exact⟨.eD _ _ _,rfl⟩
 |fF=>grind
 |fV=>grind
 |aH _ _ _ _ _ _ _ _ _ ho=>omega
 | own=>
  rename_i b cs u hl L hc E hs Y hm;have O:∀ (i:Nat) (h:i<l.length) (j:Nat) (x:V),(enc C 0 l[i])[j]?=some x -> (enc C g l[i])[j]?=some x/\x.plain=true:=by
   intro i h j x D;obtain⟨y,I,rfl⟩:=wA C g l[i] j x D;have Z:=L4 C g l[i] y (gF I);cases y with
   | sl t' o' q' l'=>
    have:=cK (show Nat.ble _ _=true from Z);omega
   | nil=>
    have:=SJ C g l[i] _ (gF I);cases this
   |_=>exact⟨I,rfl⟩
  refine⟨.aH _ _ _ _ _ b 0 c u (by omega) (by simp[bE.un,hl,cS]) (iB.1 L).1 (by omega) Y (λi h j x D=>?_) (λi h j x D=>?_),rfl⟩
  ·rw[eN,cell_of_row w b _ cs _ _ L];simp_all
  ·exact(E i h j x (O i h j x D).1).tj (O i h j x D).2
def anN{s i j:Nat}{t:TypeId}{x:A}{k:S -> aj X}(h:Hh P σ q s i j t x k=some r):∃ E,k E=some r /\ ∀ ah ρ a w,Rl w0 N ah ρ σ a w -> ∀ u v,RA w w0.heap.size ah ρ x u -> RA w w0.heap.size ah ρ (.view [q] s i j) v ->
  ∃w' aD,(Instr.storeAt t u v).run P w = .ok () w'/\Rl w0 N aD ρ E a w':=by
 unfold Hh at h;split at h
 ·rename_i I g Z l hm;cases hb:(Nat.beq s (aF I)&&Nat.beq (full I) 0)with
  |false=>rw[hb]at h;cases h
  | true=>
   rw[hb,aq]at h;rw[aO]at hb;obtain rfl:=cC hb.1;have hf:=cC hb.2;obtain⟨E,h1,hs⟩:=ZW (w0:=w0) (N:=N) h
   refine⟨E,h1,λah ρ a w hR u v hu hv=>?_⟩
   have L:Rel q ah (ah.un q):=anM hR.wJ;have sC:=hR.rel L (λb k C=>by
    unfold bE.un at C;cases hl:ah b with
    |none=>rw[hl]at C;cases C
    | some O=>
     rw[hl]at C;simp only at C;cases T:cS q O with
     |true=>rw[T]at C;cases C
     | false=>
      rw[T]at C;injection C with C;subst C;exact⟨⟨_,rfl⟩,(hR.cX b O hl).2.2⟩)
   obtain⟨A,n,c,U,h3,h4,rfl⟩:=hv;have Y:=hR.root q _ hm;generalize D:aW.sl (.sl I (g+2) Z l)=z at Y;cases Y with
   |aC=>cases D
   |mp=>cases D
   |gh=>cases D
   | sl vq y cN hr=>
    injection D with D;subst D;have hvq:vq = .slice A n c:=by
     simp only[cW,cN]at U;injection U
    subst hvq;obtain⟨h5,h6⟩:=hr.ice hf;have h7:=(h5.part (by omega) h3 (by omega)).1;obtain⟨w',eO,lD⟩:=hs _ _ _ _ sC u _ (hu.rel L) (show RA _ _ _ _ (.lf (.v _)) _ from ⟨rfl,h7⟩);exact⟨w',_,eO,lD⟩
 ·cases h
def anO{q s i j:Nat}{t:TypeId}{x:A}:cI λX k=>Hh (X:=X) P σ q s i j t x k:=λX Y k g=>by
 unfold Hh
 repeat' first|rfl|exact aaY _ _ _ _|refine de ?_ ?_|split
def DY{X:Type}(P:Program)(σ:S)(t:TypeId)(x lo hi C:A)(k:aj X):aj X:=
 match x,lo,hi,C with
 | .lf (.own q),.lf (.v (.int _ a)),.lf (.v (.int _ b)),.lf (.v (.int _ c))=>(match pW P t with
  | some e=>(match jo P e with
   | some _=>jf σ.m q λy=>(match y with
    |.sl _ _ _ l=>if 0<=a/\a<=b/\b<=c/\c<=(l.length:Int)then k else none
    |_=>none)
   |none=>none)
  |none=>none)
 |_,_,_,_=>none
def anP{t:TypeId}{x lo hi U:A}{k:aj X}(h:DY P σ t x lo hi U k=some r):k=some r /\
  ∀ah ρ a w,Rl w0 N ah ρ σ a w -> ∀u I L O,RA w w0.heap.size ah ρ x u -> RA w w0.heap.size ah ρ lo I -> RA w w0.heap.size ah ρ hi L -> RA w w0.heap.size ah ρ U O -> ∃v,(Instr.sliceAt t u (some I) (some L) (some O)).run P w = .ok v w:=by
 unfold DY at h;split at h
 ·rename_i q kl a kh b km c;split at h
  ·rename_i e T;split at h
   ·rename_i n Y;obtain⟨y0,Tn,C⟩:=sg q _ h;split at C
    ·rename_i tc g qn xs;split at C
     ·rename_i hb
      refine⟨C,λah ρ ac w hR u I L O Z hl hh hm=>?_⟩
      rw[hl.2.gJ,hh.2.gJ,hm.2.gJ];have gi:P.underlying t=some (.slice e):=by
       unfold pW at T;split at T
       ·grind
       ·cases T
      have iG:P.elem t=e:=by simp[Program.elem,gi]
      have abb:P.underlying t=some (.slice (P.elem t)):=by rw[iG];exact gi
      have hss:(sizeOf (P.elem t)).run P w = .ok n w:=by
       unfold jo at Y;cases hi:P.info? e with
       |none=>grind
       | some i=>
        have:i.size=n:=by simpa [hi]using Y
        simp[sizeOf,typeInfo,iG,hi,this]
      obtain⟨v0,wN,iH⟩:=Tn.ok hR.root;have gf:∃ D n c,u = .slice D n c:=by
       have:=Z.1;cases u<;>first|cases this;done|exact⟨_,_,_,rfl⟩
      obtain⟨D,n',c',rfl⟩:=gf;have E:=Z.2;rw[wN]at E;injection E with E;subst E;have hf:RV w 0 (λ_=>none) [] (.sl tc 0 qn xs) (.slice D n' c'):=iH.gp;obtain⟨_,DE,Tl⟩:=RV.part (w:=w) hf (a:=0) (h:=xs.length) (by omega) (by omega) (by omega);refine⟨sliced D a.toNat b.toNat c.toNat n,?_⟩;rw[run_sliceAt_slice w t _ _ _ _ abb,run_slice_lhm w t D n' c' abb kl kh km a b c hb.1 hb.2.1 hb.2.2.1 (by omega),hss];rfl
     ·cases C
    ·cases C
   ·cases h
  ·cases h
 ·cases h
end
section
variable {P:Program} (w:World)
end
section
variable {P:Program} {w w':World} {w0:Wd} {B N:Nat} {ah aD:bE} {ρ ρ':Nat->Loc} {σ:S} {a:Act} {X:Type} {d:Nat} {r:X}
end
def mI(l:aa (Int×Bool))(k:Int):Bool:=match l with
 |[]=>false
 |p::ps=>bif k==p.1 then p.2 else mI ps k
def nM(l:aa (Int×Bool))(k:Int)(v:Bool):aa (Int×Bool):=match l with
 |[]=>[(k,v)]
 |p::ps=>bif k==p.1 then (k,v)::ps else p::nM ps k v
def DZ(P:Program)(t:TypeId):Bool:=match P.underlying t with
 | some (.map k e)=>(match P.underlying k with
  |some (.int .i64)=>true
  |_=>false)&&(match zeroOf P e with
  |some (.bool false)=>true
  |_=>false)
 |_=>false
def UA{X:Type}(N:Nat)(σ:S)(d:Nat)(k:S->aj X):aj X:=hD N σ d (.mp []) (.pk d qP) k
def Bv{X:Type}(P:Program)(σ:S)(t:TypeId)(x i:A)(k:A->aj X):aj X:=
 match x,i with
 | .pk r n,.lf (.v (.int .i64 key))=>bif Nat.beq n qP&&DZ P t then (match σ.m r with
  |some (.mp l)=>k (.lf (.v (.bool (mI l key))))
  |_=>none)else none
 |_,_=>none
def Bw{X:Type}(P:Program)(σ:S)(t:TypeId)(x i v:A)(k:S->aj X):aj X:=
 match x,i,v with
 | .pk r n,.lf (.v (.int .i64 key)),.lf (.v (.bool b))=>bif Nat.beq n qP&&DZ P t then (match σ.m r with
  |some (.mp l)=>k ⟨σ.t,bV σ.m r (some (.mp (nM l key b)))⟩
  |_=>none)else none
 |_,_,_=>none
section
variable {P:Program} {w w':World} {w0:Wd} {B N:Nat} {ah aD:bE} {ρ ρ':Nat->Loc} {σ:S} {a:Act} {X:Type} {d:Nat} {r:X} {o:Oper}
def abc{t:TypeId}(h:DZ P t=true):∃ k e i,P.underlying t=some (.map k e)/\P.underlying k=some (.int .i64)/\P.info? e=some i/\i.zero=some (.bool false):=by
 unfold DZ at h;split at h
 ·rename_i k e D;rw[aO]at h;obtain⟨E,I⟩:=h;have L:P.underlying k=some (.int .i64):=by
   grind
  have C:zeroOf P e=some (.bool false):=by
   grind
  unfold zeroOf at C;cases hi:P.info? e with
  |none=>simp_all
  |some i =>grind
 ·cases h
def Rl.newObj{D:Obj}{x:aW}{ρ':Nat -> Loc}(h:Rl w0 N ah ρ σ a w)(E:w0.F d=none)(I:∀ r,r≠d -> ρ' r=ρ r)
  (L:dZ (w.alloc D) w0.heap.size (bV ah w.heap.size (some [d])) ρ' d x):Rl w0 N (bV ah w.heap.size (some [d])) ρ' ((σ.drop d).root d x) a (w.alloc D):=by
 refine h.yK E (je.Z5 w0 w _ h.below.size) ⟨by simp,λb hb _=>Below.heap_alloc w _ b hb,λb hb=>cH _ _ _ (by omega),λb hb=>(h.cX b [] hb).2.2 rfl⟩ (λb k hb C=>?_) I L
 by_cases e:b=w.heap.size
 ·subst e;rw[cc]at C;injection C with C;subst C;simp_all
 ·rw[cH _ _ _ e]at C;have:=(h.cX b k C).2.1;omega
def anQ{t:TypeId}{k:S -> aj X}(h:UA N σ d k=some r):∃ C,k C=some r /\ ∀ ah ρ a w,Rl w0 N ah ρ σ a w -> ∃ w' aD ρ' v,(Instr.makeMap t none).run P w = .ok v w'/\Rl w0 N aD ρ' C (a.put (some d) v) w':=by
 obtain⟨D,h⟩:=oV h
 refine⟨_,h,λah ρ a w hR=>?_⟩
 have E:(Instr.makeMap t none).run P w = .ok _ _:=rfl
 refine⟨_,bV ah _ _,bV ρ d _,_,E,(hR.newObj (hR.dj d (.inl D)) (λr I=>cH _ _ _ I) ?_).set ⟨w.heap.size,cc _ _ _,(SM _).symm⟩ D⟩
 exact .mp _ 0 #[] [] (cc _ _ _) (cc _ _ _) (heap_alloc_new w _) rfl
def anR:cI λX k=>UA (X:=X) N σ d k:=MQ
def anS{t:TypeId}{x i:A}:cI λX k=>Bv (X:=X) P σ t x i k:=λX Y k g=>by
 unfold Bv
 repeat' first|rfl|refine de ?_ ?_|split
def anT{t:TypeId}{x i v:A}:cI λX k=>Bw (X:=X) P σ t x i v k:=λX Y k g=>by
 unfold Bw
 repeat' first|rfl|refine de ?_ ?_|split
def By(l:aa (Int×Bool)):aa (Value×Value):=l.map λp=>(.int .i64 p.1,.bool p.2)
def UB:∀ (C:aa MapEntry) (l:aa (Int×Bool)) (k:Int) (n:Nat),C.map (λe=>(e.key,e.val))=By l ->
  (Instr.findNow (.int .i64) (.int .i64 k) C n=some none/\mI l k=false /\ ∀v,nM l k v=l++[(k,v)]) \/
  (∃i b,Instr.findNow (.int .i64) (.int .i64 k) C n=some (some (n+i,.bool b))/\mI l k=b /\ ∃h:i<C.length,C[i].key = .int .i64 k /\ ∀v,By (nM l k v)=(C.modify i λe=>{ e with key:=.int .i64 k,val:=.bool v }).map (λe=>(e.key,e.val)))
 |[],[],k,n,_=>.inl ⟨rfl,rfl,λv=>rfl⟩
 |[],_::_,k,n,h=>by cases h
 |_::_,[],k,n,h=>by cases h
 | e :: C,p :: l,k,n,h=>by
  have h:(e.key,e.val) :: C.map (λe=>(e.key,e.val))=(.int .i64 p.1,.bool p.2) :: By l:=h;injection h with U L;injection U with O Y;have D:Instr.sameNow (.int .i64) (.int .i64 k) e.key=some (k==p.1):=by
   rw[O];simp[Instr.sameNow]
  cases hb:(k==p.1)with
  | true=>
   have Z:k=p.1:=by simpa using hb
   refine .inr ⟨0,p.2,?_,by simp only[mI,hb,aq],by simp,by simp[O,Z],λv=>?_⟩
   ·simp only[Instr.findNow,D,hb,Y];rfl
   ·simp only[nM,hb];simp;show _::By l=_;rw[L]
  | false=>
   rcases UB C l k (n+1) L with ⟨T,E,I⟩|⟨i,b,T,E,hi,I,a4⟩
   ·refine .inl ⟨?_,by simp[mI,hb,au,E],λv=>by simp only[nM,hb,I];rfl⟩
    simp[Instr.findNow,D,hb];exact T
   ·refine .inr ⟨i+1,b,?_,by simp only[mI,hb,au,E],by simpa using hi,by simpa using I,λv=>?_⟩
    ·simp[Instr.findNow,D,hb]
     grind
    ·simp only[nM,hb];simp;show _ :: By _=_
     grind
def M3{kt:TypeId}{k:Int}{C:aa MapEntry}{z:aj (Nat×Value)}(D:P.underlying kt=some (.int .i64))(h:Instr.findNow (.int .i64) (.int .i64 k) C 0=some z):(Instr.findKey kt (.int .i64 k) C).run P w = .ok z w:=by
 unfold Instr.findKey;simp only[gd,gL D,mB,h];rfl
def anU{t:TypeId}{x i:A}{k:A -> aj X}(h:Bv P σ t x i k=some r):∃ v,k v=some r/\mF (λX k=>Bv (X:=X) P σ t x i k) v /\ ∀ ah ρ a w,Rl w0 N ah ρ σ a w -> ∀ u z,RA w w0.heap.size ah ρ x u -> RA w w0.heap.size ah ρ i z ->
  ∃y,(Instr.lookup t u z false).run P w = .ok y w/\RA w w0.heap.size ah ρ v y:=by
 unfold Bv at h;split at h
 ·rename_i rr n key;cases hb:(Nat.beq n qP&&DZ P t)with
  |false=>grind
  | true=>
   rw[hb,aq]at h;split at h
   ·rename_i l L
    refine⟨_,h,λX k=>by simp only[Bv,hb,aq,L],λah ρ a w hR u z Y D=>?_⟩
    rw[aO]at hb;obtain⟨kt,Z,ti,ht,E,hi,hz0⟩:=abc hb.2;have hn:=cC hb.1;subst hn;obtain⟨b,cN,rfl⟩:=Y;have D:z = .int .i64 key:=by
     have h2:=D.2;cases h2;rfl
    subst D;have O:=hR.root rr _ L;generalize C:aW.mp l=y at O;cases O with
    |aC=>cases C
    |sl=>cases C
    |gh=>cases C
    | mp b' c es l' T hl hh M4=>
     injection C with C;subst C;rw[cN]at T;injection T with e1 _;subst e1;refine⟨.bool (mI l key),?_,rfl,.bool _ _⟩;rw[SM];unfold Instr.lookup;simp only[gd,gL ht,mB,MapKept.run_getObj_map hh,Sem.run_pure];rw[MapKept.run_checkKey (k:=.int .i64 key) E rfl];simp only[mB];rcases UB es.toList l key 0 M4 with ⟨I,U,_⟩|⟨i,v,I,U,_⟩
     ·rw[M3 E I];have Dv:(zeroValue Z).run P w = .ok (.bool false) w:=by simp[zeroValue,typeInfo,hi,hz0]
      simp_all
     ·rw[M3 E I];simp only[ U,gd];rfl
   ·cases h
 ·cases h
def anV{t:TypeId}{x i v:A}{k:S -> aj X}(h:Bw P σ t x i v k=some r):∃ O,k O=some r/\mF (λX k=>Bw (X:=X) P σ t x i v k) O /\ ∀ ah ρ a w,Rl w0 N ah ρ σ a w -> ∀ u z y,RA w w0.heap.size ah ρ x u -> RA w w0.heap.size ah ρ i z -> RA w w0.heap.size ah ρ v y ->
  ∃w',(Instr.mapUpdate t u z y).run P w = .ok () w'/\Rl w0 N ah ρ O a w':=by
 unfold Bw at h;split at h
 ·rename_i rr n key T;cases hb:(Nat.beq n qP&&DZ P t)with
  |false=>grind
  | true=>
   rw[hb,aq]at h;split at h
   ·rename_i l hm
    refine⟨_,h,λX k=>by simp only[Bw,hb,aq,hm],λah ρ a w hR u z y hu U C=>?_⟩
    rw[aO]at hb;obtain⟨kt,et,ti,ht,Y,hi,hz0⟩:=abc hb.2;have hn:=cC hb.1;subst hn;obtain⟨b,cN,rfl⟩:=hu;have U:z = .int .i64 key:=by
     have Z:=U.2;cases Z;rfl
    subst U;have C:y = .bool T:=by
     have Z:=C.2;cases Z;rfl
    subst C;have fB:=hR.root rr _ hm;generalize D:aW.mp l=y at fB;cases fB with
    |aC=>cases D
    |sl=>cases D
    |gh=>cases D
    | mp b' c es l' iQ hl L M4=>
     injection D with D;subst D;rw[cN]at iQ;injection iQ with e1 _;subst e1;have Up:b<w.heap.size:=(iB.1 L).1;have MK:∀ (E:Array MapEntry) (I:Nat),E.toList.map (λe=>(e.key,e.val))=By (nM l key T) -> Rl w0 N ah ρ ⟨σ.t,bV σ.m rr (some (.mp (nM l key T)))⟩ a { w with heap:=w.heap.setIfInBounds b (.map E I) }:=by
      intro E I anW;have hW:uP w { w with heap:=w.heap.setIfInBounds b (.map E I) } b:=by
       refine⟨by simp,rfl,rfl,rfl,λk hk=>?_⟩
       show _[k]?=_;rw[Array.getElem?_setIfInBounds_ne (Ne.symm hk)]
      have hC:qR w { w with heap:=w.heap.setIfInBounds b (.map E I) } ah ρ:=by
       intro k ad v ha hv gf;obtain⟨j',i',s',q,rfl,hq,_,_,hh'⟩:=AZ k ad ha;have cL:ad.block≠b:=by
        grind
       exact(World.cell?_of_block (hW.block _ cL)).trans hv
      refine hR.wrote hW hl hC λr' y C=>?_
      by_cases qW:r'=rr
      ·subst qW;rw[cc]at C;injection C with C;subst C;refine .mp b I E _ cN hl ?_ anW;simp_all
      ·rw[cH _ _ _ qW]at C;exact(hR.root r' y C).wrote hW hl hC (ZO qW)
     rw[SM];unfold Instr.mapUpdate;simp only[gd,gL ht,mB,MapKept.run_getObj_map L,Sem.run_pure];rw[MapKept.run_checkKey (k:=.int .i64 key) Y rfl];simp only[mB];rcases UB es.toList l key 0 M4 with ⟨a1,a2,a3⟩|⟨i,v,a1,a2,G4,a3,a4⟩
     ·rw[M3 Y a1];simp;rw[MapKept.run_setObj_map _ L];refine⟨_,rfl,MK _ _ ?_⟩;rw[a3];simp only[Array.toList_push,kX,M4,By];rfl
     ·rw[M3 Y a1];simp only[mB,eN];have Ug:(es[i]?.map (·.key)).getD (.int .i64 key) = .int .i64 key:=by
       grind
      rw[Ug];have jY:(Instr.keyThatStays (.int .i64 key) (.int .i64 key)).run P w = .ok (.int .i64 key) w:=by
       unfold Instr.keyThatStays;simp[Instr.sameBits]
      simp only[gd];rw[jY];simp only[mB];rw[MapKept.run_setObj_map _ L];refine⟨_,rfl,MK _ _ ?_⟩;rw[a4];simp
   ·cases h
 ·cases h
end
def M5(t:TypeId)(d:Nat)(x:Operand):Bool:=[(59,26,22)].any λ(p:Nat×Nat×Nat)=>Nat.beq p.1 t&&Nat.beq p.2.1 d&&(match x with
 |.tmp n=>Nat.beq n p.2.2 ||Nat.beq p.2.2 1000000
 |_=>false)
def Bz(C:aj Tmp)(t:TypeId)(x:Operand):Bool:=match C with
 |some d=>M5 t d x
 |none=>false
def Hi{X:Type}(P:Program)(N:Nat)(σ:S)(d:Nat)(t:TypeId)(x y:A)(k:S->aj X):aj X:=
 match uU P t with
 | some (e,C)=>bif Nat.beq (full C) 0&&(zeroOf P e).any (λz=>Nat.beq z.cells.size (aF C))then sj σ y λD=>(match D.Ml C with
  |none=>none
  | some l2=>match x with
   | .lf (.own [r])=>(match σ.m r with
    |some (.sl (.sl E (o+2) true l))=>if h:E=C then (bif !jC l2&&bD (l.length+l2.length)then hD N σ d (.sl (.sl C (o+2) false ((h ▸ l)++l2))) (.lf (.own [d])) k else none)else none
    |_=>none)
   |_=>none)else none
 |none=>none
section
variable {P:Program} {w w':World} {w0:Wd} {B N:Nat} {ah aD:bE} {ρ ρ':Nat->Loc} {σ:S} {a:Act} {X:Type} {d:Nat} {r:X}
def Rl.anX{t e ty:TypeId}{C:TC}{i:TypeInfo}{z:Value}{rr o g:Nat}{qn:Bool}{l l2:aa (T C)}{u v:Value}{q':aa Nat}{Bx:Nat}{S8:bE}(h:Rl w0 N ah ρ σ a w)(hF:w0.F d=none)(gi:P.underlying t=some (.slice e))(ht:tid C=e)(hi:P.info? e=some i)(hz:i.zero=some z)
  (Y:i.size=aF C) (jU:i.bytes <= 65536) (ni:z.cells.size=aF C) (hf:full C=0) (hd:RV w w0.heap.size ah [rr] (.sl C (o+2) true l) u) (hs:RV w Bx S8 q' (.sl C g qn l2) v) (cL:l2≠[]) (hlen:l.length+l2.length<1073741824):
  ∃E w' aD,(Builtin.append_ #[t,t] ty #[u,v]).run P w = .ok E w'/\Rl w0 N aD (bV ρ d (.dJ E)) ((σ.drop d).root d (.sl (.sl C (o+2) false (l++l2)))) a w'/\mD E=true:=by
 subst ht;obtain⟨xs,I,aCL,Gr,iG⟩:=hd.Z8 hf (B':=0) (λb _=>Nat.zero_le b);obtain⟨A,c,news,rfl,Z,oY,Gs⟩:=hs.reads hf;have gI:(l.length+l2.length)*i.bytes <= 140737488355328:=by
  have h1:(l.length+l2.length)*i.bytes <= 1073741824*65536:=Nat.mul_le_mul (by omega) jU;omega
 have tv:0<l2.length:=List.length_pos_iff.2 cL;obtain⟨E,w',eO,abd,hgr,lC⟩:=Sw (P:=P) w 0 t ty (tid C) i z (aF C) i.bytes gi hi hz Y rfl ni (oN C) u l.length xs I _ A l2.length c news Z oY (by unfold maxLen;omega) gI (Nat.zero_le _);have Gt:(l++l2).length=l.length+l2.length:=mC;have hex:∃ b,u = .slice (some ⟨b,0,none⟩) l.length l.length:=by
  cases hd with
  |aH _ _ _ _ _ _ _ _ _ ho=>omega
  |fV _ _ _ _ _ ho=>omega
  |own _ _ _ _ _ b cap cs us hl hh hs hn hm hc hr=>exact⟨b,by rw[hm.2 rfl]⟩
 obtain⟨b,rfl⟩:=hex;obtain⟨L,O,rfl,_,jq⟩:=Z.2 tv;have anY:∀ j x,news[j]?=some x -> w.cell? ((⟨L,O,none⟩:Addr).add j)=some x:=by
  intro j x hx;have L2:(⟨L,O,none⟩:Addr).add j=⟨L,O+j,none⟩:=by unfold Addr.add;split<;>simp_all
  grind
 have abe:=run_append_grow (P:=P) w t ty (tid C) i z gi hi hz ⟨b,0,none⟩ l.length l.length xs (by rw[Y];exact I.1) (I.cells (g:=b) rfl) ⟨L,O,none⟩ l2.length c news (by rw[Y];exact Z.1) anY (by omega) (by omega) (growslice_fits (by omega) gI);rw[eO]at abe;injection abe with e1 e2;have hold:∀ k,k<w.heap.size -> w'.heap[k]?=w.heap[k]?:=by
  intro k D;rw[e2];exact heap_alloc_old _ _ D
 have hvb:E.ownBlock=some w.heap.size:=by rw[e1];rfl
 have dU:w.heap.size<w'.heap.size:=by rw[e2];simp
 rw[<- Gt]at abd;have Bd:=iG.append Gs I.1;have gf:mD E=true:=by rw[e1];rfl
 have U:Below 0 w w':=(Below.refl 0 w).grown hgr (Nat.zero_le _) (λ_ _=>Nat.zero_le _);have sr:je w0 w w':=⟨U.os,U.tape,U.output,U.size,λk D hL=>hold k (Nat.lt_of_lt_of_le D h.below.size)⟩
 refine⟨E,w',bV ah w.heap.size (some [d]),eO,h.yK hF sr ⟨hgr.size,λb hb _=>hold b hb,λb hb=>cH _ _ _ (by omega),λb hb=>(h.cX b [] hb).2.2 rfl⟩ (λb k hb D=>?_) (λr hr=>cH _ _ _ hr) (.sl E _ (cc _ _ _) (S7 abd Bd (λb hb=>?_))),gf⟩
 ·by_cases e:b=w.heap.size
  ·subst e;rw[cc]at D;injection D with D
   grind
  ·rw[cH _ _ _ e]at D;have:=(h.cX b k D).2.1;omega
 ·rw[hvb]at hb;injection hb with hb;subst hb;exact cc _ _ _
def anZ{t ty:TypeId}{x y:A}{k:S -> aj X}(h:Hi P N σ d t x y k=some r):∃ T,k T=some r /\ ∀ ah ρ a w,Rl w0 N ah ρ σ a w -> ∀ u v,RA w w0.heap.size ah ρ x u -> RA w w0.heap.size ah ρ y v ->
  ∃w' aD ρ' z,(Builtin.append_ #[t,t] ty #[u,v]).run P w = .ok z w'/\Rl w0 N aD ρ' T (a.put (some d) z) w':=by
 unfold Hi at h;split at h
 ·rename_i e U oW;obtain⟨gi,ht,i,hi,iA,jU⟩:=yM oW;cases E:(Nat.beq (full U) 0&&(zeroOf P e).any (λz=>Nat.beq z.cells.size (aF U)))with
  |false=>grind
  | true=>
   rw[E,aq]at h;rw[aO]at E;have hf:=cC E.1;obtain⟨z,Y,L⟩:=(Option.any_eq_true _ _).1 E.2;have L:=cC L;have oX:i.zero=some z:=by unfold zeroOf at Y;simpa [hi]using Y
   obtain⟨yv,Mo,C⟩:=Z9 (w0:=w0) (N:=N) h;clear h;split at C
   ·cases C
   ·rename_i l2 lA;split at C
    ·rename_i rr;split at C
     ·rename_i t' o l hm;split at C
      ·rename_i nE;subst nE;cases I:(!jC l2&&bD (l.length+l2.length))with
       |false=>grind
       | true=>
        rw[I,aq]at C;rw[aO]at I;have cL:l2≠[]:=by rintro rfl;cases I.1
        have Gu:l.length+l2.length<1073741824:=by simpa [bD]using I.2
        obtain⟨Z,h3⟩:=oV C
        refine⟨_,h3,λah ρ a w hR u v hu hv=>?_⟩
        obtain⟨q',_,_,O⟩:=Mo ah ρ a w hR v hv;obtain⟨g,qn,O⟩:=Ta lA O;have fB:=hR.root rr _ hm;generalize D:aW.sl (.sl t' (o+2) true l)=x at fB;cases fB with
        |aC=>cases D
        |mp=>cases D
        |gh=>cases D
        | sl uu y cN hr=>
         injection D with D;subst D;have Gn:uu=u:=by
          have h4:=hu.2;simp only[cW,cN]at h4;simp_all
         subst Gn;obtain⟨v',w',aD,eO,dV,gf⟩:=hR.anX (ty:=ty) (d:=d) (hR.dj d (.inl Z)) gi ht hi oX iA jU L hf hr O cL Gu;exact⟨w',aD,_,v',eO,dV.set ⟨gf,by simp[cW,cc]⟩ Z⟩
      ·cases C
     ·cases C
    ·cases C
 ·cases h
def an0{t:TypeId}{x y:A}:cI λX k=>Hi (X:=X) P N σ d t x y k:=λX Y k g=>by
 unfold Hi;split
 ·refine de ((Uh _ _ _ _).trans (bq _ (funext λC=>?_))) rfl
  repeat' first|rfl|exact MQ _ _ _ _|refine de ?_ ?_|split
 ·rfl
def Hj{X:Type}(P:Program)(N:Nat)(σ:S)(d:Nat)(t:TypeId)(x y:A)(k:S->aj X):aj X:=
 match x with
 |.view q s i j=>Gw P N σ d t (.view q s i j) y k
 |x=>Hi P N σ d t x y k
def an1{t ty:TypeId}{x y:A}{k:S->aj X}(h:Hj P N σ d t x y k=some r):∃ C,k C=some r/\∀ ah ρ a w,Rl w0 N ah ρ σ a w->∀ u v,RA w w0.heap.size ah ρ x u->RA w w0.heap.size ah ρ y v->
  ∃w' aD ρ' z,(Builtin.append_ #[t,t] ty #[u,v]).run P w = .ok z w'/\Rl w0 N aD ρ' C (a.put (some d) z) w':=by
 unfold Hj at h;split at h
 ·exact alX h
 ·exact anZ h
def an2{t:TypeId}{x y:A}:cI λX k=>Hj (X:=X) P N σ d t x y k:=λX Y k g=>by
 unfold Hj;split
 ·exact alY _ _ _ _
 ·exact an0 _ _ _ _
end
abbrev ep:=Nat->aj qc
def fL(P:Program)(Φ:ep):Prop:=∀f c,Φ f=some c->enters P f/\Ut P f c
def gD{X:Type}(o:Oper)(k:Nat->aj X):aj X:=
 match o.dst with
 |some d=>k d
 |none=>none
def fM:Op->Bool
 |.move _|.assign _|.pick .. |.build .. |.load .. |.binOp .. |.unOp .. |.convert .. |.fieldAddr .. |.field .. |.indexAddr .. |.index .. |.extract .. |.nilCheck _=>true
 |.call ⟨.builtin .len,_,_⟩|.call ⟨.builtin .max,_,_⟩|.call ⟨.builtin .min,_,_⟩=>true
 |.slice _ _ _ _ none=>true
 |_=>false
def mJ{X:Type}(P:Program)(σ:S)(C:Op)(k:A->aj X):aj X:=
 match C with
 |.move x=>k (aK σ x)
 |.assign x=>k (aK σ x)
 | .pick c x y=>(match aK σ c with
  |.lf (.v (.bool b))=>bif b then k (aK σ x)else k (aK σ y)
  |_=>none)
 |.build t parts=>Dy P σ t parts.toList k
 |.load t x=>oa P σ t (aK σ x) k
 |.binOp C t x y _=>yT P σ C t (aK σ x) (aK σ y) k
 |.unOp C _ x=>vK (aK σ x) λa=>Gh C a λz=>k (.lf (.v z))
 |.convert s d x=>yQ P σ s d (aK σ x) k
 |.fieldAddr s x f=>Ds P s (aK σ x) f k
 |.field s x f=>GB P s (aK σ x) f k
 |.indexAddr t x i=>yH P σ t (aK σ x) (aK σ i) k
 |.index t x i=>GC P t (aK σ x) (aK σ i) k
 |.extract x i=>A9 (aK σ x) i k
 |.nilCheck x=>MT (aK σ x) k
 |.call ⟨.builtin .len,⟨[x]⟩,⟨[t]⟩⟩=>A8 P σ t (aK σ x) k
 |.call ⟨.builtin .max,⟨[x,y]⟩,⟨[_,_]⟩⟩=>Dz true (aK σ x) (aK σ y) k
 |.call ⟨.builtin .min,⟨[x,y]⟩,⟨[_,_]⟩⟩=>Dz false (aK σ x) (aK σ y) k
 |.slice t x lo hi none=>yV P σ t (aK σ x) (lo.map (aK σ)) (hi.map (aK σ)) k
 |_=>none
def iy{X:Type}(P:Program)(N:Nat)(Φ:ep)(σ:S)(o:Oper)(k:S->aj X):aj X:=
 match o.op with
 |.alloc e=>gD o λd=>qU P N σ d e k
 |.box e x=>gD o λd=>zk N σ d (aK σ x) k
 |.buildSlice t len parts=>gD o λd=>bif qb t then w5 P N σ d t len parts.toList k else yP P N σ d t len parts.toList k
 | .store t x y=>(match o.dst with
  |none=>bif w6 (aK σ x) (aK σ y)then tO P σ t (aK σ x) (aK σ y) k else pY P σ t (aK σ x) (aK σ y) k
  |some _=>none)
 |.makeSlice t l c=>gD o λd=>yL P N σ d t (aK σ l) (aK σ c) k
 | .call ⟨.value (.func f),args,_⟩=>(match Φ f with
  |some (.p c)=>gD o λd=>aml N σ d c args.toList k
  |some (.m c)=>oq N σ o.dst c args.toList k
  |some (.v c)=>gD o λd=>G8 N σ d c args.toList k
  | some (.n F)=>gD o λd=>(match args.toList with
   |[x]=>G7 N σ d F (aK σ x) k
   |_=>none)
  |some (.i c)=>G9 N σ o.dst c (args.toList.map (aK σ)++[]) k
  |some (.d c)=>G3 N σ o.dst c args.toList k
  |some (.q c)=>gD o λd=>amk N σ d c args.toList k
  |some (.c c)=>Hg N σ o.dst c args.toList k
  |none=>none)
 |.call ⟨.builtin .append,⟨[x,y]⟩,⟨[t,C]⟩⟩=>bif Nat.beq t C then gD o λd=>bif qb t then G6 P N σ d t (aK σ x) (aK σ y) k else bif M5 t d x then Hj P N σ d t (aK σ x) (aK σ y) k else tu P N σ d t (aK σ x) (aK σ y) k else none
 |.makeMap _ none=>gD o λd=>UA N σ d k
 |.lookup t x i false=>Bv P σ t (aK σ x) (aK σ i) λv=>gY N σ o.dst v k
 | .mapUpdate t x i v=>(match o.dst with
  |none=>Bw P σ t (aK σ x) (aK σ i) (aK σ v) k
  |some _=>none)
 | .call ⟨.value (.tmp t),args,_⟩=>(match MZ (aK σ (.tmp t))with
  | some (f,ex)=>(match Φ f with
   |some (.i c)=>G9 N σ o.dst c (args.toList.map (aK σ)++ex) k
   |_=>none)
  |none=>none)
 | .makeFunc (.func f) ⟨[]⟩ D=>(match He σ D.toList with
  |some ps=>gY N σ o.dst (.fn f ps) k
  |none=>none)
 |.call ⟨.builtin .clear,⟨[x]⟩,⟨[t]⟩⟩=>Gx P σ t (aK σ x) λE=>gY N E o.dst .undef k
 |_=>none
def dB{X:Type}(P:Program)(N:Nat)(Φ:ep)(σ:S)(o:Oper)(k:S->aj X):aj X:=
 bif fM o.op then mJ P σ o.op λv=>gY N σ o.dst v k else iy P N Φ σ o k
def Hl{X:Type}(P:Program)(N:Nat)(Φ:ep)(σ:S)(o:Oper)(k:S->aj X):aj X:=
 match o.op,o.dst with
 | .store t x y,none=>(match aK σ y with
  |.view [q] s i j=>Hh P σ q s i j t (aK σ x) k
  |_=>dB P N Φ σ o k)
 |.slice t x (some lo) (some hi) (some C),some d=>DY P σ t (aK σ x) (aK σ lo) (aK σ hi) (aK σ C) (bif Nat.blt d N then k (σ.set d .undef)else none)
 |_,_=>dB P N Φ σ o k
def fX(σ:S)(ops:Array Oper)(o:Oper):aj Bool:=
 match o.guard with
 |none=>some true
 | some (j,want)=>match (ops[j]?).bind (·.dst)with
  | some t=>(match σ.t t with
   |.lf (.v (.bool b))=>some (b==want)
   |.skip=>some false
   |_=>none)
  |none=>none
def Ho(ops:Array Oper)(j:Nat):Bool:=ops.toList.any λo=>match o.guard with
 |some (i,_)=>Nat.beq i j
 |none=>false
def sD{X:Type}(σ:S)(C:aj Tmp)(g:Bool)(k:S->aj X):aj X:=
 bif g then (match C with
  | some d=>(match σ.t d with
   |.lf (.v (.bool b))=>bif b then k (σ.set d (.lf (.v (.bool true))))else k (σ.set d (.lf (.v (.bool false))))
   |_=>k σ)
  |none=>k σ)else k σ
def BA{X:Type}(P:Program)(N:Nat)(Φ:ep)(ops:Array Oper):Nat->aa Oper->S->(S->aj X)->aj X
 |_,[],σ,k=>k σ
 | j,o :: rest,σ,k=>match fX σ ops o with
  |some true=>Hl P N Φ σ o λC=>sD C o.dst (Ho ops j) λD=>BA P N Φ ops (j+1) rest D k
  |some false=>gY N σ o.dst .skip λC=>BA P N Φ ops (j+1) rest C k
  |none=>none
/-! Regions whose order is open: what is listed is a set of bits. -/
def dy{X:Type}(P:Program)(N:Nat)(Φ:ep)(ops:Array Oper)(σ:S)(o:Oper)(k:S->aj X):aj X:=
 match fX σ ops o with
 |some true=>dB P N Φ σ o k
 |some false=>gY N σ o.dst .skip k
 |none=>none
def l8(ops:Array Oper)(L j:Nat):Bool:=!L.testBit j&&(match ops[j]? with
 |some o=>o.after.toList.all λe=>!Region.binds .any e ||L.testBit e.on
 |none=>false)
def Hp(ops:Array Oper)(i W j:Nat):Bool:=(match ops[j]? with
 |some o=>o.after.toList.any λe=>Region.binds .any e&&(Nat.beq e.on i ||W.testBit e.on)
 |none=>false)
def waits(ops:Array Oper)(i:Nat):Nat->Nat->Nat->Nat
 |0,_,W=>W
 |n+1,j,W=>waits ops i n (j+1) (bif Hp ops i W j then W |||2 ^ j else W)
def eR(o:Oper)(n:Nat):Bool:=match o.dst with
 | some d=>(match o.op with
  |.alloc _|.box .. |.buildSlice .. |.makeSlice ..=>Nat.beq n d
  |.call ⟨.value (.func _),_,_⟩=>Nat.ble (1000000000100000+1000*d) n
  |.call ⟨.builtin .append,_,_⟩=>Nat.beq n d
  |_=>false)
 |none=>false
def M6(Φ:ep)(C:Op):Bool:=fM C || (match C with
 |.alloc _|.box .. |.buildSlice .. |.makeSlice ..=>true
 | .call ⟨.value (.func f),_,_⟩=>(match Φ f with
  |some (.p _)=>true
  |some (.q _)=>true
  |_=>false)
 |_=>false)
def hJ(g:Oper->Bool)(ops:Array Oper)(i L W:Nat):Nat->Nat->Bool
 |0,_=>false
 | f+1,j=>(!(Nat.beq j i || L.testBit j || W.testBit j)&&(match ops[j]? with
  |some C=>g C
  |none=>false)) ||hJ g ops i L W f (j+1)
def Hq(g:Oper->Bool)(ops:Array Oper)(C:Oper)(i L W:Nat):Nat->Nat->Bool
 |0,_=>true
 | n+1,j=>(Nat.beq j i || L.testBit j || (bif W.testBit j then Hp ops i W j else (match ops[j]? with
  |some D=>g D&&C.apart ops D
  |none=>true)))&&Hq g ops C i L W n (j+1)
def M7(c:nK):Bool:=c.ps.all λp=>match p with
 |.v _ _=>true
 |.p _ g _=>Nat.beq g 0
 |.s _ _=>false
def sE(ok:Nat->Nat->Bool)(σ:S):aa PK->aa Operand->Bool
 | .p _ _ _ :: ps,.tmp t :: xs=>(match σ.t t with
  |.aG r _=>ok t r
  |_=>false)&&sE ok σ ps xs
 |.v _ _::ps,_::xs=>sE ok σ ps xs
 |[],[]=>true
 |_,_=>false
def iJ(σ:S):aa PK->aa Operand->aa Nat
 | .p _ _ _ :: ps,x :: xs=>(match aK σ x with
  |.aG r _=>r::iJ σ ps xs
  |_=>iJ σ ps xs)
 |_::ps,_::xs=>iJ σ ps xs
 |_,_=>[]
def pn(Φ:ep)(σ:S)(o:Oper):aa Nat:=match o.op with
 | .call ⟨.value (.func f),args,_⟩=>(match Φ f with
  |some (.m c)=>iJ σ c.ps args.toList
  |_=>[])
 |_=>[]
def kf(t:Nat)(o:Oper):Bool:=match o.dst with
 |some d=>Nat.beq d t
 |none=>false
def vj(o:Oper):Bool:=(match o.op with
 |.alloc _=>true
 |_=>false)&&o.guard.isNone&&(match o.dst with
 |some d=>Nat.blt d 20000
 |none=>false)
def ou(o:Oper):Bool:=(match o.op with
 |.alloc _=>true
 |.buildSlice t _ _=>!qb t
 |.makeSlice ..=>true
 |_=>false)&&(match o.dst with
 |some d=>Nat.blt d 20000
 |none=>false)
def isApp(o:Oper):Bool:=match o.op with
 |.call ⟨.builtin .append,⟨[x,_]⟩,⟨[t,C]⟩⟩=>!qb t&&Nat.beq t C && !Bz o.dst t x
 |_=>false
def UC(Φ:ep)(ops:Array Oper)(i L W:Nat)(σ:S)(o:Oper):Bool:=match o.op with
 | .call ⟨.value (.func f),args,_⟩=>(match Φ f with
  |some (.m c)=>M7 c&&sE (λt r=>!hJ (kf t) ops i L W ops.size 0 && !hJ (λok=>eR ok r) ops i L W ops.size 0 && !hJ isApp ops i L W ops.size 0) σ c.ps args.toList
  |_=>false)
 |_=>false
def A.ov(p pb:Nat->Bool):A->Bool:=A.fr (tN p pb)
def zm(σ:S)(o:Oper):aa Nat:=match o.op with
 | .store _ (.tmp t) _=>(match σ.t t with
  |.aG r _=>[r]
  |_=>[])
 | .call ⟨.builtin .append,⟨[.tmp t,_]⟩,⟨[_,_]⟩⟩=>(match σ.t t with
  |.lf (.own [r])=>[r]
  |_=>[])
 |_=>[]
def M8(σ:S)(o:Oper):aa Nat:=match o.op with
 | .call ⟨.builtin .append,⟨[.tmp t,_]⟩,⟨[_,_]⟩⟩=>(match σ.t t with
  |.lf (.own [r])=>[r]
  |_=>[])
 |_=>[]
def an3(t:Nat)(o:Oper):Bool:=match o.op with
 |.store _ (.tmp C) _=>Nat.beq C t
 |_=>false
def faR(ops:Array Oper)(i L W:Nat)(σ:S)(o:Oper):aa Nat:=match o.op,o.dst with
 | .fieldAddr _ (.tmp x) _,some t=>bif hJ (an3 t) ops i L W ops.size 0 then (match σ.t x with
  |.aG r _=>[r]
  |_=>[])else []
 |_,_=>[]
def zn(Φ:ep)(ops:Array Oper)(i L W:Nat)(σ:S)(n:Nat):Bool:=
 hJ (λo=>eR o n) ops i L W ops.size 0 ||hJ (λo=>cY n (pn Φ σ o) ||cY n (zm σ o)) ops i L W ops.size 0
def zo(Φ:ep)(ops:Array Oper)(i L W:Nat)(σ:S)(n:Nat):Bool:=
 zn Φ ops i L W σ n ||hJ (λo=>cY n (faR ops i L W σ o)) ops i L W ops.size 0
def BB(σ:S)(ops:Array Oper)(i L W n:Nat):Bool:=hJ (λo=>eR o n) ops i L W ops.size 0 ||hJ (λo=>cY n (M8 σ o)) ops i L W ops.size 0
def zp(Φ:ep)(o:Oper):Bool:=match o.op with
 | .call ⟨.value (.func f),_,_⟩=>(match Φ f with
  |some (.p _)=>true
  |_=>false)
 |_=>false
def mK(Φ:ep)(ops:Array Oper)(i L W t:Nat):Bool:=!hJ (λok=>kf t ok && !(ou ok ||isApp ok ||zp Φ ok)) ops i L W ops.size 0
def UD(Φ:ep)(ops:Array Oper)(i L W:Nat)(o:Oper):Bool:=match o.op with
 |.call ⟨.builtin .append,⟨[.tmp t,_]⟩,⟨[ty,C]⟩⟩=>mK Φ ops i L W t&&(!qb ty&&Nat.beq ty C && !Bz o.dst ty (.tmp t))
 |_=>false
def mL(Φ:ep)(ops:Array Oper)(i L W:Nat)(σ:S)(x:Nat):Bool:=!hJ (kf x) ops i L W ops.size 0&&(match σ.t x with
 |.aG r _=>zo Φ ops i L W σ r
 |.jd _=>true
 |_=>false)
def M9(Φ:ep)(ops:Array Oper)(i L W:Nat)(σ:S)(o:Oper):Bool:=match o.op with
 |.fieldAddr _ (.tmp x) _=>mL Φ ops i L W σ x
 |_=>false
def Na(Φ:ep)(ops:Array Oper)(i L W:Nat)(σ:S)(t:Nat):Bool:=!hJ (λok=>kf t ok && !(vj ok ||M9 Φ ops i L W σ ok)) ops i L W ops.size 0
def Ge(Φ:ep)(ops:Array Oper)(i L W:Nat)(σ:S)(o:Oper):Bool:=match o.op with
 | .store _ (.tmp t) _=>o.dst.isNone&&Na Φ ops i L W σ t&&(match σ.t t with
  |.ptr _=>false
  |_=>true)
 |_=>false
def UE(σ:S)(p:Nat->Bool)(o:Oper):Bool:=o.op.operands.toList.all λx=>(aK σ x).nr p
def UF(σ:S)(p pb:Nat->Bool)(o:Oper):Bool:=(o.op.operands.toList.all λx=>(aK σ x).ov p pb)&&(match o.op with
 | .load _ x=>(match aK σ x with
  |.aG r _=>!p r
  |_=>true)
 |_=>true)
def abf(Φ:ep)(ops:Array Oper)(L:Nat)(σ:S)(i:Nat):Bool:=match ops[i]? with
 | some C=>(fM C.op || (match fX σ ops C with
  |some b=>!b
  |none=>false))&&Nat.beq ((L |||2 ^ i) &&& waits ops i ops.size 0 0) 0&&Hq (λD=>M6 Φ D.op ||UC Φ ops i L (waits ops i ops.size 0 0) σ D ||Ge Φ ops i L (waits ops i ops.size 0 0) σ D ||UD Φ ops i L (waits ops i ops.size 0 0) D) ops C i L (waits ops i ops.size 0 0) ops.size 0&&UF σ (zo Φ ops i L (waits ops i ops.size 0 0) σ) (BB σ ops i L (waits ops i ops.size 0 0)) C
 |none=>false
def Hr{X:Type}(P:Program)(N:Nat)(Φ:ep)(ops:Array Oper)(L i:Nat)(σ:S)(o:Oper)(k:S->aj X):aj X:=
 match fX σ ops o with
 |some true=>mJ P σ o.op λv=>bif v.ov (zo Φ ops i L (waits ops i ops.size 0 0) σ) (BB σ ops i L (waits ops i ops.size 0 0))then gY N σ o.dst v k else none
 |some false=>gY N σ o.dst .skip k
 |none=>none
/-! A call may be taken first where all that is free beside it are new blocks. -/
def A.fM:A->Bool
 |.lf (.v _)=>true
 | .agg cs=>cs.all λl=>match l with
  |.v _=>true
  |_=>false
 |_=>false
def UG(ops:Array Oper)(i L W:Nat)(σ:S)(o:Oper):Bool:=ou o&&(match fX σ ops o with
 |some b=>b
 | none=>false)&&(o.op.operands.toList.all λx=>(aK σ x).fM&&(match x with
  |.tmp t=>!hJ (kf t) ops i L W ops.size 0
  |_=>true))&&(match o.guard with
 | some (g,_)=>(match (ops[g]?).bind (·.dst)with
  |some t=>!hJ (kf t) ops i L W ops.size 0
  |none=>true)
 |none=>true)
def nN(Φ:ep)(o:Oper):Bool:=match o.op with
 | .call ⟨.value (.func f),_,_⟩=>(match Φ f with
  |some (.p _)=>true
  |some (.m _)=>true
  |_=>false)
 |_=>false
def Hs(o:Oper):Bool:=(match o.op with
 |.store _ (.tmp _) _=>true
 |_=>false)&&o.dst.isNone
def w7(σ:S)(o:Oper):Bool:=match o.op with
 | .store _ (.tmp t) _=>(match σ.t t with
  |.aG _ _=>true
  |_=>false)
 |_=>true
def Ht(Φ:ep)(o:Oper):Bool:=nN Φ o ||ou o ||isApp o ||Hs o
def w8(σ:S)(p:Nat->Bool)(r:Nat):Bool:=match σ.m r with
 |some (.aC cs)=>cs.all (Lf.nr p)
 |_=>true
def D0(o:Oper)(n:Nat):Bool:=kf n o
def abg(Φ:ep)(ops:Array Oper)(L:Nat)(σ:S)(i:Nat):Bool:=match ops[i]? with
 | some C=>Ht Φ C&&Nat.beq ((L ||| 2 ^ i) &&& waits ops i ops.size 0 0) 0&&Hq (UG ops i L (waits ops i ops.size 0 0) σ) ops C i L (waits ops i ops.size 0 0) ops.size 0 &&
   UE σ (λn=>hJ (λo=>D0 o n) ops i L (waits ops i ops.size 0 0) ops.size 0) C&&(pn Φ σ C).all (w8 σ (λn=>hJ (λo=>D0 o n) ops i L (waits ops i ops.size 0 0) ops.size 0))&&w7 σ C
 |none=>false
def rq(x:A)(n:Nat):aj V:=match x with
 | .eV xs=>(match xs[n]? with
  |some (false,[.v z])=>some z
  |_=>none)
 |_=>none
def UH(ops:Array Oper)(L:Nat)(σ:S)(i:Nat):Bool:=match ops[i]?,(List.range ops.size).filter (λj=>!(Nat.beq j i || L.testBit j))with
 | some C,[E]=>(match C.op,C.dst,C.guard,ops[E]? with
  | .extract (.tmp x) n,some _,none,some D=>(match D.op,D.dst,D.guard with
   |.store _ a b,none,none=>(rq (σ.t x) n).isSome&&w6 (aK σ a) (aK σ b)&&C.apart ops D
   |_,_,_=>false)
  |_,_,_,_=>false)
 |_,_=>false
def ru{X:Type}(P:Program)(N:Nat)(Φ:ep)(ops:Array Oper):Nat->Nat->S->(S->aj X)->aj X
 | 0,L,σ,k=>(match (List.range ops.size).filter (l8 ops L)with
  |[]=>k σ
  |_=>none)
 | f+1,L,σ,k=>(match (List.range ops.size).filter (l8 ops L)with
  |[]=>k σ
  | [i]=>(match ops[i]? with
   |some o=>dy P N Φ ops σ o λC=>sD C o.dst (Ho ops i) λD=>ru P N Φ ops f (L |||2 ^ i) D k
   |none=>none)
  | rs=>(match rs.find? (abf Φ ops L σ)with
   | some i=>(match ops[i]? with
    |some o=>Hr P N Φ ops L i σ o λC=>sD C o.dst (Ho ops i) λD=>ru P N Φ ops f (L |||2 ^ i) D k
    |none=>none)
   | none=>(match rs.find? (abg Φ ops L σ)with
    | some i=>(match ops[i]? with
     |some o=>dy P N Φ ops σ o λC=>sD C o.dst (Ho ops i) λD=>ru P N Φ ops f (L |||2 ^ i) D k
     |none=>none)
    | none=>(match rs.find? (UH ops L σ)with
     | some i=>(match ops[i]? with
      |some o=>dy P N Φ ops σ o λC=>sD C o.dst (Ho ops i) λD=>ru P N Φ ops f (L |||2 ^ i) D k
      |none=>none)
     |none=>none))))
/-! A new slice of constants may come first,beside values and calls of contents. -/
structure sF where
 run:(X:Type)->S->(Exit->S->Option X)->Option X
abbrev mM:=Nat->aj sF
def lH{X:Type}(P:Program)(N:Nat)(Φ:ep)(Λ:mM):Code->S->(Exit->S->aj X)->aj X
 |.skip,σ,k=>k .normal σ
 |.label _,σ,k=>k .normal σ
 |.ret,σ,k=>k .ret σ
 |.exit id,σ,k=>k (.exit id) σ
 |.region _ ops false,σ,k=>BA P N Φ ops 0 ops.toList σ λC=>k .normal C
 |.region _ ops true,σ,k=>bif P.follows .mixedOrders then ru P N Φ ops ops.size 0 σ λC=>k .normal C else none
 | .seq x y,σ,k=>lH P N Φ Λ x σ λe C=>match e with
  |.normal=>lH P N Φ Λ y C k
  |e=>k e C
 | .cond c x y,σ,k=>match aK σ c with
  |.lf (.v (.bool b))=>bif b then lH P N Φ Λ x σ k else lH P N Φ Λ y σ k
  |_=>none
 | .block id c,σ,k=>match Λ id with
  |some b=>b.run X σ k
  | none=>lH P N Φ Λ c σ λe C=>match e with
   |.exit D=>if D=id then k .normal C else k (.exit D) C
   |e=>k e C
 |_,_,_=>none
def AW(P:Program)(w0:Wd)(N:Nat)(c:Code)(σ:S)(K:Exit->S->Prop):Prop:=
 ∀a w,R w0 N σ a w->c.wp P (λe D w'=>∃C,K e C/\R w0 N C D w') a w
def occs:Code->aa (Nat×Code)
 |.seq x y=>occs x++occs y
 |.cond _ x y=>occs x++occs y
 |.block id c=>(id,c)::occs c
 |_=>[]
def BE(P:Program)(N:Nat)(c:Code)(b:sF):Prop:=∀(X:Type) σ k (r:X) w0,b.run X σ k=some r->AW P w0 N c σ λe C=>k e C=some r
def pq(P:Program)(N:Nat)(Λ:mM)(l:aa (Nat×Code)):Prop:=∀p∈l,∀b,Λ p.1=some b->BE P N (.block p.1 p.2) b
section
variable {P:Program} {w w':World} {w0:Wd} {B N:Nat} {ah aD:bE} {ρ ρ':Nat->Loc} {σ:S} {a:Act} {X:Type} {d:Nat} {r:X} {o:Oper} {Φ:ep} {Λ:mM}
def lu.mem{C:S}(D:o.dst=some d)(h:∀ ah ρ a w,Rl w0 N ah ρ σ a w->∃ w' aD ρ' v,(execOp a.eval o).run P w = .ok (.value v) w'/\Rl w0 N aD ρ' C (a.put (some d) v) w'):lu P w0 N o σ C:=by
 intro a w K Q hR E;obtain⟨ah,ρ,hR⟩:=hR;obtain⟨w',aD,ρ',v,I,L⟩:=h ah ρ a w hR;unfold Oper.wp;rw[I,Oper.upon_value,D];exact E _ _ ⟨aD,ρ',L⟩
def jG{k:Nat -> aj X}(h:gD o k=some r):∃ d,o.dst=some d/\k d=some r:=by
 unfold gD at h
 grind
def jt{s:Sem Value}{v:Value}(h:s.run P w = .ok v w'):(do pure (.value (<-s)):Sem Next).run P w = .ok (.value v) w':=by
 rw[gd,h];rfl
def abh{b:Go.Builtin}{x:Operand}{t:TypeId}{v:Value}(C:o.op = .call ⟨.builtin b,⟨[x]⟩,⟨[t]⟩⟩)(h:∀ cs,(builtin b #[t] o.type cs #[a.eval x]).run P w = .ok (.value v) w'):(execOp a.eval o).run P w = .ok (.value v) w':=by
 simp only[execOp,C,resolve,gd,Sem.run_pure,mB,invoke,List.map_toArray,List.map_cons,List.map_nil];exact h _
def UI{b:Go.Builtin}{x y:Operand}{t C:TypeId}{v:Value}(D:o.op = .call ⟨.builtin b,⟨[x,y]⟩,⟨[t,C]⟩⟩)(h:∀ cs,(builtin b #[t,C] o.type cs #[a.eval x,a.eval y]).run P w = .ok (.value v) w'):(execOp a.eval o).run P w = .ok (.value v) w':=by
 simp only[execOp,D,resolve,gd,Sem.run_pure,mB,invoke,List.map_toArray,List.map_cons,List.map_nil];exact h _
def UJ{C:Op}:cI λX k=>mJ (X:=X) P σ C k:=λX Y k g=>by
 unfold mJ;split
 ·rfl
 ·rfl
 ·repeat' first|rfl|refine de ?_ ?_|split
 ·exact anc _ _ _ _
 ·exact aaS _ _ _ _
 ·exact am6 _ _ _ _
 ·exact(Ui.comp λa=>am7.comp (b:=λX k z=>k (.lf (.v z))) λz _ _ _ _=>rfl) X Y k g
 ·exact ang _ _ _ _
 ·exact am8 _ _ _ _
 ·exact ane _ _ _ _
 ·exact am9 _ _ _ _
 ·exact anf _ _ _ _
 ·exact anb _ _ _ _
 ·unfold MT;split<;>rfl
 ·exact ana _ _ _ _
 ·exact aaT _ _ _ _
 ·exact aaT _ _ _ _
 ·exact anh _ _ _ _
 ·rfl
def UK{op:Op}{k:A->aj X}(h:mJ P σ op k=some r):∃ v,k v=some r/\mF (λX k=>mJ (X:=X) P σ op k) v/\∀ ah ρ a w (o:Oper),o.op=op->Rl w0 N ah ρ σ a w->∃ u,(execOp a.eval o).run P w = .ok (.value u) w/\RA w w0.heap.size ah ρ v u:=by
 obtain⟨z,L,U⟩:=UJ.lX h
 refine⟨z,L,U,λah ρ a w o I hR=>?_⟩
 replace h:mJ P σ op some=some z:=U A some;clear U L;unfold mJ at h;split at h
 ·cases h;exact⟨_,by simp[execOp,I],hR.aK _⟩
 ·cases h;exact⟨_,by simp[execOp,I],hR.aK _⟩
 ·rename_i c x y;split at h
  ·rename_i b hb;have Z:=hR.aK c;rw[hb]at Z;have hv:=Z.2.yF;cases b with
   |true=>cases h;exact⟨a.eval x,by simp[execOp,I,hv,asBool],hR.aK x⟩
   |false=>cases h;exact⟨a.eval y,by simp[execOp,I,hv,asBool],hR.aK y⟩
  ·cases h
 next t parts=>obtain⟨_,⟨⟩,C⟩:=al3 (w0:=w0) (N:=N) h;obtain⟨v,D,E⟩:=C ah ρ a w hR;exact⟨v,by simp only[execOp,I];exact jt D,E⟩
 next t x=>obtain⟨_,⟨⟩,C⟩:=ZU (w0:=w0) (N:=N) h;obtain⟨v,D,E⟩:=C ah ρ a w hR _ (hR.aK x);exact⟨v,by simp only[execOp,I];exact jt D,E⟩
 next op t x y yt=>obtain⟨_,⟨⟩,C⟩:=ame (w0:=w0) (N:=N) h;obtain⟨v,D,E⟩:=C ah ρ a w hR x y _ _ (hR.aK x) (hR.aK y);exact⟨v,by simp only[execOp,I];exact jt D,E⟩
 next op t x=>obtain⟨u,hx,h⟩:=SU h;obtain⟨_,⟨⟩,hp,C⟩:=alI (P:=P) h;have L:=hR.aK x;rw[hx]at L;obtain⟨O,D,Y⟩:=C w _ ah [] _ L.2;exact⟨O,by simp only[execOp,I];exact jt D,V.Gi hp,Y⟩
 next s d' x=>obtain⟨_,⟨⟩,C⟩:=ama (w0:=w0) (N:=N) h;obtain⟨v,D,E⟩:=C ah ρ a w hR _ (hR.aK x);exact⟨v,by simp only[execOp,I];exact jt D,E⟩
 next s x f=>obtain⟨_,⟨⟩,C⟩:=alL h;obtain⟨v,D,E⟩:=C w _ ah ρ _ (hR.aK x);exact⟨v,by simp only[execOp,I];exact jt D,E⟩
 next s x f=>obtain⟨_,⟨⟩,C⟩:=amb h;obtain⟨v,D,E⟩:=C w _ ah ρ _ (hR.aK x);exact⟨v,by simp only[execOp,I];exact jt D,E⟩
 next t x i=>obtain⟨_,⟨⟩,C⟩:=alM (w0:=w0) (N:=N) h;obtain⟨v,D,E⟩:=C ah ρ a w hR _ _ (hR.aK x) (hR.aK i);exact⟨v,by simp only[execOp,I];exact jt D,E⟩
 next t x i=>obtain⟨_,⟨⟩,C⟩:=al9 h;obtain⟨v,D,E⟩:=C w _ ah ρ _ _ (hR.aK x) (hR.aK i);exact⟨v,by simp only[execOp,I];exact jt D,E⟩
 next x i=>obtain⟨_,⟨⟩,C⟩:=alO (P:=P) h;obtain⟨v,D,E⟩:=C w _ ah ρ _ (hR.aK x);exact⟨v,by simp only[execOp,I];exact jt D,E⟩
 next x=>obtain⟨h,C⟩:=ano (w:=w) (B:=w0.heap.size) (ah:=ah) (ρ:=ρ) h;cases h;obtain⟨ad,hu⟩:=C _ (hR.aK x);refine⟨a.eval x,?_,hR.aK x⟩;simp only[execOp,I,hu];rfl
 next x t=>obtain⟨_,⟨⟩,C⟩:=alN (w0:=w0) (N:=N) (ty:=o.type) h;obtain⟨v,D,E⟩:=C ah ρ a w hR _ (hR.aK x);exact⟨v,abh I λ_=>jt D,E⟩
 next x y t O=>obtain⟨_,⟨⟩,C⟩:=aah (P:=P) h;obtain⟨v,D,E⟩:=C w _ ah ρ t o.type _ _ (hR.aK x) (hR.aK y);exact⟨v,UI I λ_=>jt (s:=Builtin.max_ #[t,O] o.type #[a.eval x,a.eval y]) D,E⟩
 next x y t O=>obtain⟨_,⟨⟩,C⟩:=aah (P:=P) h;obtain⟨v,D,E⟩:=C w _ ah ρ t o.type _ _ (hR.aK x) (hR.aK y);exact⟨v,UI I λ_=>jt (s:=Builtin.min_ #[t,O] o.type #[a.eval x,a.eval y]) D,E⟩
 ·rename_i t x lo hi;obtain⟨_,⟨⟩,C⟩:=amj (w0:=w0) (N:=N) h;have T:∀ z:aj Operand,(∀ b,z.map (aK σ)=some b->∃ v,z.map a.eval=some v/\RA w w0.heap.size ah ρ b v)/\(z.map (aK σ)=none->z.map a.eval=none):=by
   intro z;cases z with
   |none=>exact⟨λb hb=>(by cases hb),λ_=>rfl⟩
   |some z=>exact⟨λb hb=>(by cases hb;exact⟨_,rfl,hR.aK z⟩),λhb=>(by cases hb)⟩
  obtain⟨v,D,Y⟩:=C ah ρ a w hR _ _ _ (hR.aK x) (T lo).1 (T lo).2 (T hi).1 (T hi).2;exact⟨v,by simp only[execOp,I];exact jt D,Y⟩
 ·cases h
def lu.skip{C:S}(D:o.dst=none)(h:∀ ah ρ a w,Rl w0 N ah ρ σ a w->∃ w' aD,(execOp a.eval o).run P w = .ok .skip w'/\Rl w0 N aD ρ C a w'):lu P w0 N o σ C:=by
 intro a w K Q hR E;obtain⟨ah,ρ,hR⟩:=hR;obtain⟨w',aD,I,L⟩:=h ah ρ a w hR;unfold Oper.wp;rw[I,Oper.upon_skip,D];exact E _ _ ⟨aD,ρ,L⟩
def Nb{s:Sem af}(h:s.run P w = .ok () w'):(do s;pure .skip:Sem Next).run P w = .ok .skip w':=by
 rw[gd,h];rfl
def an4{k:S->aj X}(dQ:fL P Φ)(h:iy P N Φ σ o k=some r):∃ L,k L=some r/\lu P w0 N o σ L:=by
 unfold iy at h;split at h
 ·rename_i e C;obtain⟨d,D,h⟩:=jG h;obtain⟨L,h,O⟩:=alU (w0:=w0) h
  refine⟨L,h,.mem D λah ρ a w hR=>?_⟩
  obtain⟨w',aD,ρ',v,E,I⟩:=O ah ρ a w hR;exact⟨w',aD,ρ',v,by simp only[execOp,C];exact jt E,I⟩
 ·rename_i e x C;obtain⟨d,D,h⟩:=jG h;obtain⟨L,h,O⟩:=anm (w0:=w0) (e:=e) h
  refine⟨L,h,.mem D λah ρ a w hR=>?_⟩
  obtain⟨w',aD,ρ',v,E,I⟩:=O ah ρ a w hR _ (hR.aK x);exact⟨w',aD,ρ',v,by simp only[execOp,C];exact jt E,I⟩
 ·rename_i t len parts C;obtain⟨d,D,h⟩:=jG h;cases hn:qb t with
  | true=>
   rw[hn,aq]at h;obtain⟨L,h,O⟩:=anp (w0:=w0) h
   refine⟨L,h,.mem D λah ρ a w hR=>?_⟩
   obtain⟨w',aD,ρ',v,E,I⟩:=O ah ρ a w hR;exact⟨w',aD,ρ',v,by simp only[execOp,C];exact jt E,I⟩
  | false=>
   rw[hn,au]at h;obtain⟨L,h,O⟩:=al7 (w0:=w0) h
   refine⟨L,h,.mem D λah ρ a w hR=>?_⟩
   obtain⟨w',aD,ρ',v,E,I⟩:=O ah ρ a w hR;exact⟨w',aD,ρ',v,by simp only[execOp,C];exact jt E,I⟩
 ·rename_i t x y C;split at h
  ·rename_i D;cases hn:w6 (aK σ x) (aK σ y)with
   | true=>
    rw[hn,aq]at h;obtain⟨L,h,O⟩:=anx (w0:=w0) (N:=N) h
    refine⟨L,h,.skip D λah ρ a w hR=>?_⟩
    obtain⟨w',aD,E,I⟩:=O ah ρ a w hR _ _ (hR.aK x) (hR.aK y);exact⟨w',aD,by simp only[execOp,C];exact Nb E,I⟩
   | false=>
    rw[hn,au]at h;obtain⟨L,h,O⟩:=ZW (w0:=w0) (N:=N) h
    refine⟨L,h,.skip D λah ρ a w hR=>?_⟩
    obtain⟨w',E,I⟩:=O ah ρ a w hR _ _ (hR.aK x) (hR.aK y);exact⟨w',ah,by simp only[execOp,C];exact Nb E,I⟩
  ·cases h
 ·rename_i t l c C;obtain⟨d,D,h⟩:=jG h;obtain⟨L,h,O⟩:=alV (w0:=w0) h
  refine⟨L,h,.mem D λah ρ a w hR=>?_⟩
  obtain⟨w',aD,ρ',v,E,I⟩:=O ah ρ a w hR _ _ (hR.aK l) (hR.aK c);exact⟨w',aD,ρ',v,by simp only[execOp,C];exact jt E,I⟩
 ·rename_i f args jE C;split at h
  next c T=>obtain⟨d,D,h⟩:=jG h;obtain⟨U,Y⟩:=dQ f _ T;exact aas C D U Y (aaq (w0:=w0) (N:=N) _) h
  next c T=>obtain⟨U,Y⟩:=dQ f _ T;exact amL C U Y h
  next c T=>obtain⟨d,D,h⟩:=jG h;obtain⟨U,Y⟩:=dQ f _ T;exact anD C D U Y h
  ·rename_i F T;obtain⟨d,D,h⟩:=jG h;obtain⟨U,Y⟩:=dQ f _ T;split at h
   next x hx=>exact anC C hx D U Y h
   ·cases h
  next c T=>obtain⟨U,Y⟩:=dQ f _ T;exact aa8 (ex:=[]) C rfl U Y h
  next c T=>obtain⟨U,Y⟩:=dQ f _ T;exact amR C U Y h
  next c T=>obtain⟨d,D,h⟩:=jG h;obtain⟨U,Y⟩:=dQ f _ T;exact aas C D U Y (amo (w0:=w0) (N:=N) _) h
  next c T=>obtain⟨U,Y⟩:=dQ f _ T;exact anK C U Y h
  ·cases h
 ·rename_i x y t t' C;cases nE:Nat.beq t t' with
  |false=>rw[nE]at h;cases h
  | true=>
   rw[nE,aq]at h;obtain rfl:=cC nE;obtain⟨d,D,h⟩:=jG h;have hh:∃ L,k L=some r/\∀ ah ρ a w,Rl w0 N ah ρ σ a w->∀ u v,RA w w0.heap.size ah ρ (aK σ x) u->RA w w0.heap.size ah ρ (aK σ y) v->
     ∃w' aD ρ' z,(Builtin.append_ #[t,t] o.type #[u,v]).run P w = .ok z w'/\Rl w0 N aD ρ' L (a.put (some d) z) w':=by
    cases hn:qb t with
    |true=>rw[hn,aq]at h;exact anv h
    | false=>
     rw[hn,au]at h;cases hk:M5 t d x with
     |true=>rw[hk,aq]at h;exact an1 h
     |false=>rw[hk,au]at h;exact alW h
   obtain⟨L,h,O⟩:=hh
   refine⟨L,h,.mem D λah ρ a w hR=>?_⟩
   obtain⟨w',aD,ρ',v,E,I⟩:=O ah ρ a w hR _ _ (hR.aK x) (hR.aK y);exact⟨w',aD,ρ',v,UI C λ_=>jt E,I⟩
 ·rename_i t C;obtain⟨d,D,h⟩:=jG h;obtain⟨L,h,O⟩:=anQ (w0:=w0) (t:=t) (P:=P) h
  refine⟨L,h,.mem D λah ρ a w hR=>?_⟩
  obtain⟨w',aD,ρ',v,E,I⟩:=O ah ρ a w hR;exact⟨w',aD,ρ',v,by simp only[execOp,C];exact jt E,I⟩
 ·rename_i t x i C;obtain⟨v,Z,_,O⟩:=anU (w0:=w0) (N:=N) h
  refine lu.val Z λah ρ a w hR=>?_
  obtain⟨y,E,I⟩:=O ah ρ a w hR _ _ (hR.aK x) (hR.aK i);exact⟨y,by simp only[execOp,C];exact jt E,I⟩
 ·rename_i t x i v C;split at h
  ·rename_i D;obtain⟨L,h,_,O⟩:=anV (w0:=w0) (N:=N) h
   refine⟨L,h,.skip D λah ρ a w hR=>?_⟩
   obtain⟨w',E,I⟩:=O ah ρ a w hR _ _ _ (hR.aK x) (hR.aK i) (hR.aK v);exact⟨w',ah,by simp only[execOp,C];exact Nb E,I⟩
  ·cases h
 ·rename_i t args jE C;split at h
  ·rename_i f cap wO;split at h
   next c T=>obtain⟨U,Y⟩:=dQ f _ T;exact aa8 C wO U Y h
   ·cases h
  ·cases h
 ·rename_i f abi C;split at h
  ·rename_i ps q6;obtain⟨Z,h2⟩:=aa9 (w0:=w0) (N:=N) _ _ q6
   refine lu.val h λah ρ a w hR=>⟨.func (.func f) #[] (abi.map a.eval),by simp[execOp,C,Instr.makeFunc],_,rfl,by simp[Z],λj p hp=>?_⟩
   obtain⟨b,off,e1,e2⟩:=h2 ah ρ a w hR j p hp;exact⟨b,off,e1,by simpa using e2⟩
  ·cases h
 ·rename_i x t C;obtain⟨qa,Z,O⟩:=alZ (w0:=w0) (N:=N) (ty:=o.type) h;have run:∀ ah ρ a w,Rl w0 N ah ρ σ a w->∃ w',(execOp a.eval o).run P w = .ok (.value (.tuple #[])) w'/\Rl w0 N ah ρ qa a w':=by
   intro ah ρ a w hR;obtain⟨w',E,I⟩:=O ah ρ a w hR _ (hR.aK x);exact⟨w',abh C λ_=>jt E,I⟩
  unfold gY at Z;split at Z
  ·rename_i D
   refine⟨_,Z,λa w K Q hR hK=>?_⟩
   obtain⟨ah,ρ,hR⟩:=hR;obtain⟨w',E,I⟩:=run ah ρ a w hR;unfold Oper.wp;rw[E,Oper.upon_value,D];exact hK _ _ ⟨ah,ρ,I⟩
  ·rename_i d D;cases hN:Nat.blt d N with
   |false=>rw[hN]at Z;cases Z
   | true=>
    rw[hN,aq]at Z
    refine⟨_,Z,.mem D λah ρ a w hR=>?_⟩
    obtain⟨w',E,I⟩:=run ah ρ a w hR;exact⟨w',ah,ρ,_,E,I.set trivial (by have:=cK hN;omega)⟩
 ·cases h
def UL{k:S -> aj X}(E:fL P Φ)(h:dB P N Φ σ o k=some r):∃ C,k C=some r/\lu P w0 N o σ C:=by
 unfold dB at h;cases D:fM o.op with
 | true=>
  rw[D,aq]at h;obtain⟨v,I,_,L⟩:=UK h;exact lu.val I λah ρ a w hR=>L ah ρ a w o rfl hR
 | false=>
  rw[D]at h;exact an4 E h
def an5{k:S->aj X}(U:fL P Φ)(h:Hl P N Φ σ o k=some r):∃ D,k D=some r/\lu P w0 N o σ D:=by
 unfold Hl at h;split at h
 ·rename_i t x y E I;split at h
  ·rename_i q s i j Z;obtain⟨D,C,L⟩:=anN (w0:=w0) (N:=N) h
   refine⟨D,C,.skip I λah ρ a w hR=>?_⟩
   have Y:=hR.aK y;rw[Z]at Y;obtain⟨w',aD,O,dV⟩:=L ah ρ a w hR _ _ (hR.aK x) Y;exact⟨w',aD,by simp only[execOp,E];exact Nb O,dV⟩
  ·exact UL U h
 ·rename_i t x lo hi mx d E I;obtain⟨C,L⟩:=anP (w0:=w0) (N:=N) h;cases T:Nat.blt d N with
  |false=>rw[T]at C;cases C
  | true=>
   rw[T,aq]at C
   refine⟨_,C,.mem I λah ρ a w hR=>?_⟩
   obtain⟨v,O⟩:=L ah ρ a w hR _ _ _ _ (hR.aK x) (hR.aK lo) (hR.aK hi) (hR.aK mx);refine⟨w,ah,ρ,v,?_,hR.set trivial (by have:=cK T;omega)⟩;simp only[execOp,E,Option.map_some];exact jt O
 ·exact UL U h
/-! What an operation gives hangs on its operands and on the roots that they name. -/
def A.key:A->aj (aa Nat)
 |.lf (.own q)=>some q
 |.view q _ _ _=>some q
 |.ptr (_::_::_::q)=>some q
 |_=>none
def Sm(σ2 σ:S)(x:A):Prop:=∀q,x.key=some q->∀(X:Type) (k:V->aj X),jf σ2.m q k=jf σ.m q k
def Sm.eq{σ2:S}(C:σ2.m=σ.m)(x:A):Sm σ2 σ x:=λq _ X k=>by rw[C]
def Sm.lf{σ2:S}{l:Lf}(h:Sm σ2 σ (.lf l))(k:V->aj X):oT σ2 l k=oT σ l k:=by
 cases l with
 |own q=>exact h q rfl X k
 |_=>rfl
def Sm.bin{σ2:S}{C:BinOp}{t:TypeId}{x y:A}(h:Sm σ2 σ x)(k:A->aj X):yT P σ2 C t x y k=yT P σ C t x y k:=by
 unfold yT;split
 ·rfl
 ·split
  ·exact h.lf _
  ·rfl
 ·rfl
def Sm.conv{σ2:S}{t C:TypeId}{x:A}(h:Sm σ2 σ x)(k:A->aj X):yQ P σ2 t C x k=yQ P σ t C x k:=by
 unfold yQ;split
 ·rfl
 ·exact h.lf _
 ·rfl
def Sm.idx{σ2:S}{t:TypeId}{x i:A}(h:Sm σ2 σ x)(k:A->aj X):yH P σ2 t x i k=yH P σ t x i k:=by
 unfold yH;split
 ·rfl
 ·split
  ·split
   ·rfl
   ·exact h _ rfl _ _
   ·rfl
  ·rfl
def Sm.len{σ2:S}{t:TypeId}{x:A}(h:Sm σ2 σ x)(k:A->aj X):A8 P σ2 t x k=A8 P σ t x k:=by
 cases x with
 |lf l=>exact h.lf _
 |_=>rfl
def Sm.slc{σ2:S}{t:TypeId}{x:A}{lo hi:aj A}(h:Sm σ2 σ x)(k:A->aj X):yV P σ2 t x lo hi k=yV P σ t x lo hi k:=by
 unfold yV Bh;split
 ·simp only[h _ rfl]
 ·simp only[h _ rfl]
 ·rfl
def Sm.load{σ2:S}{t:TypeId}{x:A}(h:Sm σ2 σ x)(hb:∀ r j,x = .aG r j->σ2.m r=σ.m r)(k:A->aj X):oa P σ2 t x k=oa P σ t x k:=by
 unfold oa;split
 ·rfl
 ·split
  ·rw[hb _ _ rfl]
  ·rfl
  ·exact h _ rfl _ _
  ·rfl
def abj{σ2:S}(C:Op)(h:∀ x∈C.operands,aK σ2 x=aK σ x/\Sm σ2 σ (aK σ x))(hl:∀ t x,C = .load t x->∀ k:A->aj X,oa P σ2 t (aK σ x) k=oa P σ t (aK σ x) k)(k:A->aj X):mJ P σ2 C k=mJ P σ C k:=by
 unfold mJ;split
 case h_4 t parts=>
  have e:(parts.toList.map λp=>(p.1,aK σ2 p.2))=parts.toList.map λp=>(p.1,aK σ p.2):=List.map_congr_left λp I=>by rw[(h p.2 (by simp only[Op.operands];exact List.mem_toArray.2 (List.mem_map_of_mem (f:=(·.2)) I))).1]
  simp only[Dy,e]
 case h_18 t x lo hi=>
  have e:∀ z:aj Operand,(∀ y,z=some y->aK σ2 y=aK σ y)->z.map (aK σ2)=z.map (aK σ):=by
   intro z L;cases z with
   |none=>rfl
   |some z=>exact bq some (L z rfl)
  have E:=h x (by simp[Op.operands]);rw[E.1,e lo (λy D=>(h y (by subst D;simp[Op.operands])).1),e hi (λy D=>(h y (by subst D;simp[Op.operands])).1)];exact E.2.slc k
 all_goals simp[Op.operands,Call.operands]at h
 case h_5=>rw[h.1];exact hl _ _ rfl k
 case h_6=>rw[h.1.1,h.2.1];exact h.1.2.bin k
 case h_8=>rw[h.1];exact h.2.conv k
 case h_11=>rw[h.1.1,h.2.1];exact h.1.2.idx k
 case h_15=>rw[h.1];exact h.2.len k
 all_goals first|rfl|simp only[h]
def abk{σ2:S}(C:Op)(D:σ2.m=σ.m)(h:∀ x∈C.operands,aK σ2 x=aK σ x)(k:A->aj X):mJ P σ2 C k=mJ P σ C k:=
 abj C (λx E=>⟨h x E,.eq D _⟩) (λt x _ k=>(Sm.eq D _).load (λr _ _=>by rw[D]) k) k
def abl{σ2:S}(C:σ2.m=σ.m)(q:aa Nat)(s i j:Nat)(k:V->aj X):uS σ2 q s i j k=uS σ q s i j k:=by
 simp only[uS,C]
def UM{σ2:S}(C:σ2.m=σ.m)(x:Lf)(k:V->aj X):oT σ2 x k=oT σ x k:=(Sm.eq C _).lf k
def an6{σ2:S}(C:σ2.m=σ.m)(x:A)(k:V->aj X):sj σ2 x k=sj σ x k:=by
 cases x<;>simp only[sj,UM C,abl C]
def UN{σ2:S}(C:σ2.m=σ.m):∀ (xs:aa Lf) (k:aa V->aj X),qZ σ2 xs k=qZ σ xs k
 |[],k=>rfl
 | x :: xs,k=>by
  simp only[qZ,UM C,UN C xs]
def abm{σ2:S}(C:σ2.m=σ.m)(x:A)(k:Pt->aj X):oe σ2 x k=oe σ x k:=by
 unfold oe;simp only[UN C,abl C]
def UO{σ2:S}{f:A->(Pt->aj X)->aj X}:∀ (xs:aa Operand) (k:aa Pt->aj X),(∀ x∈xs,aK σ2 x=aK σ x)->uX f σ2 xs k=uX f σ xs k
 |[],k,_=>rfl
 | x :: xs,k,h=>by
  simp only[uX,h x (.head _),UO xs _ λy C=>h y (.tail _ C)]
def an7{σ2:S}(C:σ2.m=σ.m)(xs:aa Operand)(k:aa Pt->aj X)(h:∀ x∈xs,aK σ2 x=aK σ x):su σ2 xs k=su σ xs k:=by
 unfold su;rw[show oe σ2=oe σ from funext λx=>funext λk=>abm C x k,UO xs k h]
def an8{σ2:S}(C:σ2.m=σ.m)(x:A)(k:Pt->aj X):uW σ2 x k=uW σ x k:=by
 unfold uW;simp only[abm C,UN C,C]
def an9{σ2:S}(C:σ2.m=σ.m)(xs:aa Operand)(k:aa Pt->aj X)(h:∀ x∈xs,aK σ2 x=aK σ x):Bi σ2 xs k=Bi σ xs k:=by
 unfold Bi;rw[show uW σ2=uW σ from funext λx=>funext λk=>an8 C x k,UO xs k h]
/-! .. and a root that it does not name is of no account. -/
def Hu(n:Nat)(x:aW)(m:Nat->aj aW):Nat->aj aW:=bV (λr=>bif Nat.beq r n then none else (m r).map (aW.drop n)) n (some x)
def abn{n:Nat}{x:aW}{m:Nat->aj aW}{q:Nat}(h:q≠n):Hu n x m q=(m q).map (aW.drop n):=by
 unfold Hu;rw[cH _ _ _ h,oQ h];rfl
def Nc{m m':Nat->aj aW}{p:Nat->Bool}(D:∀ r,p r=false->∀ y,m' r=some (.sl y) ↔ m r=some (.sl y)):∀ (q:aa Nat) (k:V->aj X),ot p q=true->jf m' q k=jf m q k
 |[],_,_=>rfl
 | [r],k,h=>by
  have E:=D r (by simpa [ot,iP]using h);simp only[jf];split
  next y C=>rw[(E y).1 C]
  ·rename_i I;split
   next y C=>exact absurd ((E y).2 C) (I y)
   ·rfl
 |[_,_],_,_=>rfl
 |[j,i,s],k,h=>rfl
 | j :: i :: s :: L :: q,k,h=>by
  simp only[jf];exact Nc D (L::q) _ (by simpa [ot,L8]using h)
def aoa{n:Nat}{q:aa Nat}(h:cS n q=false):ot (λr=>Nat.beq r n) q=true:=by
 unfold ot iP;unfold cS at h;split
 next r C=>rw[C]at h;show (!Nat.beq r n)=true;rw[oQ (show r≠n by simpa using h)];rfl
 ·rfl
def aW.Hv(n:Nat)(cs:aa Lf):(aW.aC cs).drop n = .aC (cs.map (Lf.drop n)):=rfl
def aob{n:Nat}(z:aj aW)(y:V):z.map (aW.drop n)=some (.sl y) ↔ z=some (.sl y):=by
 cases z with
 |none=>simp
 |some z=>cases z<;>simp[aW.drop,aW.cF]
def abo{n:Nat}{x:aW}{m:Nat->aj aW}{r:Nat}(h:r≠n)(y:V):Hu n x m r=some (.sl y) ↔ m r=some (.sl y):=by
 rw[abn h];exact aob _ y
def Hw{p:Nat->Bool}{r n:Nat}(h:p r=false)(C:p n=true):r≠n:=by
 rintro rfl;rw[C]at h;cases h
def aoc{n:Nat}{x:aW}{m:Nat->aj aW}(q:aa Nat)(k:V->aj X)(h:cS n q=false):jf (Hu n x m) q k=jf m q k:=
 Nc (p:=λr=>Nat.beq r n) (λr C y=>abo (Hw (p:=λr=>Nat.beq r n) C (Nat.beq_refl n)) y) q k (aoa h)
def aod{p:Nat->Bool}{r j n:Nat}(h:(A.aG r j).nr p=true)(C:p n=true):r≠n:=
 Hw (by simpa [A.nr,A.fr,tN]using h) C
def abp{p pb:Nat->Bool}{x:A}{q:aa Nat}(h:x.ov p pb=true)(e:x.key=some q):ot p q=true:=by
 unfold A.key at e;split at e
 ·injection e with e;subst e;exact h
 ·injection e with e;subst e;exact h
 ·rename_i j i s C;injection e with e;subst e;have h:ot p (j :: i :: s :: C)=true:=h;cases C with
  |nil=>rfl
  |cons D q=>simpa [ot,L8]using h
 ·cases e
def aoe{p pb:Nat->Bool}{t:TypeId}{cs:aa Lf}{y:A}(h:wH P t cs some=some y)(C:y.ov p pb=true):∀ c∈cs,c.nr p=true:=by
 unfold wH at h;split at h
 ·split at h
  ·split at h
   ·injection h with h;subst h;exact cu.1 C
   ·split at h
    ·injection h with h;subst h;intro c D;rw[kI.1 D];exact C
    ·cases h
   ·cases h
  ·cases h
 ·cases h
def A.xb:A->Bool
 |.aG .. |.ptr _|.lf (.own _)=>true
 |_=>false
def A.abq(x:A)(K:nB):x.cF K=x\/(x.cF K).xb=false:=by
 cases x with
 | lf l=>cases l with
  |own k=>cases h:K.l k<;>simp[A.cF,Lf.cF,h,A.xb]
  |_=>exact .inl rfl
 |ptr k=>cases h:K.p k<;>simp[A.cF,h,A.xb]
 |aG r j=>cases h:K.r r<;>simp[A.cF,h,A.xb]
 |pk r j=>cases h:K.r r<;>simp[A.cF,h,A.xb]
 |view k s i j=>cases h:K.p k<;>simp[A.cF,h,A.xb]
 |fn f cap=>cases h:(cap.any λp=>K.r p.1)<;>simp[A.cF,h,A.xb]
 |_=>exact .inr rfl
structure gO (p pb:Nat->Bool) (σ c8:S):Prop where
 t:∀{g},(σ.t g).ov p pb=true->c8.t g=σ.t g
 sl:∀r,p r=false->∀y,c8.m r=some (.sl y) ↔ σ.m r=some (.sl y)
 aC:∀r,p r=false->∀cs,σ.m r=some (.aC cs)->∃f:Lf->Lf,c8.m r=some (.aC (cs.map f))/\∀l,l.nr p=true->f l=l
 nw:∀g,c8.t g=σ.t g\/(c8.t g).xb=false
def gO.refl{p pb:Nat->Bool}(σ:S):gO p pb σ σ:=
 ⟨λ_=>rfl,λ_ _ _=>.rfl,λ_ _ cs h=>⟨id,by rw[List.map_id];exact h,λ_ _=>rfl⟩,λ_=>.inl rfl⟩
def gO.trans{p pb:Nat->Bool}{σ E I:S}(h:gO p pb σ E)(D:gO p pb E I):gO p pb σ I:=by
 refine⟨λ{g} L=>?_,λr C y=>(D.sl r C y).trans (h.sl r C y),λr C cs O=>?_,λg=>?_⟩
 ·have e:=h.t L;rw[D.t (by rw[e];exact L),e]
 ·obtain⟨f,T,U⟩:=h.aC r C cs O;obtain⟨f',Y,Z⟩:=D.aC r C _ T;exact⟨f' ∘ f,by rw[<-List.map_map];exact Y,λl hl=>by show f' (f l)=l;rw[U l hl,Z l hl]⟩
 ·rcases D.nw g with e | e
  ·rw[e];exact h.nw g
  ·exact .inr e
def gO.root{p pb:Nat->Bool}{σ D:S}(n:Nat)(x:aW)(C:p n=true)(hb:pb n=true)(h:gO p pb σ D):gO p pb σ ((D.drop n).root n x):=by
 refine h.trans ⟨λI=>A.Bq I C hb,λr E y=>abo (Hw E C) y,λr E cs L=>⟨Lf.drop n,?_,λl hl=>Lf.zj hl C⟩,λg=>A.abq _ _⟩
 show Hu n x D.m r=_;rw[abn (Hw E C),L];rfl
def gO.rt{p pb:Nat->Bool}{σ D:S}(n:Nat)(x:aW)(E:p n=true)(h:gO p pb σ D):gO p pb σ (D.root n x):=by
 have e:∀r,p r=false->(D.root n x).m r=D.m r:=λr C=>cH _ _ _ (Hw C E)
 exact h.trans ⟨λ_=>rfl,λr C y=>by rw[e r C],λr C cs I=>⟨id,by rw[e r C,List.map_id];exact I,λ_ _=>rfl⟩,λ_=>.inl rfl⟩
/-! Roots that a call writes. -/
def abr(ns:aa Nat)(nr:aa (Nat×aW))(m:Nat->aj aW):Nat->aj aW:=λr=>match nr.lookup r with
 |some x=>some x
 |none=>bif cY r ns ||cY r []then none else (m r).map (aW.dh ns [])
structure UP (p:Nat->Bool) (ns:List Nat) (nr:List (Nat×aW)):Prop where
 ns:∀n,cY n ns=true->p n=true
 nr:∀n x,nr.lookup n=some x->p n=true
def aof{p:Nat->Bool}{ns:aa Nat}{nr:aa (Nat×aW)}{m:Nat->aj aW}(hb:UP p ns nr){q:Nat}(h:p q=false):abr ns nr m q=(m q).map (aW.dh ns []):=by
 unfold abr;cases C:nr.lookup q with
 |some x=>rw[hb.nr q x C]at h;cases h
 | none=>
  cases D:cY q ns with
  |true=>rw[hb.ns q D]at h;cases h
  |false=>rfl
def UQ(k:aa Nat):fW k []=false:=by
 unfold fW;split<;>rfl
def UR{p:Nat->Bool}{ns:aa Nat}(hb:∀ n,cY n ns=true->p n=true)(k:aa Nat)(h:fW k ns=true):iP p k=true:=by
 unfold fW at h;unfold iP;split at h
 next r C=>rw[C];exact hb _ h
 ·cases h
def Lf.aog{p:Nat->Bool}{x:Lf}{ns:aa Nat}(h:x.nr p=true)(hb:∀ n,cY n ns=true->p n=true):x.dh ns []=x:=
 Lf.oO (Lf.r6 (λk C=>UR hb k (by simp[vb,UQ]at C;exact C.1)) h)
def A.US{p pb:Nat->Bool}{x:A}{ns:aa Nat}(h:x.ov p pb=true)(hb:∀ n,cY n ns=true->p n=true):x.dh ns []=x:=
 A.oO (A.r6 (K:=vb ns []) (J:=tN p pb) (λk C=>UR hb k (by simp[vb,UQ]at C;exact C.1)) (λk C=>UR hb k (by simpa [vb,UQ]using C)) (λr D=>by cases D) h)
def gO.dh{p pb:Nat->Bool}{σ C:S}(ns:aa Nat)(nr:aa (Nat×aW))(hb:UP p ns nr)(h:gO p pb σ C):gO p pb σ (C.dh ns [] nr):=by
 have e:∀r,p r=false->(C.dh ns [] nr).m r=(C.m r).map (aW.dh ns []):=λr D=>aof hb D
 refine h.trans ⟨λE=>A.US E hb.ns,λr D y=>?_,λr D cs I=>⟨Lf.dh ns [],?_,λl hl=>Lf.aog hl hb.ns⟩,λg=>A.abq _ _⟩
 ·rw[e r D];cases C.m r with
  |none=>simp
  |some z=>cases z<;>simp[aW.dh,aW.cF]
 ·rw[e r D,I];rfl
end
end Go.Proofs.YtgjfmljpdnnihaaGreat
