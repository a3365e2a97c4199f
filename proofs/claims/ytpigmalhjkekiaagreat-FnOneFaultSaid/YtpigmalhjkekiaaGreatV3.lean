/-
  Running the program over pure contents, and that it follows (part 3). Nothing here is a claim.
-/
import Derived.Lib.AppendStr
import Derived.MapKept
import Derived.Test.YtpigmalhjkekiaaGreatV2
set_option linter.unusedSimpArgs false
namespace Go.Proofs.YtpigmalhjkekiaaGreat
set_option linter.defProp false
open Go.RowKit
set_option linter.unusedVariables false
def dT:Nat:=89999
def q7(af:bw)(k:aa Nat):bw:=λb=>match af b with
 |some q=>bif k.isSuffixOf q then some (q.take (q.length-k.length)++[dT])else bif cT dT q then none else some q
 |none=>none
def Tv(σ:S)(c:n8)(args:aa Operand)(q:Nat):Bool:=match jI σ c.ps args with
 |some C=>!dm q ((lR 0 C).map (·.1))&&C.any λD=>Nat.beq D.root dT
 |none=>false
def HH{X:Type}(N:Nat)(σ:S)(D:aj Tmp)(c:n8)(args:aa Operand)(k:S->aj X):aj X:=
 match args with
 | .tmp t :: _=>(match σ.t t with
  | .lf (.own [j,i,s,q])=>(match σ.m q with
   | some (.sl (.sl tc (o+2) E l))=>if s=aC tc then (if hi:i<l.length then (match (enc tc o l[i])[j]? with
    | some y=>bif Nat.ble N 20000&&Nat.ble 20000 q&&Nat.blt q 60000&&Tv ((σ.dA [q,dT] [dT] [(dT,.sl y)]).set t (.lf (.own [dT]))) c args q then oQ N ((σ.dA [q,dT] [dT] [(dT,.sl y)]).set t (.lf (.own [dT]))) D c args λC=>(match C.m dT with
      | some (.sl I)=>(match dec tc o (splice (enc tc o l[i]) j [I])with
       |some e=>k ((C.drop dT).root q (.sl (.sl tc (o+2) E (l.set i e))))
       |none=>none)
      |_=>none)else none
    |none=>none)else none)else none
   |_=>none)
  |_=>none)
 |_=>none
section
variable {P:Program} {w w':World} {w0:Wd} {B N:Nat} {af dR aA:bw} {ρ fB ρ':Nat->Loc} {σ:S} {a:Act} {X:Type} {d:Nat} {r:X} {o:Oper} {K:aa Nat} {m:Nat->aj aS}
def MB{b:Nat}(h:af b=none):q7 af K b=none:=by simp[q7,h]
def akF{b:Nat}{p:aa Nat}(h:af b=some (p++K)):q7 af K b=some (p++[dT]):=by
 have C:K.isSuffixOf _=true:=List.isSuffixOf_iff_suffix.2 ⟨p,rfl⟩;simp[q7,h,C]
def Tw{b:Nat}{k:aa Nat}(h:af b=some k)(C:¬ K <:+ k)(D:cT dT k=false):q7 af K b=some k:=by
 have C:K.isSuffixOf k=false:=by
  grind
 simp[q7,h,C,D]
def RV.cut{k:aa Nat}{x:V}{v:Value}(h:RV w B af k x v)(p:aa Nat)(D:k=p++K\/x.aH=true):RV w B (q7 af K) (p++[dT]) x v:=
 h.map (Q:=λk C=>∃ p,k=p++K/\C=p++[dT]) (dg _) (λb _ h=>⟨rfl,MB h⟩) (λb k C _ hl e=>by
  obtain⟨p,rfl,rfl⟩:=e;exact⟨rfl,akF hl,λj i s=>⟨j::i::s::p,rfl,rfl⟩⟩) (D.symm.imp_right λh=>⟨p,h,rfl⟩)
def RV.akG{k:aa Nat}{x:V}{v:Value}(h:RV w B af k x v)(I:∀ b,af b≠some [])(O:((∀ p,¬ K <:+ p++k)/\cT dT k=false)\/x.aH=true):RV w B (q7 af K) k x v:=
 h.map (Q:=λk C=>k=C/\(∀ p,¬ K <:+ p++k)/\cT dT k=false) (dg _) (λb _ h=>⟨rfl,MB h⟩) (λb k C _ hl e=>by
  obtain⟨rfl,D,E⟩:=e
  refine⟨rfl,Tw hl (D []) E,λj i s=>⟨rfl,λp=>?_,?_⟩⟩
  ·have:=D (p++[j,i,s])
   rwa [List.append_assoc]at this
  ·rw[L5 (by rintro rfl;exact I b hl)];exact E) (O.symm.imp_right λh=>⟨rfl,h⟩)
def Rl.akH{t:Nat}{x:A}(h:Rl w0 N af ρ σ a w)(D:RA w w0.heap.size af ρ x (a.tmps.getD t undef)):Rl w0 N af ρ (σ.set t x) a w:=by
 refine⟨h.below,h.dj,h.root,λk=>?_,h.size,h.defers,h.fix,h.cS⟩
 show RA w _ af ρ (bJ σ.t t x k) _;by_cases C:k=t
 ·subst C;rw[bM];exact D
 ·rw[cy _ _ _ C];exact h.tmp k
def Rl.akI{q:Nat}{x:aS}(h:Rl w0 N af ρ σ a w)(E:eH w w0.heap.size af ρ q x):Rl w0 N af ρ (σ.root q x) a w:=by
 refine⟨h.below,h.dj,λr y C=>?_,h.tmp,h.size,h.defers,h.fix,h.cS⟩
 have C:bJ σ.m q _ r=some y:=C;by_cases D:r=q
 ·subst D;rw[bM]at C;simp_all
 ·rw[cy _ _ _ D]at C;exact h.root r y C
def jt.akJ(h:Rl w0 N af ρ σ a w):jt w0 w w:=⟨rfl,rfl,rfl,dg _,λ_ _ _=>rfl⟩
def akK{f:Nat}{args:Array Operand}{jS:Array TypeId}{c:n8}{k:S -> aj X}(ho:o.op = .call { callee:=.value (.func f),args,argTypes:=jS })(he:enters P f)(hc:wB P f c)(h:HH N σ o.dst c args.toList k=some r):∃ dc,k dc=some r/\lO P w0 N o σ dc:=by
 unfold HH at h;split at h
 ·rename_i t rest mw;split at h
  ·rename_i j i s q ht;split at h
   ·rename_i tc oo qn l hm;split at h
    ·rename_i hs;subst hs;split at h
     ·rename_i hi;split at h
      ·rename_i y hy;generalize akL:((σ.dA [q,dT] [dT] [(dT,.sl y)]).set t (.lf (.own [dT])))=q8 at h;cases hb:(Nat.ble N 20000&&Nat.ble 20000 q&&Nat.blt q 60000&&Tv q8 c args.toList q)with
       |false=>rw[hb]at h;cases h
       | true=>
        rw[hb,aq]at h;simp only[aM]at hb;obtain⟨⟨⟨hN,yu⟩,qX⟩,MC⟩:=hb;have hN:=cE hN;have yu:=cE yu;have qX:q<60000:=cE qX;obtain⟨τ,Tu,cn,U,vi,qt,Az,Hq⟩:=Tp (w0:=w0) ho he hc h;clear h;unfold Tv at MC;rw[vi]at MC;simp only[aM,gd]at MC;obtain⟨GY,hdT⟩:=MC;obtain⟨mu,jT,Tx⟩:=List.any_eq_true.1 hdT;have Tx:=cJ Tx;have akM:dm dT cn=false:=by rw[<- Tx];exact Az mu jT
        have akN:dm q cn=false:=by
         cases D:dm q cn with
         |false=>rfl
         |true=>have:=qt q D;omega
        have Ty:q≠dT:=by unfold dT;omega
        split at U
        ·rename_i y' Hg;split at U
         ·rename_i e Tz
          refine⟨_,U,λa w KK Q hR hK=>?_⟩
          obtain⟨af,ρ,hR⟩:=hR;have cA:=hR.yj;have MD:w0.F dT=none:=hR.cS dT (.inr (by decide));have fk:=hR.root q _ hm;generalize D:aS.sl (.sl tc (oo+2) qn l)=x at fk;cases fk with
          |az=>cases D
          |mp=>cases D
          |gh=>cases D
          | sl v yq ck hr=>
           injection D with D;subst D;cases hr with
           |eS=>simp at hi
           |fU=>simp at hi
           |gj=>simp at hi
           |aH _ _ _ _ _ _ _ _ _ ho=>omega
           | own _ _ _ _ _ b cap cs u hl hh hs Z tu hcc mZ=>
            have hKv:xY σ.m [j,i,aC tc,q] y:=.elem j i [q] tc oo qn l y (.root q _ hm) hi hy;obtain⟨Y,qp,akO⟩:=hKv.ok hR.root;have yA:=hR.tmp t;rw[ht]at yA;have lP:a.tmps.getD t undef=Y:=by
             have h2:=yA.2;rw[qp]at h2;injection h2 with h2;exact h2.symm
            have akP:Y=u i j:=by
             have h3:c9 w af ρ [j,i,aC tc,q]=some (u i j):=by
              rw[LV,B7 j i _ (show c9 w af ρ [q]=some (.slice (some ⟨b,0,none⟩) l.length cap) by simp[c9,ck]) hl];show w.cell? _=_;rw[cell_of_row w b _ cs _ _ hh];simp[*]
             rw[qp]at h3;injection h3
            have gC:mX Y=true:=by rw[<- lP];exact yA.1
            -- the state that the callee's caller sees
            have S3:∀ k:aa Nat,gk k [q,dT]=false -> cT q k=false/\cT dT k=false:=by
             intro k U;unfold gk at U;unfold cT;split at U
             next z O=>rw[O];have:=aae U;simp only[gU,List.not_mem_nil,not_or]at this;exact⟨by simpa using this.1,by simpa using this.2⟩
             next O=>rw[O];exact⟨rfl,rfl⟩
            have hKq:∀ k:aa Nat,[j,i,aC tc,q] <:+ k -> cT q k=true:=by
             rintro k ⟨p,rfl⟩;simp[cT]
            have Hi:ve w w af (q7 af [j,i,aC tc,q]) ρ (bJ ρ dT (.dQ Y)) [q,dT] [dT]:=by
             refine⟨dg _,λE yo C=>⟨rfl,?_⟩,λn Z=>?_,λE k C=>(hR.dj E k C).2⟩
             ·cases I:af E with
              |none=>exact MB I
              | some k=>
               obtain⟨g1,g2⟩:=S3 k (C k I);exact Tw I (λqe=>by rw[hKq k qe]at g1;cases g1) g2
             ·refine cy _ _ _ ?_;rintro rfl;simp[dm]at Z
            have uV:∀ E k,q7 af [j,i,aC tc,q] E=some k -> (∃ T,af E=some T)/\k≠[]:=by
             intro E k C;cases I:af E with
             |none=>rw[MB I]at C;cases C
             | some T=>
              refine⟨⟨T,rfl⟩,?_⟩;unfold q7 at C;rw[I]at C;simp only at C;cases h1:List.isSuffixOf [j,i,aC tc,q] T with
              | true=>
               rw[h1,aq]at C;injection C with C;rw[<- C];simp
              | false=>
               rw[h1,av]at C;cases h2:cT dT T with
               |true=>rw[h2,aq]at C;cases C
               | false=>
                rw[h2,av]at C;injection C with C;rw[<- C];exact(hR.dj E T I).2.2
            have tQ:Rl w0 N (q7 af [j,i,aC tc,q]) (bJ ρ dT (.dQ Y)) (σ.dA [q,dT] [dT] [(dT,.sl y)]) a w:=by
             refine hR.vf Hi (jt.akJ hR) (λE k C=>?_) (λn Z=>?_) (λn z O=>?_)
             ·obtain⟨⟨T,I⟩,tR⟩:=uV E k C;have:=hR.dj E T I;exact⟨this.1,this.2.1,tR⟩
             ·have:n=dT:=by simpa [dm]using Z
              rw[this];exact MD
             ·have Z:n=dT/\z = .sl y:=by
               rw[List.lookup_cons]at O;cases Ex:(n==dT)with
               |false=>rw[Ex]at O;cases O
               | true=>
                rw[Ex]at O;injection O with O;exact⟨by simpa using Ex,O.symm⟩
              obtain⟨rfl,rfl⟩:=Z;exact .sl Y y (bM _ _ _) (akO.cut [] (.inl rfl))
            have kZ:Rl w0 N (q7 af [j,i,aC tc,q]) (bJ ρ dT (.dQ Y)) q8 a w:=by
             rw[<- akL];refine tQ.akH ?_;rw[lP];exact⟨gC,by simp only[c9,bM]⟩
            refine Hq a w KK Q _ _ kZ λvv w' dR fB wI HG yz tF yI=>?_
            -- behind the call
            have su:90000 <= iR o.dst:=by unfold iR;split<;>omega
            have akQ:wI dT = .dQ Y:=by
             rw[yI dT (by unfold dT;omega),yz.fA dT akM,bM]
            have akR:wI q = .dQ (.slice (some ⟨b,0,none⟩) l.length cap):=by
             rw[yI q (by omega),yz.fA q akN,cy _ _ _ Ty,ck]
            have fk:=HG.root dT _ Hg;generalize D:aS.sl y'=x at fk;cases fk with
            |az=>cases D
            |mp=>cases D
            |gh=>cases D
            | sl v' y'' jk fQ=>
             injection D with D;subst D;rw[akQ]at jk;injection jk with jk;subst jk;have TA:=HG.yj;have hrel:Rel dT dR (dR.iy dT [j,i,aC tc,q]):=GV TA;have aaw:cT dT [q]=false:=by simpa [cT]using λe=>Ty e
             have Ew:q7 af [j,i,aC tc,q] b=some [q]:=Tw hl (λqe=>by have:=qe.length_le;simp at this) aaw;have akS:gk [q] ((lR 0 Tu).map (·.1))=false:=GY;obtain⟨g1,g2⟩:=yz.same b (yz.af b _ Ew).1 (λk C=>by rw[Ew]at C;injection C with C;subst C;exact akS);have akT:dR b=some [q]:=g2.trans Ew;have akU:dR.iy dT [j,i,aC tc,q] b=some [q]:=hrel.jr b _ akT aaw;have hR4:=HG.rel hrel (λE k C=>by
              unfold bw.iy at C;cases I:dR E with
              |none=>rw[I]at C;cases C
              | some T=>
               rw[I]at C;injection C with C;subst C;exact⟨⟨T,rfl⟩,ZG (by simp) (λe=>TA E (by rw[I,e]))⟩)
             refine hK _ _ ⟨_,wI,hR4.akI (.sl _ _ akR ?_)⟩;have hj:j<aC tc:=by
              have:=(dZ.1 hy).1
              rwa [kX]at this
             refine RV.LZ (w':=w') (cs:=cs) (xs:=[y']) (u:=u) (us:=u) akU (g1.trans hh) hs Z tu hi (show j+1 <= aC tc from hj) Tz (λi' HI j' x D hij=>⟨hcc i' HI j' x D,?_⟩) (λn x D=>?_)
             ·have TB:=mZ i' HI j' x D;have akV:¬ (i'=i/\j'=j):=λe=>hij ⟨e.1,by simp;omega⟩
              have aax:cT dT [j',i',aC tc,q]=false:=by simpa [cT]using λe=>Ty e
              have a1:=TB.akG (K:=[j,i,aC tc,q]) cA (.inl ⟨λp qe=>?_,aax⟩)
              ·have a2:=a1.vf yz (.inl (by simpa [gk]using GY));exact a2.rel hrel (.inl aax)
              ·have e1:[j,i,aC tc,q]=[j',i',aC tc,q]:=Sb qe ⟨p,rfl⟩ rfl;injection e1 with e1 e2;injection e2 with e2 e3;exact akV ⟨e2.symm,e1.symm⟩
             ·cases n with
              | zero=>
               simp only[List.getElem?_cons_zero,jb]at D;subst D;refine⟨hcc i hi j y hy,?_⟩;have:=fQ.iy (q:=dT) (nk:=[j,i,aC tc,q]) TA;rw[ZF,akP]at this;exact this
              |succ n=>simp at D
         ·cases U
        ·cases U
      ·cases h
     ·cases h
    ·cases h
   ·cases h
  ·cases h
 ·cases h
def akW{C:aj Tmp}{c:n8}{args:aa Operand}(D:∀ σ,cB λX k=>oQ (X:=X) N σ C c args k):cB λX k=>HH (X:=X) N σ C c args k:=λX Y k g=>by
 unfold HH
 repeat' first|rfl|refine dx ((D _ _ _ _ _).trans (bB _ (funext λE=>?_))) rfl|split
def yJ:∀ (q:aa Nat),cB λX k=>ju (X:=X) m q k
 |[]=>λ_ _ _ _=>rfl
 | [x]=>λX Y k g=>by
  simp only[ju]
  repeat' first|rfl|refine dx ?_ ?_|split
 |[_,_]=>λ_ _ _ _=>rfl
 | j :: i :: s :: q=>λX Y k g=>by
  simp only[ju]
  refine(yJ q _ _ _ _).trans (bB _ (funext λy=>?_))
  repeat' first|rfl|split
  all_goals simp_all
def Ey{x:Lf}:cB λX k=>qg (X:=X) σ x k:=by
 cases x with
 |own q=>exact yJ q
 |_=>exact λ_ _ _ _=>rfl
def aay{q:aa Nat}{s i j:Nat}:cB λX k=>wg (X:=X) σ q s i j k:=λX Y k g=>by
 refine(yJ q _ _ _ _).trans (bB _ (funext λy=>?_))
 repeat' first|rfl|refine dx ?_ ?_|split
def TD{x:A}:cB λX k=>tw (X:=X) σ x k:=by
 cases x with
 |lf l=>exact Ey
 |view=>exact aay
 |_=>exact λ_ _ _ _=>rfl
def TE{x:A}:cB λX k=>vK (X:=X) x k:=λX Y k g=>by
 unfold vK
 repeat' first|rfl|refine dx ?_ ?_|split
def akX{ty:TypeId}{C:BinOp}{x y:V}:cB λX k=>GO (X:=X) P ty C x y k:=λX Y k g=>by
 unfold GO
 repeat' first|rfl|refine dx ?_ ?_|split
def akY{C:BinOp}{t:TypeId}{x y:A}:cB λX k=>Aj (X:=X) P σ C t x y k:=λX Y k g=>by
 unfold Aj;split
 ·repeat' first|rfl|refine dx ?_ ?_|split
 ·split
  ·refine(Ey _ _ _ _).trans (bB _ (funext λz=>?_))
   repeat' first|rfl|refine dx ?_ ?_|split
  ·rfl
 ·exact(TE.comp λa=>TE.comp λb=>akX.comp (b:=λX k z=>k (.lf (.v z))) λz _ _ _ _=>rfl) X Y k g
def akZ{C:UnOp}{x:V}:cB λX k=>GP (X:=X) C x k:=λX Y k g=>by
 unfold GP
 repeat' first|rfl|refine dx ?_ ?_|split
def ME{t:TypeId}{cs:aa Lf}:cB λX k=>yf (X:=X) P t cs k:=λX Y k g=>by
 unfold yf
 repeat' first|rfl|refine dx ?_ ?_|split
def aaz{t:TypeId}{x:A}:cB λX k=>oJ (X:=X) P σ t x k:=λX Y k g=>by
 unfold oJ;split
 ·rfl
 ·split
  ·split
   ·exact ME _ _ _ _
   ·rfl
  ·exact ME _ _ _ _
  ·refine(yJ _ _ _ _ _).trans (bB _ (funext λz=>?_))
   repeat' first|rfl|exact ME _ _ _ _|split
  ·rfl
def ak0{s:TypeId}{x:A}{f:Nat}:cB λX k=>D8 (X:=X) P s x f k:=λX Y k g=>by
 unfold D8
 repeat' first|rfl|refine dx ?_ ?_|split
def ak1{t:TypeId}{x i:A}:cB λX k=>zY (X:=X) P σ t x i k:=λX Y k g=>by
 unfold zY;split
 ·rfl
 ·split
  ·split
   ·repeat' first|rfl|refine dx ?_ ?_|split
   ·refine(yJ _ _ _ _ _).trans (bB _ (funext λz=>?_))
    repeat' first|rfl|refine dx ?_ ?_|split
   ·rfl
  ·rfl
def ak2{t:TypeId}{x:A}:cB λX k=>Cc (X:=X) P σ t x k:=λX Y k g=>by
 unfold Cc;split
 ·refine(Ey _ _ _ _).trans (bB _ (funext λz=>?_))
  repeat' first|rfl|refine dx ?_ ?_|split
 ·repeat' first|rfl|refine dx ?_ ?_|split
 ·rfl
def ak3{x:A}{i:Nat}:cB λX k=>Cd (X:=X) x i k:=λX Y k g=>by
 unfold Cd
 repeat' first|rfl|refine dx ?_ ?_|split
def ak4{t:TypeId}{parts:aa (Nat×Operand)}:cB λX k=>Ed (X:=X) P σ t parts k:=λX Y k g=>by
 unfold Ed
 repeat' first|rfl|refine dx ?_ ?_|split
def ak5{s:TypeId}{x:A}{f:Nat}:cB λX k=>G9 (X:=X) P s x f k:=λX Y k g=>by
 unfold G9
 repeat' first|rfl|refine dx ?_ ?_|split
def aaA{C:Bool}{x y:A}:cB λX k=>Ee (X:=X) C x y k:=λX Y k g=>by
 unfold Ee
 repeat' first|rfl|refine dx ?_ ?_|split
def ak6{t:TypeId}{x i:A}:cB λX k=>He (X:=X) P t x i k:=λX Y k g=>by
 unfold He
 repeat' first|rfl|refine dx ?_ ?_|split
def ak7{C D:TypeId}{x:A}:cB λX k=>Ag (X:=X) P σ C D x k:=λX Y k g=>by
 unfold Ag;split
 ·repeat' first|rfl|refine dx ?_ ?_|split
 ·refine(Ey _ _ _ _).trans (bB _ (funext λz=>?_))
  unfold Mj
  repeat' first|rfl|refine dx ?_ ?_|split
 ·rfl
def Ez{x:aj A}{d:Int}:cB λX k=>uY (X:=X) x d k:=λX Y k g=>by
 unfold uY
 repeat' first|rfl|refine dx ?_ ?_|split
def aaB{t:TypeId}{q:aa Nat}{C:aj Nat}{lo hi:aj A}:cB λX k=>Cn (X:=X) P σ t q C lo hi k:=λX Y k g=>by
 unfold Cn;split
 ·split
  ·refine(yJ _ _ _ _ _).trans (bB _ (funext λz=>?_))
   unfold El;split
   ·split
    ·refine(Ez _ _ _ _).trans (bB _ (funext λ_=>(Ez _ _ _ _).trans (bB _ (funext λ_=>?_))))
     repeat' first|rfl|refine dx ?_ ?_|split
    ·rfl
   ·rfl
  ·rfl
 ·rfl
def ak8{t:TypeId}{x:A}{lo hi:aj A}:cB λX k=>Al (X:=X) P σ t x lo hi k:=λX Y k g=>by
 unfold Al;split
 ·exact aaB _ _ _ _
 ·exact aaB _ _ _ _
 ·unfold yw;split
  ·split
   ·refine(Ez _ _ _ _).trans (bB _ (funext λ_=>(Ez _ _ _ _).trans (bB _ (funext λ_=>?_))))
    repeat' first|rfl|refine dx ?_ ?_|split
   ·rfl
  ·split
   ·split
    ·split
     ·refine dx ((Ez _ _ _ _).trans (bB _ (funext λ_=>(Ez _ _ _ _).trans (bB _ (funext λ_=>?_))))) rfl
      repeat' first|rfl|refine dx ?_ ?_|split
     ·rfl
    ·rfl
   ·rfl
  ·rfl
def yK{C:aj Tmp}{x:A}:cB λX k=>iI (X:=X) N σ C x k:=λX Y k g=>by
 unfold iI
 repeat' first|rfl|refine dx ?_ ?_|split
def MF{x:aS}{y:A}:cB λX k=>gZ (X:=X) N σ d x y k:=λX Y k g=>dx rfl rfl
def Cx{x:aS}{y:A}{k:S -> aj X}(h:gZ N σ d x y k=some r):k (((σ.drop d).root d x).set d y)=some r/\m6 (λX k=>gZ (X:=X) N σ d x y k) (((σ.drop d).root d x).set d y):=by
 unfold gZ at h;cases C:Nat.blt d N with
 |false=>simp_all
 |true=>rw[C]at h;exact⟨h,λX k=>by simp[gZ,C,aq]⟩
def ak9{e:TypeId}{k:S -> aj X}(h:r8 P N σ d e k=some r):∃ x y,k (((σ.drop d).root d x).set d y)=some r/\y = .aG d 0/\(∀ (C:S),m6 (λX k=>r8 (X:=X) P N C d e k) (((C.drop d).root d x).set d y)):=by
 unfold r8 at h;split at h
 ·rename_i z D;obtain⟨E,_⟩:=Cx h
  refine⟨_,_,E,rfl,λC X k=>?_⟩
  obtain⟨I,_⟩:=nY h;have hb:Nat.blt d N=true:=ja I;simp[r8,D,gZ,hb,aq]
 ·cases h
def aaC{t:TypeId}{l c:A}{k:S -> aj X}(h:Aa P N σ d t l c k=some r):∃ y,k (((σ.drop d).root d (.sl y)).set d (.lf (.own [d])))=some r/\(∀ (C:S),m6 (λX k=>Aa (X:=X) P N C d t l c k) (((C.drop d).root d (.sl y)).set d (.lf (.own [d])))):=by
 unfold Aa at h;split at h
 ·rename_i e tc U n Y c D;split at h
  ·cases h
  ·rename_i z E;split at h
   ·rename_i hb;obtain⟨I,_⟩:=Cx h
    refine⟨_,I,λC X k=>?_⟩
    obtain⟨O,_⟩:=nY h;have T:Nat.blt d N=true:=ja O;simp[Aa,D,E,aW hb,gZ,T,aq]
   ·cases h
 ·cases h
def aaD{t:TypeId}{len:Nat}{parts:aa (Nat×Operand)}{k:S -> aj X}(h:Af P N σ d t len parts k=some r):∃ y,k (((σ.drop d).root d (.sl y)).set d (.lf (.own [d])))=some r /\
  (∀(C:S),(∀p∈parts,aL C p.2=aL σ p.2) -> m6 (λX k=>Af (X:=X) P N C d t len parts k) (((C.drop d).root d (.sl y)).set d (.lf (.own [d])))):=by
 unfold Af at h;split at h
 ·rename_i e tc E;split at h
  ·rename_i z I;cases D:(Nat.beq (full tc) 0&&Nat.beq z.cells.size (aC tc)&&Nat.blt (len*aC tc) 16777217)with
   |false=>simp_all
   | true=>
    rw[D,aq]at h;split at h
    ·rename_i cs O;split at h
     ·rename_i vs T;split at h
      ·rename_i l hl;obtain⟨U,_⟩:=Cx h
       refine⟨_,U,λC Y X k=>?_⟩
       obtain⟨Z,_⟩:=nY h;have gX:Nat.blt d N=true:=ja Z;have e:(parts.map λp=>(p.1,aL C p.2))=parts.map λp=>(p.1,aL σ p.2):=pW λp hp=>by rw[Y p hp]
       simp[Af,E,I,D,aq,e,O,T,hl,gZ,gX]
      ·cases h
     ·cases h
    ·cases h
  ·cases h
 ·cases h
def ala{t:TypeId}{x y:A}:cB λX k=>uS (X:=X) P N σ d t x y k:=λX Y k g=>by
 unfold uS;split
 ·refine dx ((TD _ _ _ _).trans (bB _ (funext λC=>?_))) rfl
  repeat' first|rfl|exact MF _ _ _ _|refine dx ?_ ?_|split
 ·rfl
def aaE:∀ (q:aa Nat) (y:V),cB λX k=>yg (X:=X) m q y k
 |[],_=>λ_ _ _ _=>rfl
 | [x],y=>λX Y k g=>by
  simp only[yg]
  repeat' first|rfl|refine dx ?_ ?_|split
 |[_,_],_=>λ_ _ _ _=>rfl
 | j :: i :: s :: q,y=>λX Y k g=>by
  simp only[yg]
  refine(yJ q _ _ _ _).trans (bB _ (funext λz=>?_))
  repeat' first|rfl|exact aaE q _ _ _ _ _|split
def aaF{t:TypeId}{x y:A}:cB λX k=>qW (X:=X) P σ t x y k:=λX Y k g=>by
 unfold qW;split
 ·split
  ·split
   ·repeat' first|rfl|refine dx ?_ ?_|split
   ·split
    ·rfl
    ·refine(yJ _ _ _ _ _).trans (bB _ (funext λz=>?_))
     repeat' first|rfl|exact aaE _ _ _ _ _ _|refine dx ?_ ?_|split
   ·rfl
  ·rfl
 ·rfl
def TF:∀ (xs:aa Lf),cB λX k=>r9 (X:=X) σ xs k
 |[]=>λ_ _ _ _=>rfl
 |x::xs=>Ey.comp λy=>(TF xs).comp (b:=λX k ys=>k (y.gI::ys)) λ_ _ _ _ _=>rfl
def aaG{x:A}:cB λX k=>oM (X:=X) σ x k:=λX Y k g=>by
 unfold oM
 repeat' first|rfl|exact TF _ _ _ _ _|exact aay _ _ _ _|split
def alb{x:A}:cB λX k=>wu (X:=X) σ x k:=λX Y k g=>by
 unfold wu
 repeat' first|rfl|exact aaG _ _ _ _|refine(TF _ _ _ _ _).trans (bB _ (funext λz=>?_))|split
def TG{f:(X:Type)->A->(Pt->aj X)->aj X}(C:∀ x,cB λX k=>f X x k):∀ (xs:aa Operand),cB λX k=>wz (f X) σ xs k
 |[]=>λ_ _ _ _=>rfl
 |x::xs=>(C _).comp λp=>(TG C xs).comp (b:=λX k ps=>k (p::ps)) λ_ _ _ _ _=>rfl
def EA{xs:aa Operand}:cB λX k=>tH (X:=X) σ xs k:=TG (λ_=>aaG) xs
def aaH{xs:aa Operand}:cB λX k=>Co (X:=X) σ xs k:=TG (λ_=>alb) xs
def MG{C:gv}:cB λX k=>n6 (X:=X) σ d C k:=λX Y k g=>by
 unfold n6
 repeat' first|rfl|refine dx ?_ ?_|split
def aaI{f:Nat}{c:jH}(C:jl P f c){ev:(X:Type)->(aa Pt->aj X)->aj X}(D:cB ev):cB λX k=>tK (X:=X) N σ d c (ev X) k:=λX Y k g=>
 dx ((D.comp λps=>(C.1 ps).comp λE=>MG) X Y k g) rfl
def MH{f:Nat}{c:jH}(Y:jl P f c){ev:(X:Type)->(aa Pt->aj X)->aj X}(Z:cB ev){k:S->aj X}(h:tK N σ d c (ev X) k=some r):∃ C D,n6 σ d C some=some D/\k D=some r/\
  ∀E O (I:(X:Type)->(aa Pt->aj X)->aj X),(∀(X:Type) (k:aa Pt->aj X),I X k=ev X k)->n6 E d C some=some O->m6 (λX k=>tK (X:=X) N E d c (I X) k) O:=by
 unfold tK at h;cases T:Nat.blt d N with
 |false=>rw[T]at h;cases h
 | true=>
  rw[T,aq]at h;obtain⟨ps,h2,hd⟩:=Z.mm h;obtain⟨C,h3,SP⟩:=(Y.1 ps).mm h2;obtain⟨D,h4,hd3⟩:=MG.mm h3
  refine⟨C,D,hd3 _ _,h4,λE O I ha iS X k=>?_⟩
  obtain⟨τ2,U,hd4⟩:=MG.mm iS;injection U with U;subst U;show tK N E d c (I X) k=_;unfold tK;rw[T,aq,ha,hd X];exact(SP X _).trans (hd4 X k)
/-! Keys that do not end in certain names. -/
def oR(p:Nat->Bool)(k:aa Nat):Bool:=!jj p k
def vj(p pb:Nat->Bool):nW:=⟨jj p,jj p,pb⟩
def Lf.nr(p:Nat->Bool):Lf->Bool:=Lf.fr (jj p)
def A.nr(p:Nat->Bool):A->Bool:=A.fr (vj p p)
def HJ{p:Nat->Bool}{n:Nat}(C:p n=true)(k:aa Nat)(h:cT n k=true):jj p k=true:=by
 unfold jj;rw[show k.getLast?=some n by simpa [cT]using h];exact C
def aaJ{p:Nat->Bool}{k:aa Nat}{n:Nat}(h:oR p k=true)(C:p n=true):cT n k=false:=by
 cases hl:cT n k with
 |false=>rfl
 |true=>unfold oR at h;rw[HJ C k hl]at h;cases h
def alc{p:Nat->Bool}{n:Nat}(C:p n=true)(r:Nat)(h:Nat.beq r n=true):p r=true:=by rw[cJ h];exact C
def Lf.AA{p:Nat->Bool}{x:Lf}{n:Nat}(h:x.nr p=true)(C:p n=true):x.drop n=x:=Lf.qa (Lf.th (HJ C) h)
def r5.AA{p:Nat->Bool}{xs:aa Lf}{n:Nat}(h:xs.all (Lf.nr p)=true)(C:p n=true):xs.map (Lf.drop n)=xs:=r5.qa (bT.2 λc D=>Lf.th (HJ C) (bT.1 h c D))
def A.Cy{p pb:Nat->Bool}{x:A}{n:Nat}(h:x.fr (vj p pb)=true)(C:p n=true)(hb:pb n=true):x.drop n=x:=A.qa (A.th (K:=ya n) (J:=vj p pb) (HJ C) (HJ C) (alc hb) h)
def A.AA{p:Nat->Bool}{x:A}{n:Nat}(h:x.nr p=true)(C:p n=true):x.drop n=x:=A.Cy h C C
def S.ext'{σ C:S}(D:∀ k,σ.t k=C.t k)(E:∀ r,σ.m r=C.m r):σ=C:=by
 cases σ;cases C;simp
 grind
def S.set_set{e d:Nat}(h:e≠d)(v u:A):(σ.set d v).set e u=(σ.set e u).set d v:=by
 refine S.ext' (λk=>?_) λ_=>rfl
 show bJ (bJ σ.t d v) e u k=bJ (bJ σ.t e u) d v k;by_cases C:k=e
 ·subst C;rw[bM,cy _ _ _ h,bM]
 ·by_cases D:k=d
  ·subst D;rw[cy _ _ _ C,bM,bM]
  ·rw[cy _ _ _ C,cy _ _ _ D,cy _ _ _ D,cy _ _ _ C]
def S.drop_set(n:Nat){v:A}(C:v.drop n=v):(σ.set d v).drop n=(σ.drop n).set d v:=by
 refine S.ext' (λk=>?_) λ_=>rfl
 show (bJ σ.t d v k).drop n=bJ (λk=>(σ.t k).drop n) d v k;by_cases h:k=d
 ·subst h;rw[bM,bM,C]
 ·rw[cy _ _ _ h,cy _ _ _ h]
def TH(v:A):∀ (xs:aa V) (c:Nat) (σ:S),(∀ n,c <= n -> v.drop n=v) -> m7 c (σ.set d v) xs=(m7 c σ xs).set d v
 |[],c,σ,h=>rfl
 | x :: xs,c,σ,h=>by
  simp[m7];cases D:x.aH with
  | true=>
   exact TH v xs _ σ (λn C=>h n (by omega))
  | false=>
   rw[S.drop_set c (h c (dg _))];exact TH v xs _ ((σ.drop c).root c _) (λn C=>h n (by omega))
def TI(v:A):∀ (ps:aa Pt) (c:Nat) (σ:S),(∀ n,c <= n -> v.drop n=v) -> oO c (σ.set d v) ps=(oO c σ ps).set d v
 |[],c,σ,h=>rfl
 | p :: ps,c,σ,h=>by
  simp[oO];rw[TH v p.2 c σ h];exact TI v ps _ _ (λn C=>h n (by omega))
end
def AB{X:Type}(N:Nat)(σ:S)(d:Nat)(x:A)(k:S->aj X):aj X:=
 match x.zX with
 |some xs=>bif xs.all Lf.live then gZ N σ d (.az (xs.map (Lf.drop d))) (.aG d 0) k else none
 |none=>none
def MI{X:Type}(x:A)(k:A->aj X):aj X:=
 match x with
 |.aG r j=>k (.aG r j)
 |.ptr q=>k (.ptr q)
 |.js cs=>k (.js cs)
 |_=>none
section
variable {P:Program} {w w':World} {w0:Wd} {B N:Nat} {af aA:bw} {ρ ρ':Nat->Loc} {σ:S} {a:Act} {X:Type} {d:Nat} {r:X} {o:Oper}
def ald{e:TypeId}{x:A}{k:S -> aj X}(h:AB N σ d x k=some r):∃ D,k D=some r /\ ∀ af ρ a w,Rl w0 N af ρ σ a w -> ∀ u,RA w w0.heap.size af ρ x u ->
  ∃w' aA ρ' v,(Instr.box e u).run P w = .ok v w'/\Rl w0 N aA ρ' D (a.put (some d) v) w':=by
 unfold AB at h;split at h
 ·rename_i xs U;cases E:xs.all Lf.live with
  |false=>grind
  | true=>
   rw[E,aq]at h;obtain⟨I,h⟩:=nY h
   refine⟨_,h,λaf ρ a w hR u Y=>?_⟩
   obtain⟨hl,_⟩:=GS U E Y;have Z:(Instr.box e u).run P w = .ok (.pointer (some ⟨w.heap.size,0,none⟩)) (w.alloc (.cells u.cells e)):=by
    simp[Instr.box,newVar,newRow]
   refine⟨_,bJ af w.heap.size (some [d]),bJ ρ d (.az w.heap.size 0),_,Z,(hR.Cf (hR.cS d (.inl I)) (λr C=>cy _ _ _ C) ?_).set ⟨w.heap.size,0,bM _ _ _,rfl⟩ I⟩
   have h1:eX (w.alloc (.cells u.cells e)) w0.heap.size (bJ af w.heap.size (some [d])) ρ xs u.cells:=
    hl.jr (by simp) (λb hb=>⟨Below.heap_alloc w _ b hb,cy _ _ _ (by omega)⟩) (λb k hb=>(hR.dj b k hb).2.1)
   have O:=h1.fA (ρ':=bJ ρ d (.az w.heap.size 0)) (d:=d) (λr C=>cy _ _ _ C)
   refine .az w.heap.size 0 u.cells e _ (λj=>u.cells.getD j undef) (bM _ _ _) (bM _ _ _) (heap_alloc_new w _) (by rw[O.1];omega) λj y hy=>?_
   obtain⟨v,T,C⟩:=O.2 j y hy;have hg:u.cells.getD j undef=v:=by rw[iO,T];rfl
   rw[hg,fO];exact⟨T,C⟩
 ·cases h
def ale{x:A}{k:S -> aj X}(h:AB N σ d x k=some r):∃ y u,k (((σ.drop d).root d y).set d u)=some r/\(∀ (C:S),m6 (λX k=>AB (X:=X) N C d x k) (((C.drop d).root d y).set d u)):=by
 unfold AB at h;split at h
 ·rename_i xs E;cases D:xs.all Lf.live with
  |false=>simp_all
  | true=>
   rw[D]at h;obtain⟨I,_⟩:=Cx h
   refine⟨_,_,I,λC X k=>?_⟩
   obtain⟨O,_⟩:=nY h;have hb:Nat.blt d N=true:=ja O;simp[AB,E,D,gZ,hb,aq]
 ·cases h
def alf{x:A}{k:A->aj X}(h:MI x k=some r):k x=some r/\∀ u,RA w B af ρ x u->∃ ad,u = .pointer (some ad):=by
 unfold MI at h;split at h
 ·exact⟨h,λu C=>by obtain⟨b,off,_,rfl⟩:=C;exact⟨_,rfl⟩⟩
 ·exact⟨h,λu C=>by obtain⟨ad,rfl,_⟩:=C;exact⟨_,rfl⟩⟩
 ·exact⟨h,λu C=>by obtain⟨b,off,rfl,_⟩:=C;exact⟨_,rfl⟩⟩
 ·cases h
end
def q9(t:TypeId):Bool:=[999999,999999,50,999999,57,999999,999999,999999,999999,999999,39,999999,999999,999999,999999,999999].any (Nat.beq t)
def V.lit:V->Bool
 |.sl _ _ _ _=>false
 |_=>true
def TJ(tc:TC)(len:Nat)(cs:aa Lf):aj (aa (T tc)):=
 bif Nat.ble 2 len then (match uW cs with
  |some C=>bif C.all V.lit then Ci tc (full tc) len C else none
  |none=>none)else none
def wK{X:Type}(P:Program)(N:Nat)(σ:S)(d:Nat)(t:TypeId)(len:Nat)(parts:aa (Nat×Operand))(k:S->aj X):aj X:=
 match wj P t with
 | some (e,tc)=>match zeroOf P e with
  | some z=>bif Nat.beq z.cells.size (aC tc)&&Nat.blt (len*aC tc) 16777217 then (match Ae (λi=>some (i*aC tc,aC tc)) (List.replicate len (z.cells.toList.map oL)).flatten (parts.map λp=>(p.1,aL σ p.2))with
   | some cs=>bif Nat.beq len 0 then gZ N σ d (.sl (.sl tc (full tc+2) true [])) (.lf (.own [d])) k else (match TJ tc len cs with
    |some l=>gZ N σ d (.sl (.sl tc (full tc+2) true l)) (.lf (.own [d])) k
    |none=>gZ N σ d (.az (cs.map (Lf.drop d))) (.pk d len) k)
   |none=>none)else none
  |none=>none
 |none=>none
def Cz{X:Type}(N:Nat)(σ:S)(d r C:Nat)(tc:TC)(n:Nat)(k:S->aj X):aj X:=
 match σ.m C,σ.m r with
 | some (.az cs),some (.sl (.sl D (o+2) q l))=>if h:D=tc then (match iJ r (λj=>(j % aC tc) :: (l.length+j / aC tc) :: aC tc :: [r]) cs.length 0 cs σ with
  | some (E,I)=>(match Ci tc o n E with
   |some l2=>bif Nat.blt d N&&bX (l.length+l2.length)then k (((I.drop r).root r (.sl (.sl tc (o+2) false ((h ▸ l)++l2)))).set d (.lf (.own [r])))else none
   |none=>none)
  |none=>none)else none
 |_,_=>none
def HK{X:Type}(P:Program)(N:Nat)(σ:S)(d:Nat)(t:TypeId)(x y:A)(k:S->aj X):aj X:=
 match wj P t,y with
 | some (e,tc),.pk C n=>bif (zeroOf P e).any (λz=>Nat.beq z.cells.size (aC tc))&&(Nat.blt d N&&Nat.blt n r4)then (match x with
  |.lf (.v .nil)=>Cz N ((σ.drop d).root d (.sl (.sl tc (full tc+2) false []))) d d C tc n k
  |.lf (.own [r])=>bif Nat.blt r N ||Nat.ble 60000 r then Cz N σ d r C tc n k else none
  |_=>none)else none
 |_,_=>none
def vk{X:Type}(P:Program)(σ:S)(t:TypeId)(x y:A)(k:S->aj X):aj X:=
 match jF P t,y.zX,x with
 | some n,some xs,.ptr [j,i,s,r]=>if xs.length=n then (bif xs.all Lf.live then (match iJ r (λm=>(j+m) :: i :: s :: [r]) xs.length 0 xs σ with
  | some (E,D)=>(match D.m r with
   | some (.sl (.sl C (o+2) I l))=>if s=aC C then (if h:i<l.length then (if j+n<=aC C then (match dec C o (splice (enc C o l[i]) j E)with
    |some e=>k (D.dA [r] [] [(r,.sl (.sl C (o+2) I (l.set i e)))])
    |none=>none)else none)else none)else none
   |_=>none)
  |none=>none)else none)else none
 |_,_,_=>none
def yL(x y:A):Bool:=match x,y.zX with
 |.ptr _,some xs=>(r7 xs).isNone
 |_,_=>false
section
variable {P:Program} {w w':World} {w0:Wd} {B N:Nat} {af aA:bw} {ρ ρ':Nat->Loc} {σ:S} {a:Act} {X:Type} {d:Nat} {r:X} {o:Oper}
def aaK{place:Nat -> aj (Nat×Nat)}:∀ (parts:aa (Nat×A)) (cells out:aa Lf),Ae place cells parts=some out -> out.length=cells.length
 |[],cells,out,h=>by injection h with h;rw[h]
 | (i,x) :: rest,cells,out,h=>by
  unfold Ae at h;split at h
  ·rename_i off n xs C D;split at h
   ·rename_i E;cases hl:xs.all _ with
    | true=>
     rw[hl]at h;rw[aaK rest _ _ h,uM _ _ _ (by omega)]
    |false=>simp_all
   ·cases h
  ·cases h
def RV.alg{q C:aa Nat}{x:V}{v:Value}{B':Nat}{aA:bw}(h:RV w B af q x v)(D:x.lit=true):RV w' B' aA C x v:=by
 cases h<;>first|exact .int _ _ _|exact .bool _ _|exact .str _ _|exact .nil _|cases D
def alh{tc:TC}{len:Nat}{cs:aa Lf}{l:aa (T tc)}(h:TJ tc len cs=some l):∃ C,cs=C.map .v/\(∀ x∈C,V.lit x=true)/\Ci tc (full tc) len C=some l:=by
 unfold TJ at h;cases E:Nat.ble 2 len with
 |false=>rw[E]at h;cases h
 | true=>
  rw[E,aq]at h;split at h
  ·rename_i C I;cases D:C.all V.lit with
   |false=>rw[D]at h;cases h
   | true=>
    rw[D,aq]at h;exact⟨C,G8 cs C I,λx O=>bT.1 D x O,h⟩
  ·cases h
def ali{t:TypeId}{len:Nat}{parts:Array (Nat×Operand)}{k:S->aj X}(h:wK P N σ d t len parts.toList k=some r):∃ dc,k dc=some r/\∀ af ρ a w,Rl w0 N af ρ σ a w->
  ∃w' aA ρ' v,(Instr.buildSlice t len (parts.map λ(i,x)=>(i,a.eval x))).run P w = .ok v w'/\Rl w0 N aA ρ' dc (a.put (some d) v) w':=by
 unfold wK at h;split at h
 ·rename_i e tc qj;obtain⟨gD,ht,i,hi,gM,kf⟩:=Ab qj;split at h
  ·rename_i z hz;cases hc:(Nat.beq z.cells.size (aC tc)&&Nat.blt (len*aC tc) 16777217)with
   |false=>rw[hc]at h;cases h
   | true=>
    rw[hc,aq]at h;rw[aM]at hc;have nP:=cJ hc.1;have hsm:len*aC tc<16777217:=by have:=cE hc.2;omega
    have qk:i.zero=some z:=by unfold zeroOf at hz;simpa [hi]using hz
    split at h
    ·rename_i cs gu;have key:∀ af ρ (a:Act) w,Rl w0 N af ρ σ a w->∃ C,(Instr.buildSlice t len (parts.map λ(i,x)=>(i,a.eval x))).run P w = .ok (.slice (some ⟨w.heap.size,0,none⟩) len len) (w.alloc (.cells C e))/\eX w w0.heap.size af ρ cs C/\C.size=cs.length:=λaf ρ a w hR=>by
      have SB:eX w w0.heap.size af ρ (List.replicate len (z.cells.toList.map oL)).flatten (madeCells z.cells (len*aC tc)):=by
       have e1:(List.replicate len (z.cells.toList.map oL)).flatten=((List.replicate len z.cells.toList).flatten).map oL:=by
        rw[List.map_flatten,List.map_replicate]
       rw[e1,<-ZW z.cells (aC tc) len nP (oH tc)]
       refine⟨by simp,λj x D=>?_⟩
       rw[eO]at D;cases I:(madeCells z.cells (len*aC tc)).toList[j]? with
       |none=>rw[I]at D;cases D
       | some v=>
        rw[I]at D;injection D with D;subst D;exact⟨v,by simpa using I,Ma v⟩
      obtain⟨C,yx,hl⟩:=Mh (w:=w) (B:=w0.heap.size) (af:=af) (ρ:=ρ) _ _ _ (parts.toList.map λp=>(p.1,a.eval p.2)) cs gu SB (by simp) (λj p q Y hq=>by
       rw[eO]at Y hq;cases D:parts.toList[j]? with
       |none=>rw[D]at Y;cases Y
       | some x=>
        rw[D]at Y hq;injection Y with Y;injection hq with hq;subst Y hq;exact⟨rfl,hR.aL x.2⟩)
      have Z:(Instr.buildSlice t len (parts.map λ(i,x)=>(i,a.eval x))).run P w = .ok (.slice (some ⟨w.heap.size,0,none⟩) len len) (w.alloc (.cells C e)):=by
       have G7:(parts.map λ(i,x)=>(i,a.eval x)).toList=parts.toList.map λp=>(p.1,a.eval p.2):=by simp
       by_cases h0:len*aC tc=0
       ·have hm:madeCells z.cells (len*aC tc) = #[]:=by rw[h0];simp[madeCells]
        rw[hm]at yx;have SD:len*i.size=0:=by rw[gM];exact h0
        rw[<-gM]at yx;have e0:∀f:Nat->Value,Array.map f (Array.range 0) = #[]:=λf=>by simp
        simp only[Instr.buildSlice,gA,iu gD,me,sizeOf,typeInfo];simp[hi,SD];rw[e0,yx];simp[newRow]
       ·exact run_buildSlice (P:=P) w t e len _ C i z gD hi qk (by rw[gM];omega) (by rw[gM];exact h0) (by rw[gM,G7];exact yx)
      exact⟨C,Z,hl,hl.1⟩
     cases oK:Nat.beq len 0 with
     | true=>
      rw[oK,aq]at h;have hln:=cJ oK;subst hln;obtain⟨U,h⟩:=nY h
      refine⟨_,h,λaf ρ a w hR=>?_⟩
      obtain⟨C,Z,hl,hcz⟩:=key af ρ a w hR;have su:cs.length=0:=by
       have h1:=aaK _ _ _ gu;rw[h1];simp
      refine⟨_,bJ af w.heap.size (some [d]),bJ ρ d (.dQ (.slice (some ⟨w.heap.size,0,none⟩) 0 0)),_,Z,(hR.Cf (hR.cS d (.inl U)) (λr E=>cy _ _ _ E) (.sl _ _ (bM _ _ _) ?_)).set ⟨rfl,by simp[c9,bM]⟩ U⟩
      exact RV.own (w:=w.alloc (.cells C e)) (B:=w0.heap.size) (af:=bJ af w.heap.size (some [d])) [d] tc (full tc) true [] w.heap.size 0 C (λ_ _=>undef)
       (bM _ _ _) (by rw[ht];exact heap_alloc_new w _) (by omega) (dg _) ⟨by unfold maxLen;omega,λ_=>rfl⟩ (λO T=>absurd T (by simp)) (λO T=>absurd T (by simp))
     |false=>
     rw[oK,av]at h;split at h
     ·rename_i l HL;obtain⟨vs,Hf,alj,TK⟩:=alh HL;obtain⟨U,h⟩:=nY h
      refine⟨_,h,λaf ρ a w hR=>?_⟩
      obtain⟨C,Z,hl,_⟩:=key af ρ a w hR;obtain⟨wm,yh,hU⟩:=Mi tc (full tc) len vs l TK;have SC:C.size=len*aC tc:=by rw[hl.1,Hf,fy,yh]
      refine⟨_,bJ af w.heap.size (some [d]),bJ ρ d (.dQ (.slice (some ⟨w.heap.size,0,none⟩) len len)),_,Z,(hR.Cf (hR.cS d (.inl U)) (λr E=>cy _ _ _ E) (.sl _ _ (bM _ _ _) ?_)).set ⟨rfl,by simp[c9,bM]⟩ U⟩
      have nX:∀ O (T:O<l.length) j x,(enc tc (full tc) l[O])[j]?=some x->∃ v,C[O*aC tc+j]?=some v/\∀ (w':World) (B':Nat) (aA:bw) (q':aa Nat),RV w' B' aA q' x v:=by
       intro O T j x D;obtain⟨y,hy,hw⟩:=hU O T j x D;obtain⟨v,I,E⟩:=hl.2 (O*aC tc+j) (.v y) (by rw[Hf,eO,hy];rfl);exact⟨v,I,λw' B' aA q'=>(E.2.alg (alj y (gT hy))).wk hw⟩
      have:=RV.own (w:=w.alloc (.cells C e)) (B:=w0.heap.size) (af:=bJ af w.heap.size (some [d])) [d] tc (full tc) true l w.heap.size len C (λi j=>(C[i*aC tc+j]?).getD undef)
       (bM _ _ _) (by rw[ht];exact heap_alloc_new w _) SC (by omega) ⟨by have:=Nat.le_mul_of_pos_right len (oH tc);unfold maxLen;omega,λ_=>wm.symm⟩ (λO T j x D=>?_) (λO T j x D=>?_)
      ·rw[wm]at this;exact this
      ·obtain⟨v,I,_⟩:=nX O T j x D;rw[I];rfl
      ·obtain⟨v,I,E⟩:=nX O T j x D;rw[I];exact E _ _ _ _
     obtain⟨U,h⟩:=nY h
     refine⟨_,h,λaf ρ a w hR=>?_⟩
     obtain⟨C,Z,hl,_⟩:=key af ρ a w hR
     refine⟨_,bJ af w.heap.size (some [d]),bJ ρ d (.az w.heap.size 0),_,Z,(hR.Cf (hR.cS d (.inl U)) (λr E=>cy _ _ _ E) ?_).set ⟨w.heap.size,bM _ _ _,(R5 (by have:=Nat.le_mul_of_pos_right len (oH tc);unfold r4;omega)).symm⟩ U⟩
     have h1:eX (w.alloc (.cells C e)) w0.heap.size (bJ af w.heap.size (some [d])) ρ cs C:=
      hl.jr (by simp) (λb hb=>⟨Below.heap_alloc w _ b hb,cy _ _ _ (by omega)⟩) (λb k hb=>(hR.dj b k hb).2.1)
     have h2:=h1.fA (ρ':=bJ ρ d (.az w.heap.size 0)) (d:=d) (λr E=>cy _ _ _ E)
     refine .az w.heap.size 0 C e _ (λj=>C.getD j undef) (bM _ _ _) (bM _ _ _) (heap_alloc_new w _) (by rw[h2.1];omega) λj y hy=>?_
     obtain⟨v,I,E⟩:=h2.2 j y hy;have hg:C.getD j undef=v:=by rw[iO,I];rfl
     rw[hg,fO];exact⟨I,E⟩
    ·cases h
  ·cases h
 ·cases h
def alk{t:TypeId}{len:Nat}{parts:aa (Nat×Operand)}{k:S->aj X}(h:wK P N σ d t len parts k=some r):∃ y u,k (((σ.drop d).root d y).set d u)=some r/\
  (∀(C:S),(∀p∈parts,aL C p.2=aL σ p.2)->m6 (λX k=>wK (X:=X) P N C d t len parts k) (((C.drop d).root d y).set d u)):=by
 unfold wK at h;split at h
 ·rename_i e tc Z;split at h
  ·rename_i z hz;cases D:(Nat.beq z.cells.size (aC tc)&&Nat.blt (len*aC tc) 16777217)with
   |false=>rw[D]at h;cases h
   | true=>
    rw[D,aq]at h;split at h
    ·rename_i cs gu;cases E:Nat.beq len 0 with
     | true=>
      rw[E,aq]at h;obtain⟨I,_⟩:=Cx h
      refine⟨_,_,I,λC O X k=>?_⟩
      obtain⟨T,_⟩:=nY h;have U:Nat.blt d N=true:=ja T;have e:(parts.map λp=>(p.1,aL C p.2))=parts.map λp=>(p.1,aL σ p.2):=pW λp Y=>by rw[O p Y]
      simp only[wK,Z,hz,D,aq,e,gu,gZ,U,E]
     | false=>
      rw[E,av]at h;split at h
      ·rename_i l HL;obtain⟨I,_⟩:=Cx h
       refine⟨_,_,I,λC O X k=>?_⟩
       obtain⟨T,_⟩:=nY h;have U:Nat.blt d N=true:=ja T;have e:(parts.map λp=>(p.1,aL C p.2))=parts.map λp=>(p.1,aL σ p.2):=pW λp Y=>by rw[O p Y]
       simp only[wK,Z,hz,D,aq,e,gu,gZ,U,E,av,HL]
      ·rename_i HL;obtain⟨I,_⟩:=Cx h
       refine⟨_,_,I,λC O X k=>?_⟩
       obtain⟨T,_⟩:=nY h;have U:Nat.blt d N=true:=ja T;have e:(parts.map λp=>(p.1,aL C p.2))=parts.map λp=>(p.1,aL σ p.2):=pW λp Y=>by rw[O p Y]
       simp only[wK,Z,hz,D,aq,e,gu,gZ,U,E,av,HL]
    ·cases h
  ·cases h
 ·cases h
def aaL{t e ty:TypeId}{tc:TC}{i:TypeInfo}{z:Value}{rr ry n:Nat}{k:S -> aj X}(gD:P.underlying t=some (.slice e))(ht:tid tc=e)(hi:P.info? e=some i)(hz:i.zero=some z)
  (gM:i.size=aC tc) (kf:i.bytes <= 65536) (nP:z.cells.size=aC tc) (h:Cz N σ d rr ry tc n k=some r):∃dc,k dc=some r /\ ∀af ρ a w,Rl w0 N af ρ σ a w -> w0.F rr=none -> ∀u v b,ρ rr = .dQ u -> ρ ry = .az b 0 -> v = .slice (some ⟨b,0,none⟩) n n ->
  ∃w' aA ρ' z,(Builtin.append_ #[t,t] ty #[u,v]).run P w = .ok z w'/\Rl w0 N aA ρ' dc (a.put (some d) z) w':=by
 unfold Cz at h;split at h
 ·rename_i cs E o q l TL hr;split at h
  ·rename_i nZ;subst nZ;split at h
   ·rename_i vs τ TM;split at h
    ·rename_i l2 jv;cases U:(Nat.blt d N&&bX (l.length+l2.length))with
     |false=>rw[U]at h;cases h
     | true=>
      rw[U,aq]at h;rw[aM]at U;have G1:l.length+l2.length<1073741824:=by simpa [bX]using U.2
      have hd:d<N:=by have:=cE U.1;omega
      refine⟨_,h,λaf ρ a w hR hF u v b alm aln O=>?_⟩
      subst O;have Y:=hR.root ry _ TL;generalize C:aS.az cs=x at Y;cases Y with
      |sl=>cases C
      |mp=>cases C
      |gh=>cases C
      | az b' off cells e' fq us ck qh hh hs hc=>
       injection C with C;subst C;rw[aln]at ck;injection ck with e1 e2;subst e1 e2;have m0:eX w w0.heap.size af ρ cs ((List.range cs.length).map us).toArray:=by
        refine⟨by simp,λj x I=>?_⟩
        have D:j<cs.length:=(dZ.1 I).1;exact⟨us j,by simp[D],(hc j x I).2⟩
       obtain⟨aA,dL,yh,MJ,_,mZ,lP,_,_⟩:=L6 (w0:=w0) (N:=N) (λj=>by simp[cT]) _ _ _ _ _ _ TM af ρ a w hR _ m0;obtain⟨wm,alo,hU⟩:=Mi E o n vs l2 jv;have uV:cs.length=n*aC E:=by rw[<- yh,alo]
       have qm:∀ j,j<cs.length -> (us j).oneCell'=true:=by
        intro j D;have I:=bK (by rw[yh];exact D);obtain⟨u',wh,T⟩:=MJ j _ I;have:u'=us j:=by simpa [D]using wh.symm
        rw[<- this];exact T.one
       have TN:b<w.heap.size:=(iY.1 hh).1;have uT:Reads w w.heap.size (aC E) (some ⟨b,0,none⟩) n ((List.range cs.length).map us):=by
        refine⟨by simp[uV],λhn=>⟨b,0,rfl,TN,λj v O=>?_⟩⟩
        have D:j<cs.length:=by have:=(dZ.1 O).1;simpa using this
        have:v=us j:=by simpa [D]using O.symm
        subst this;rw[cell_of_row w b _ cells _ _ hh];simp_all
       have gX:uX w w0.heap.size aA rr l.length E o l2 ((List.range cs.length).map us):=by
        intro Z HI j x I;have D:j<aC E:=by have:=(dZ.1 I).1;rwa [kX]at this
        obtain⟨y,Y,hw⟩:=hU Z HI j x I;obtain⟨u',wh,T⟩:=MJ _ _ Y;refine⟨u',wh,?_⟩;have e1:(0+(Z*aC E+j)) % aC E=j:=by rw[fO,Nat.add_comm,Nat.add_mul_mod_self_right,Nat.mod_eq_of_lt D]
        have e2:(0+(Z*aC E+j)) / aC E=Z:=by rw[fO,Nat.add_comm,Nat.add_mul_div_right _ _ (oH E),Nat.div_eq_of_lt D,fO]
        simp only[e1,e2]at T;exact T.wk hw
       have CA:=dL.root rr _ (mZ _ hr);generalize C:aS.sl (.sl E (o+2) q l)=x at CA;cases CA with
       |az=>cases C
       |mp=>cases C
       |gh=>cases C
       | sl uu y jk T=>
        injection C with C;subst C;rw[alm]at jk;injection jk with jk;subst jk;obtain⟨v',w',dR,eR,kZ,gC⟩:=dL.ajZ (ty:=ty) (c:=n) hF gD ht hi hz gM kf nP T uT (λv O=>by
         obtain⟨j,D⟩:=List.mem_iff_getElem?.1 O;have G4:j<cs.length:=by have:=(dZ.1 D).1;simpa using this
         have:v=us j:=by simpa [G4]using D.symm
         rw[this];exact qm j G4) wm.symm gX G1
        exact⟨w',dR,_,v',eR,kZ.set ⟨gC,by simp[c9,bM]⟩ hd⟩
    ·cases h
   ·cases h
  ·cases h
 ·cases h
def alp{rr C n:Nat}{tc:TC}:cB λX k=>Cz (X:=X) N σ d rr C tc n k:=λX Y k g=>by
 unfold Cz
 repeat' first|rfl|refine dx ?_ ?_|split
def alq{t ty:TypeId}{x y:A}{k:S -> aj X}(h:HK P N σ d t x y k=some r):∃ C,k C=some r /\ ∀ af ρ a w,Rl w0 N af ρ σ a w -> ∀ u v,RA w w0.heap.size af ρ x u -> RA w w0.heap.size af ρ y v ->
  ∃w' aA ρ' z,(Builtin.append_ #[t,t] ty #[u,v]).run P w = .ok z w'/\Rl w0 N aA ρ' C (a.put (some d) z) w':=by
 unfold HK at h;split at h
 ·rename_i e tc ry n qj;obtain⟨gD,ht,i,hi,gM,kf⟩:=Ab qj;cases E:((zeroOf P e).any (λz=>Nat.beq z.cells.size (aC tc))&&(Nat.blt d N&&Nat.blt n r4))with
  |false=>simp_all
  | true=>
   rw[E,aq]at h;rw[aM]at E;obtain⟨z,hz,I⟩:=(Option.any_eq_true _ _).1 E.1;have I:=cJ I;have qk:i.zero=some z:=by unfold zeroOf at hz;simpa [hi]using hz
   have O:=E.2;rw[aM]at O;have hd:d<N:=by have:=cE O.1;omega
   have mA:n<r4:=by have:=cE O.2;omega
   split at h
   ·obtain⟨C,T,U⟩:=aaL (w0:=w0) (ty:=ty) gD ht hi qk gM kf I h
    refine⟨C,T,λaf ρ a w hR u v D Y=>?_⟩
    have D:u = .slice none 0 0:=by cases D.2;rfl
    subst D;obtain⟨b,hb,rfl⟩:=Y;have TL:ry≠d:=by
     rintro rfl;unfold Cz at h;split at h
     ·simp_all
     ·cases h
    have hR0:=hR.new (d:=d) (x:=.sl (.sl tc (full tc+2) false [])) (.dQ (.slice none 0 0)) (.sl _ _ (bM _ _ _) (.eS _ _ _)) (hR.cS d (.inl hd));exact U _ _ a w hR0 (hR.cS d (.inl hd)) _ _ b (bM _ _ _) ((cy _ _ _ TL).trans hb) (R5 mA)
   ·rename_i rr;cases Z:(Nat.blt rr N || Nat.ble 60000 rr)with
    |false=>simp_all
    | true=>
     rw[Z,aq]at h;rw[dY]at Z;have mZ:rr<N \/ 60000 <= rr:=Z.imp (λh=>by have:=cE h;omega) (λh=>cE h);obtain⟨C,T,U⟩:=aaL (w0:=w0) (ty:=ty) gD ht hi qk gM kf I h
     refine⟨C,T,λaf ρ a w hR u v D Y=>?_⟩
     obtain⟨b,hb,rfl⟩:=Y;have ck:ρ rr = .dQ u:=by
      have h4:=D.2;simp only[c9]at h4;cases hl:ρ rr with
      |az b o=>simp_all
      |bH us=>simp_all
      |dQ v=>simp_all
     exact U af ρ a w hR (hR.cS rr mZ) _ _ b ck hb (R5 mA)
   ·cases h
 ·cases h
def alr{t:TypeId}{x y:A}:cB λX k=>HK (X:=X) P N σ d t x y k:=λX Y k g=>by
 unfold HK
 repeat' first|rfl|exact alp _ _ _ _|refine dx ?_ ?_|split
def als{t:TypeId}{x y:A}{k:S -> aj X}(h:vk P σ t x y k=some r):∃ dc,k dc=some r /\ ∀ af ρ a w,Rl w0 N af ρ σ a w -> ∀ u v,RA w w0.heap.size af ρ x u -> RA w w0.heap.size af ρ y v ->
  ∃w' aA,(Instr.storeAt t u v).run P w = .ok () w'/\Rl w0 N aA ρ dc a w':=by
 unfold vk at h;split at h
 ·rename_i n xs j i s rr hn qi;split at h
  ·rename_i hlen;cases TO:xs.all Lf.live with
   |false=>rw[TO]at h;cases h
   | true=>
    rw[TO,aq]at h;split at h
    ·rename_i vs τ TM;split at h
     ·rename_i C o' qn l iS;split at h
      ·rename_i qe;split at h
       ·rename_i hi;split at h
        ·rename_i hj;split at h
         ·rename_i e he
          refine⟨_,h,λaf ρ a w hR u v hu hv=>?_⟩
          obtain⟨ad,rfl,I⟩:=hu;obtain⟨hl,qm⟩:=GS qi TO hv;have m0:eX w w0.heap.size af ρ xs v.cells.toList.toArray:=by simpa using hl
          obtain⟨aA,dL,yh,MJ,_,mZ,lP,ayJ,_⟩:=L6 (w0:=w0) (N:=N) (λm=>by simp[cT]) _ _ _ _ _ _ TM af ρ a w hR _ m0;simp only[addrAt]at I;split at I
          ·rename_i b n0 c0 ck;split at I
           ·rename_i qh;injection I with I;subst I;have CA:=dL.root rr _ iS;generalize D:aS.sl (.sl C (o'+2) qn l)=x at CA;cases CA with
            |az=>cases D
            |mp=>cases D
            |gh=>cases D
            | sl uu y jk fQ=>
             injection D with D;subst D;rw[ck]at jk;injection jk with jk;subst jk;cases fQ with
             |aH _ _ _ _ _ _ _ _ _ ho=>omega
             |fU=>simp at hi
             |gj=>simp at hi
             | own _ _ _ _ _ _ cap cs us MK hh hs uQ hm hc hr=>
              subst qe;have TP:v.cells.size=n:=by rw[hl.1,hlen]
              have yc:i*aC C+aC C <= c0*aC C:=by
               have:(i+1)*aC C <= c0*aC C:=iP _ (by omega);rw[iZ]at this;exact this
              have mY:i*aC C+j+v.cells.toList.length <= cs.size:=by rw[mb,TP,hs];omega
              have T:=LY w b (i*aC C+j) v.cells.toList;obtain⟨Z,gX,oI⟩:=GD b (tid C) v.cells.toList (i*aC C+j) w cs hh mY;have uP:∀ m,Z[m]?=if m<i*aC C+j then cs[m]? else if m<i*aC C+j+n then v.cells[m-(i*aC C+j)]? else cs[m]?:=by
               intro m;have e2:Z[m]?=(splice cs.toList (i*aC C+j) v.cells.toList)[m]?:=by
                rw[show Z[m]?=Z.toList[m]? by simp,oI];rfl
               rw[e2,yb _ _ _ (by simpa using mY),mb,TP];simp
              have GN:Z.size=cs.size:=by
               rw[<- mb,oI];have:=uM cs.toList (i*aC C+j) v.cells.toList (by simpa using mY);simp only[splice]at this;simp_all
              have TN:b<w.heap.size:=(iY.1 hh).1;have hz:w.heap.size <= (w.setCells b (i*aC C+j) v.cells.toList).heap.size:=Nat.le_of_eq T.size.symm;have TQ:∀E,E<w.heap.size -> aA E≠some [rr] -> (w.setCells b (i*aC C+j) v.cells.toList).heap[E]?=w.heap[E]?:=λE _ cA=>T.block E (by rintro rfl;exact cA MK)
              have GU:w.there b (i*aC C+j) v.cells.size:=by
               intro m tC;refine⟨?_,frozen_of_row w b _ cs _ hh⟩;rw[cell_of_row w b _ cs _ _ hh];simp;omega
              have kB:vs.length=n:=by rw[yh,hlen]
              refine⟨_,aA,Sf w b _ t v GU (by rw[TP];exact hn) qm,dL.vf (ns:=[rr]) (cn:=[]) (fB:=ρ) (dR:=aA) ⟨hz,λE yo U=>⟨T.block E ?_,rfl⟩,λ_ _=>rfl,λE k U=>(dL.dj E k U).2⟩
               ⟨T.os,T.tape,T.output,hz,λk U hL=>T.block k ?_⟩ (λE k U=>?_) (λr hr=>by cases hr) (λr0 x D=>?_)⟩
              ·rintro rfl;have:=U _ MK;simp[gk,dm]at this
              ·rintro rfl;rcases(dL.dj k _ MK).1 with h1 | h1
               ·exact absurd U (Nat.not_lt.2 h1)
               ·exact h1 hL
              ·have:=dL.dj E k U;exact⟨this.1,Nat.lt_of_lt_of_le this.2.1 hz,this.2.2⟩
              ·have jd:r0=rr/\x = .sl (.sl C (o'+2) qn (l.set i e)):=by
                simp only[List.lookup]at D;split at D
                next yo=>injection D with D;exact⟨by simpa using yo,D.symm⟩
                ·cases D
               obtain⟨rfl,rfl⟩:=jd;refine .sl _ _ ck ?_
               refine RV.LZ (u:=us) (us:=λ_ m=>v.cells.getD (m-j) undef) (cs:=cs) (xs:=vs) MK gX (GN.trans hs) uQ hm hi (by rw[kB];exact hj) he (λO h' j' x Y L0=>?_) (λm x Y=>?_)
               ·have tq:j'<aC C:=by have:=(dZ.1 Y).1;rwa [kX]at this
                refine⟨?_,(hr O h' j' x Y).under (n:=r0) (.inl (by simp)) hz TQ (λ_ _=>rfl)⟩
                rw[uP];have Ca:¬ (¬ O*aC C+j'<i*aC C+j/\O*aC C+j'<i*aC C+j+n):=by
                 rintro⟨h1,h2⟩;rcases Nat.lt_trichotomy O i with dK|heq|D3
                 ·have:(O+1)*aC C <= i*aC C:=iP _ dK;rw[iZ]at this;omega
                 ·subst heq;exact L0 ⟨rfl,by omega,by omega⟩
                 ·have:(i+1)*aC C <= O*aC C:=iP _ D3;rw[iZ]at this;omega
                split
                ·exact hc O h' j' x Y
                ·rw[aX];exact hc O h' j' x Y
               ·obtain⟨v0,yp,kY⟩:=MJ m x Y;have tC:m<n:=by rw[<- kB];exact(dZ.1 Y).1
                have Me:v.cells[m]?=some v0:=by simpa using yp
                have D4:v.cells.getD (j+m-j) undef=v0:=by rw[show j+m-j=m by omega,iO,Me];rfl
                show Z[_]?=some (v.cells.getD (j+m-j) undef)/\RV _ _ _ _ _ (v.cells.getD (j+m-j) undef);rw[D4,uP,aX,aW];rw[fO]at kY
                refine⟨?_,kY.under (n:=r0) (.inl (by simp)) hz TQ (λ_ _=>rfl)⟩
                rw[show i*aC C+(j+m)-(i*aC C+j)=m by omega];exact Me
           ·cases I
          ·cases I
         ·cases h
        ·cases h
       ·cases h
      ·cases h
     ·cases h
    ·cases h
  ·cases h
 ·cases h
def alu{t:TypeId}{x y:A}:cB λX k=>vk (X:=X) P σ t x y k:=λX Y k g=>by
 unfold vk
 repeat' first|rfl|refine dx ?_ ?_|split
end
def ML(P:Program)(f:Nat)(F:aa Int->aj Int):Prop:=
 ∀ (w:World) (l:aa (T .u8)) (h:Int) (v:Value),F l=some h->RV w w.heap.size (λ_=>none) [] (.sl .u8 0 false l) v->Hd w (λ_=>none)->Calls P f #[v] w λe w'=>
  ∃b off cells t,e = .returned (.pointer (some ⟨b,off,none⟩))/\Below w.heap.size w w'/\w.heap.size<=b/\w'.heap[b]?=some (.cells cells t (0,0))/\cells[off]?=some v/\cells[off+1]?=some (.int .i64 0)/\cells[off+2]?=some (.int .i64 h)
def HM{X:Type}(N:Nat)(σ:S)(d:Nat)(F:aa Int->aj Int)(x:A)(k:S->aj X):aj X:=
 match x with
 | .lf (.v (.sl .u8 0 q l))=>bif Nat.blt d N then (match F l with
  |some h=>k (((σ.drop (1000000000100000+1000*d)).root (1000000000100000+1000*d) (.az [.v (.sl .u8 0 q l),.v (.int .i64 0),.v (.int .i64 h)])).set d (.aG (1000000000100000+1000*d) 0))
  |none=>none)else none
 |_=>none
structure CB where
 a:Nat
 j:Nat
 t:TC
 run:List Pt->Option (Nat×Nat)
def vl(bH:Array Value)(a j:Nat):aj Value:=match bH[a]? with
 |some (.agg us)=>us[j]?
 |some u=>bif Nat.beq j 0 then some u else none
 |none=>none
def MM(P:Program)(f:Nat)(c:CB):Prop:=
 ∀ (args:aa Pt) (p:Nat×Nat),c.run args=some p->∀ (w:World) (bH:Array Value),qw w args bH->Hd w (λ_=>none)->Calls P f bH w λe w'=>
  ∃A n cap,vl bH c.a c.j=some (.slice A n cap)/\p.1<=p.2/\p.2<=n/\e = .returned (sliced A p.1 p.2 cap (aC c.t))/\Below w.heap.size w w'
def aaM(σ:S)(args:aa Operand)(a j:Nat):aj Lf:=match args[a]? with
 | some x=>(match aL σ x with
  |.agg cs=>cs[j]?
  |.lf l=>bif Nat.beq j 0 then some l else none
  |_=>none)
 |none=>none
def HN{X:Type}(N:Nat)(σ:S)(d:Nat)(c:CB)(args:aa Operand)(k:S->aj X):aj X:=
 bif Nat.blt d N then tH σ args λps=>(match c.run ps with
  | some p=>(match aaM σ args c.a c.j with
   |some (.v (.sl t g _ l))=>if t=c.t then (bif Nat.blt g 2&&Nat.ble p.1 p.2&&Nat.ble p.2 l.length then k (σ.set d (.lf (.v (.sl t g false ((l.take p.2).drop p.1)))))else none)else none
   |_=>none)
  |none=>none)else none
structure vm where
 run:(X:Type)->Nat->S->List A->(S->A->Option X)->Option X
def EB{α β:Type}(f:(X:Type)->(α->β->aj X)->aj X):Prop:=∀(X Y:Type) (k:α->β->aj X) (g:X->aj Y),(f X k).bind g=f Y λa b=>(k a b).bind g
def EB.mm{α β:Type}{f:(X:Type)->(α->β->aj X)->aj X}(n:EB f){X:Type}{k:α->β->aj X}{r:X}(h:f X k=some r):∃ a b,k a b=some r/\∀ (X:Type) (k:α->β->aj X),f X k=k a b:=by
 obtain⟨⟨a,b⟩,C,D⟩:=cB.mm (f:=λX (k:α×β->aj X)=>f X λa b=>k (a,b)) (λX Y k g=>n X Y _ g) (k:=λp=>k p.1 p.2) h;exact⟨a,b,C,λX k=>D X λp=>k p.1 p.2⟩
def ri(P:Program)(f:Nat)(c:vm):Prop:=(∀ N σ xs,EB λX k=>c.run X N σ xs k)/\
 ∀ [Inhabited Wd] (N:Nat) (σ:S) (xs:aa A) (C:S) (y:A),c.run (S×A) N σ xs (λσ y=>some (σ,y))=some (C,y)->
  ∀ (w0:Wd) (af:bw) (ρ:Nat->Loc) (a:Act) (w:World) (bH:Array Value),Rl w0 N af ρ σ a w->bH.size=xs.length->(∀ i,RA w w0.heap.size af ρ ((xs[i]?).getD .undef) (bH.getD i undef))->
   Calls P f bH w λe w'=>∃v aA ρ',e = .returned v/\Rl w0 N aA ρ' C a w'/\RA w' w0.heap.size aA ρ' y v
inductive rj where
 |p (c:jH)
 |m (c:n8)
 |n (F:List Int->Option Int)
 |v (c:CB)
 |i (c:vm)
 |d (c:n8)
 |q (c:jH)
 |c (c:n8)
def TR(P:Program)(f:Nat):rj->Prop
 |.p c=>jl P f c
 |.m c=>wB P f c
 |.n F=>ML P f F
 |.v c=>MM P f c
 |.i c=>ri P f c
 |.d c=>wB P f c
 |.q c=>jl P f c
 |.c c=>wB P f c
section
variable {P:Program} {w w':World} {w0:Wd} {B N:Nat} {af dR aA:bw} {ρ fB ρ':Nat->Loc} {σ:S} {a:Act} {X:Type} {d:Nat} {r:X} {ns cn:aa Nat} {o:Oper}
def aaN:∀ (xs:aa Lf),cB λX k=>tN (X:=X) σ ns xs k
 |[]=>λ_ _ _ _=>rfl
 |x::xs=>λX Y k g=>dx ((Ey.comp λy=>(aaN xs).comp (b:=λX k ys=>k (y.gI::ys)) λ_ _ _ _ _=>rfl) X Y k g) rfl
def aaO{x:A}:cB λX k=>sx (X:=X) σ ns x k:=λX Y k g=>by
 unfold sx
 repeat' first|rfl|exact aaN _ _ _ _ _|refine dx ?_ ?_|split
def MN:∀ (ps:aa PK) (xs:aa Operand) (C:aa Mu),cB λX k=>jJ (X:=X) σ ns ps xs C k:=λps=>by
 induction ps with
 |nil=>intro xs C X Y k g;cases xs<;>cases C<;>rfl
 | cons p ps D=>
  intro xs C X Y k g;cases xs with
  |nil=>cases p<;>cases C<;>rfl
  | cons x xs=>
   cases p with
   | v b t=>
    refine(aaO _ _ _ _).trans (bB _ (funext λp=>dx ?_ rfl))
    split
    ·exact D _ _ _ _ _ _
    ·rfl
   | p t E o=>
    cases C with
    |nil=>rfl
    | cons m C=>cases m with
     |sl=>rfl
     | az=>
      simp only[jJ];split
      ·exact D _ _ _ _ _ _
      ·rfl
   | s t E=>
    cases C with
    |nil=>rfl
    | cons m C=>cases m with
     |az=>rfl
     | sl=>
      simp only[jJ];split
      ·exact D _ _ _ _ _ _
      ·rfl
def alv{C:aj Tmp}{D:gv}:cB λX k=>q6 (X:=X) N σ C D k:=λX Y k g=>by
 unfold q6
 repeat' first|rfl|exact MG _ _ _ _|refine dx ?_ ?_|split
def TS{C:aj Tmp}{c:n8}{args:aa Operand}:cB λX k=>oQ (X:=X) N σ C c args k:=λX Y k g=>by
 unfold oQ;split
 ·refine dx ((MN _ _ _ _ _ _ _).trans (bB _ (funext λx=>?_))) rfl
  split
  ·exact dx (alv _ _ _ _) rfl
  ·rfl
 ·rfl
def alw{F:aa Int->aj Int}{x:A}:cB λX k=>HM (X:=X) N σ d F x k:=λX Y k g=>by
 unfold HM
 repeat' first|rfl|refine dx ?_ ?_|split
def alx{f:Nat}{x:Operand}{args:Array Operand}{U:Array TypeId}{F:aa Int -> aj Int}{k:S -> aj X}(ho:o.op = .call { callee:=.value (.func f),args,argTypes:=U })(hx:args.toList=[x])(hd:o.dst=some d)(he:enters P f)(hc:ML P f F)(h:HM N σ d F (aL σ x) k=some r):
  ∃Y,k Y=some r/\lO P w0 N o σ Y:=by
 unfold HM at h;split at h
 ·rename_i q l hq;cases E:Nat.blt d N with
  |false=>rw[E]at h;cases h
  | true=>
   rw[E,aq]at h;have yB:d<N:=cE E;split at h
   ·rename_i Z hhz
    refine⟨_,h,λa w K Q hR hK=>?_⟩
    obtain⟨af,ρ,hR⟩:=hR;have I:=hR.aL x;rw[hq]at I;have yp:RV w w.heap.size (λ_=>none) [] (.sl .u8 0 false l) (a.eval x):=by
     have h0:RV w w.heap.size (λ_=>none) [] (.sl .u8 0 q l) (a.eval x):=I.2.gI;cases q with
     |false=>exact h0
     |true=>exact h0.wk (.q _ _ _)
    unfold Oper.wp;rw[Mp w o a f args U ho he,Oper.upon_enter];have yC:(args.map a.eval) = #[a.eval x]:=by apply Array.ext';rw[Array.toList_map,hx];rfl
    rw[yC]
    refine(hc w l _ _ hhz yp (w0.on hR.below (λ_ _ h=>by cases h))).mono λe w' sg=>?_
    obtain⟨b,off,cells,t,rfl,O,hb,hh,su,TT,oI⟩:=sg;have hB:=hR.below.size;have jc:b<w'.heap.size:=(iY.1 hh).1;have tQ:Rl w0 N (bJ af b (some [1000000000100000+1000*d])) ρ σ a w':=by
     refine hR.grow O (λc T=>cy _ _ _ (by omega)) (λc k T D=>?_)
     by_cases e:c=b
     ·subst e;rw[bM]at D;injection D with D
      grind
     ·rw[cy _ _ _ e]at D;have:=(hR.dj c k D).2.1;omega
    have kZ:=tQ.new (d:=1000000000100000+1000*d) (x:=.az [.v (.sl .u8 0 q l),.v (.int .i64 0),.v (.int .i64 Z)]) (.az b off) (by
     refine .az b off cells t _ (λj=>(#[a.eval x,.int .i64 0,.int .i64 Z]:Array Value).getD j undef) (bM _ _ _) (bM _ _ _) hh (by
      have:=(iY.1 oI).1;simp;omega) (λj y C=>?_)
     have Hi:eB w' w0.heap.size (bJ af b (some [1000000000100000+1000*d])) (bJ ρ (1000000000100000+1000*d) (.az b off)) (.v (.sl .u8 0 q l)) (a.eval x):=by
      refine⟨rfl,I.2.jr O.size (λc T=>⟨O.block c T,cy _ _ _ (by omega)⟩)⟩
     match j,C with
     |0,C=>simp at C;subst C;exact⟨su,Hi⟩
     |1,C=>simp at C;subst C;exact⟨TT,rfl,.int _ _ _⟩
     |2,C=>simp at C;subst C;exact⟨oI,rfl,.int _ _ _⟩
     |j+3,C=>simp at C) (hR.cS _ (.inr (by omega)))
    rw[hd];exact hK _ _ ⟨_,_,kZ.set ⟨b,off,bM _ _ _,rfl⟩ yB⟩
   ·cases h
 ·cases h
def aly{f:Nat}{args:Array Operand}{T:Array TypeId}{c:CB}{k:S -> aj X}(ho:o.op = .call { callee:=.value (.func f),args,argTypes:=T })(hd:o.dst=some d)(he:enters P f)(hc:MM P f c)(h:HN N σ d c args.toList k=some r):∃ U,k U=some r/\lO P w0 N o σ U:=by
 unfold HN at h;cases Y:Nat.blt d N with
 |false=>grind
 | true=>
  rw[Y,aq]at h;have yB:d<N:=by have:=cE Y;omega
  obtain⟨ps,E,mw⟩:=Z7 (w0:=w0) (N:=N) _ _ h;split at E
  ·rename_i p hp;split at E
   ·rename_i t g q l hl;split at E
    ·rename_i nZ;cases hb:(Nat.blt g 2&&Nat.ble p.1 p.2&&Nat.ble p.2 l.length)with
     |false=>grind
     | true=>
      rw[hb,aq]at E;rw[aM,aM]at hb;have Z:g<2:=by have:=cE hb.1.1;omega
      have qz:=cE hb.1.2;have h2l:=cE hb.2
      refine⟨_,E,λa w K Q hR hK=>?_⟩
      obtain⟨af,ρ,hR⟩:=hR;unfold Oper.wp;rw[Mp w o a f args T ho he,Oper.upon_enter];have yC:(args.map a.eval)=(args.toList.map a.eval).toArray:=by apply Array.ext';rw[Array.toList_map]
      rw[yC]
      refine(hc ps p hp w _ (mw af ρ a w hR) (w0.on hR.below (λ_ _ h=>by cases h))).mono λe w' sg=>?_
      obtain⟨A,n,cap,C,hle,hn,rfl,O⟩:=sg;have kA:RV w w0.heap.size af [] (.sl t g q l) (.slice A n cap):=by
       unfold aaM at hl;split at hl
       ·rename_i x hx;have TU:((args.toList.map a.eval).toArray)[c.a]?=some (a.eval x):=by
         rw[List.getElem?_toArray,eO,hx];rfl
        unfold vl at C;rw[TU]at C;have D:=hR.aL x;split at hl
        next cs gu=>rw[gu]at D;obtain⟨us,m0,TV⟩:=D;rw[m0]at C;obtain⟨u,I,hr⟩:=TV.2 _ _ hl;simp only at C;rw[C]at I;injection I with I;subst I;exact hr.2
        ·rename_i lf yA;rw[yA]at D;cases hj:Nat.beq c.j 0 with
         |false=>grind
         | true=>
          rw[hj]at hl C;injection hl with hl;subst hl;have D:eB w w0.heap.size af ρ (.v (.sl t g q l)) (a.eval x):=D;have wL:∀ us,a.eval x ≠ .agg us:=by
           intro us e;rw[e]at D;cases D.2
          generalize a.eval x=z at C D wL;cases z<;>first|exact absurd rfl (wL _)|(simp only[aq,jb]at C;cases C;exact D.2)|(simp only[aq,jb]at C;cases C)
        ·cases hl
       ·cases hl
      obtain⟨TW,Cm,SH⟩:=kA.part (a:=p.1) (h:=p.2) Z qz h2l;subst nZ;rw[hd];have dL:=hR.grow O (aA:=af) (λ_ _=>rfl) (λb k hb hk=>absurd (hR.dj b k hk).2.1 (Nat.not_lt.2 hb));refine hK _ _ ⟨af,ρ,dL.set ⟨by simp[V.aH,Z],?_⟩ yB⟩;exact TW.jr O.size λb hb=>⟨O.block b hb,rfl⟩
    ·cases E
   ·cases E
  ·cases E
def alz{c:CB}{args:aa Operand}:cB λX k=>HN (X:=X) N σ d c args k:=λX Y k g=>by
 unfold HN
 refine dx ((EA _ _ _ _).trans (bB _ (funext λps=>?_))) rfl
 repeat' first|rfl|refine dx ?_ ?_|split
/-! Calls of functions that are run in the state of their caller. -/
def HO{X:Type}(N:Nat)(σ:S)(C:aj Tmp)(c:vm)(xs:aa A)(k:S->aj X):aj X:=c.run X N σ xs λD y=>iI N D C y k
def alA(p:Nat×Nat):A:=.aG p.1 p.2
def HP(σ:S):aa Operand->aj (aa (Nat×Nat))
 |[]=>some []
 | x :: xs=>match aL σ x,HP σ xs with
  |.aG r j,some ps=>some ((r,j)::ps)
  |_,_=>none
def alB(w:World)(o:Oper)(a:Act)(f:Nat)(cl:Operand)(C:Array Value)(args:Array Operand)(E:Array TypeId)(I:o.op = .call { callee:=.value cl,args,argTypes:=E })(O:a.eval cl = .func (.func f) #[] C)(T:enters P f):
  (execOp a.eval o).run P w = .ok (.enter f (args.map a.eval++C)) w:=by
 obtain⟨fn,U,Y,D⟩:=T;have Z:¬ fn.name = "runtime.NumGoroutine":=by simpa using Y
 have h3':¬ fn.body=none:=by intro e;rw[e]at D;cases D
 simp[execOp,I,resolve,O,Deferred.ofValue,invoke,callFunc,Sem.run,U,Z,h3']
def MO:A->aj (Nat×aa A)
 |.fn f cap=>some (f,cap.map alA)
 |.nU f cs=>some (f,[.js cs])
 |_=>none
def alC{x:A}{f:Nat}{ex:aa A}{u:Value}(h:MO x=some (f,ex))(T:RA w B af ρ x u):∃ D:Array Value,u = .func (.func f) #[] D/\D.size=ex.length /\ ∀ (j:Nat) y,ex[j]?=some y -> RA w B af ρ y (D.getD j undef):=by
 unfold MO at h;split at h
 ·rename_i f' cap;injection h with h;injection h with E I;subst E I;obtain⟨D,U,Y,Z⟩:=T
  refine⟨D,U,by simp[Y],λj y C=>?_⟩
  rw[eO]at C;cases O:cap[j]? with
  |none=>simp_all
  | some p=>
   rw[O]at C;injection C with C;subst C;obtain⟨b,off,E,I⟩:=Z _ p O;rw[iO,I];exact⟨b,off,E,rfl⟩
 ·injection h with h;injection h with E I;subst E I;obtain⟨pv,e,O⟩:=T
  refine⟨#[pv],e,rfl,λj y C=>?_⟩
  rcases j with _|j
  ·injection C with C;subst C;exact O
  ·cases C
 ·cases h
def aaP{f:Nat}{cl:Operand}{ex:aa A}{args:Array Operand}{Z:Array TypeId}{c:vm}{k:S->aj X}(ho:o.op = .call { callee:=.value cl,args,argTypes:=Z })(uV:MO (aL σ cl)=some (f,ex))(he:enters P f)(hc:ri P f c)
  (h:HO N σ o.dst c (args.toList.map (aL σ)++ex) k=some r):∃dc,k dc=some r/\lO P w0 N o σ dc:=by
 unfold HO at h
 haveI:Inhabited Wd:=⟨w0⟩
 obtain⟨q8,y,C,D⟩:=(hc.1 _ _ _).mm h;have Hq:=hc.2 _ _ _ _ _ (D _ _);have step:∀ a w K Q,R w0 N σ a w->(∀ v w' aA ρ',Rl w0 N aA ρ' q8 a w'->RA w' w0.heap.size aA ρ' y v->K (a.put o.dst v) w')->o.wp P a w K Q:=by
  intro a w K Q hR E;obtain⟨af,ρ,hR⟩:=hR;obtain⟨O,hv,hs,kB⟩:=alC uV (hR.aL cl);unfold Oper.wp;rw[alB w o a f cl O args Z ho hv he,Oper.upon_enter]
  refine(Hq w0 af ρ a w _ hR (by simp[hs]) λi=>?_).mono λe w' sg=>?_
  ·by_cases hi:i<args.size
   ·have e1:(args.toList.map (aL σ)++ex)[i]?=some (aL σ args[i]):=by
     rw[List.getElem?_append_left (by simpa using hi),eO,Array.getElem?_toList,Array.getElem?_eq_getElem hi];rfl
    have T:(args.map a.eval++O).getD i undef=a.eval args[i]:=by
     rw[iO,Array.getElem?_append_left (by simpa using hi)];simp[hi]
    rw[e1,T];exact hR.aL _
   ·have e0:(args.toList.map (aL σ)++ex)[i]?=ex[i-args.size]?:=by
     rw[List.getElem?_append_right (by simp;omega)];simp
    rw[e0];cases hp:ex[i-args.size]? with
    |none=>trivial
    | some p=>
     have T:(args.map a.eval++O).getD i undef=O.getD (i-args.size) undef:=by
      rw[iO,Array.getElem?_append_right (by simp;omega),iO];simp
     rw[T];exact kB _ p hp
  ·obtain⟨v,aA,ρ',rfl,I,U⟩:=sg;exact E v w' aA ρ' I U
 unfold iI at C;split at C
 ·rename_i D
  refine⟨q8,C,λa w K Q hR E=>step a w K Q hR λv w' aA ρ' I _=>?_⟩
  rw[D];exact E _ _ ⟨aA,ρ',I⟩
 ·rename_i d D;cases Y:Nat.blt d N with
  |false=>rw[Y]at C;cases C
  | true=>
   rw[Y,aq]at C
   refine⟨_,C,λa w K Q hR E=>step a w K Q hR λv w' aA ρ' I U=>?_⟩
   rw[D];exact E _ _ ⟨aA,ρ',I.set U (by have:=cE Y;omega)⟩
def aaQ:∀ (xs:aa Operand) (ps:aa (Nat×Nat)),HP σ xs=some ps -> ps.length=xs.length /\ ∀ af ρ a w,Rl w0 N af ρ σ a w -> ∀ (j:Nat) p,ps[j]?=some p -> ∃ b off,ρ p.1 = .az b off/\(xs.map a.eval)[j]?=some (.pointer (some ⟨b,off+p.2,none⟩))
 | [],ps,h=>by
  simp only[HP,jb]at h;simp_all
 | x :: xs,ps,h=>by
  unfold HP at h;split at h
  ·rename_i rr j I O T;injection h with h;subst h;obtain⟨U,Y⟩:=aaQ xs I T
   refine⟨by simp[U],λaf ρ a w hR C p D=>?_⟩
   cases C with
   | zero=>
    simp at D;subst D;have E:=hR.aL x;rw[O]at E;obtain⟨b,off,Z,e2⟩:=E;simp_all
   |succ C =>grind
  ·cases h
end
def A.AD(q s n:Nat):A->A
 |.lf (.own [C])=>bif Nat.beq C q then .view [q] s 0 n else .lf (.own [C])
 |x=>x
def S.AD(σ:S)(p:Nat×Nat×Nat):S:=⟨λk=>(σ.t k).AD p.1 p.2.1 p.2.2,σ.m⟩
def TX:aa (Nat×Nat×Nat)->S->S
 |[],σ=>σ
 |p::l,σ=>TX l (σ.AD p)
def TY(c0 g:Nat):Mu->aa (Nat×Nat×Nat)
 |.sl q (.sl t _ _ l)=>bif Nat.ble 1000000 g&&Nat.blt q c0 then [(q,aC t,l.length)]else []
 |_=>[]
def HQ(c0:Nat):aa PK->aa Mu->aa (Nat×Nat×Nat)
 |.v _ _::ps,C=>HQ c0 ps C
 |.p _ _ _::ps,_::C=>HQ c0 ps C
 |.s _ g::ps,D::C=>TY c0 g D++HQ c0 ps C
 |_,_=>[]
def HR{X:Type}(N:Nat)(σ:S)(C:aj Tmp)(c:n8)(args:aa Operand)(k:S->aj X):aj X:=
 match jI σ c.ps args with
 |some D=>oQ N σ C c args λE=>k (TX (HQ (iR C) c.ps D) E)
 |none=>none
section
variable {P:Program} {w w':World} {w0:Wd} {B N:Nat} {af dR aA:bw} {ρ fB ρ':Nat->Loc} {σ:S} {a:Act} {X:Type} {d:Nat} {r:X} {o:Oper}
def Rl.AD{p:Nat×Nat×Nat}{ad:aj Addr}{c:Nat}(h:Rl w0 N af ρ σ a w)(E:ρ p.1 = .dQ (.slice ad p.2.2 c)):Rl w0 N af ρ (σ.AD p) a w:=by
 refine⟨h.below,h.dj,h.root,λk=>?_,h.size,h.defers,h.fix,h.cS⟩
 have C:=h.tmp k;show RA _ _ _ _ ((σ.t k).AD p.1 p.2.1 p.2.2) _;generalize σ.t k=x at C;unfold A.AD;split
 ·rename_i I;cases hb:Nat.beq I p.1 with
  |false=>exact C
  | true=>
   obtain rfl:=cJ hb;have D:=C.2;simp only[c9,E]at D;injection D with D;refine⟨ad,p.2.2,c,by simp[c9,E],Nat.zero_le _,dg _,?_⟩;rw[<- D];cases ad<;>simp[sliced,Addr.add]
 ·exact C
def aaR:∀ (l:aa (Nat×Nat×Nat)) (σ:S),Rl w0 N af ρ σ a w->(∀ p∈l,∃ A c,ρ p.1 = .dQ (.slice A p.2.2 c))->Rl w0 N af ρ (TX l σ) a w
 |[],σ,h,_=>h
 | p :: l,σ,h,hl=>by
  obtain⟨A,c,C⟩:=hl p (.head _);exact aaR l _ (h.AD C) λp C=>hl p (.tail _ C)
def alD{c0 g:Nat}{D:Mu}{p:Nat×Nat×Nat}(h:p∈TY c0 g D):∃ q t o C l,D = .sl q (.sl t o C l)/\p=(q,aC t,l.length)/\q<c0:=by
 unfold TY at h;split at h
 ·rename_i q t o C l;cases hb:(Nat.ble 1000000 g&&Nat.blt q c0)with
  |false=>simp_all
  | true=>
   rw[hb]at h;rw[aM]at hb;exact⟨q,t,o,C,l,rfl,iw.1 h,cE hb.2⟩
 ·cases h
def MP{c0:Nat}{p:Nat×Nat×Nat}:∀ (ps:aa PK) (C:aa Mu),p∈HQ c0 ps C -> ∃ q t o D l,Mu.sl q (.sl t o D l)∈C/\p=(q,aC t,l.length)/\q<c0
 |.v _ _::ps,C,h=>MP ps C h
 |.p _ _ _::ps,O::C,h=>let ⟨q,t,o,D,l,I,E⟩:=MP ps C h;⟨q,t,o,D,l,.tail _ I,E⟩
 | .s _ g :: ps,O :: C,h=>by
  rcases List.mem_append.1 h with h|h
  ·obtain⟨q,t,o,D,l,rfl,E⟩:=alD h;exact⟨q,t,o,D,l,.head _,E⟩
  ·obtain⟨q,t,o,D,l,I,E⟩:=MP ps C h;exact⟨q,t,o,D,l,.tail _ I,E⟩
def RV.alE{q:aa Nat}{t:TC}{g:Nat}{C:Bool}{l:aa (T t)}{v:Value}(h:RV w B af q (.sl t g C l) v):∃ A c,v = .slice A l.length c:=by
 cases h<;>exact⟨_,_,rfl⟩
def alF{f:Nat}{args:Array Operand}{U:Array TypeId}{c:n8}{k:S->aj X}(Y:o.op = .call { callee:=.value (.func f),args,argTypes:=U })(Z:enters P f)(hc:wB P f c)(h:HR N σ o.dst c args.toList k=some r):∃ E,k E=some r/\lO P w0 N o σ E:=by
 unfold HR at h;split at h
 ·rename_i Tu I;obtain⟨q8,MQ,cn,h1,D,_,h4,h5⟩:=Tp (w0:=w0) Y Z hc h;rw[I]at D;injection D with D;subst D
  refine⟨_,h1,λa w K Q hR hK=>?_⟩
  obtain⟨af,ρ,hR⟩:=hR
  refine h5 a w K Q af ρ hR λv w' dR fB wI dL hv _ ck=>hK _ _ ⟨dR,wI,aaR _ _ dL λp hp=>?_⟩
  obtain⟨q,t,oo,qn,l,O,rfl,hq⟩:=MP _ _ hp;have jT:=(Mt _ _ _ I _ O).1;have T:=hR.root q _ jT;generalize C:aS.sl _=z at T;cases T with
  |az=>cases C
  |mp=>cases C
  |gh=>cases C
  | sl u y SO hr=>
   injection C with C;subst C;obtain⟨A,c,rfl⟩:=hr.alE;exact⟨A,c,(ck q hq).trans ((hv.fA q (h4 _ O)).trans SO)⟩
 ·cases h
def alG{C:aj Tmp}{c:n8}{args:aa Operand}:cB λX k=>HR (X:=X) N σ C c args k:=λX Y k g=>by
 unfold HR;split
 ·exact TS _ _ _ _
 ·rfl
end
def bw.un(af:bw)(q:Nat):bw:=λb=>match af b with
 |some k=>bif cT q k then none else some k
 |none=>none
def HS{X:Type}(P:Program)(σ:S)(q s i j:Nat)(t:TypeId)(x:A)(k:S->aj X):aj X:=
 match σ.m q with
 |some (.sl (.sl tc (o+2) C l))=>bif Nat.beq s (aC tc)&&Nat.beq (full tc) 0 then qW P (σ.drop q) t (x.drop q) (.lf (.v (.sl tc 0 false ((l.take j).drop i)))) k else none
 |_=>none
section
variable {P:Program} {w w':World} {w0:Wd} {B N:Nat} {af aA:bw} {ρ ρ':Nat->Loc} {σ:S} {a:Act} {X:Type} {d q:Nat} {r:X} {o:Oper} {y:V}
def alH(C:∀ b,af b≠some []):Rel q af (af.un q):=
 ⟨C,λb h=>by simp[bw.un,h],λb k h D=>by simp[bw.un,h,D]⟩
def RV.ice{tc:TC}{g:Nat}{U:Bool}{l:aa (T tc)}{A:aj Addr}{n c:Nat}(D:RV w B af [q] (.sl tc (g+2) U l) (.slice A n c))(hf:full tc=0):RV w B (af.un q) [] (.sl tc 0 false l) (.slice A n c)/\n=l.length:=by
 cases D with
 |eS=>exact⟨.eS _ _ _,rfl⟩
 |fU=>grind
 |gj=>grind
 |aH _ _ _ _ _ _ _ _ _ ho=>omega
 | own=>
  rename_i b cs u hl I hc D hs Y hm;have O:∀ (i:Nat) (h:i<l.length) (j:Nat) (x:V),(enc tc 0 l[i])[j]?=some x -> (enc tc g l[i])[j]?=some x/\x.plain=true:=by
   intro i h j x C;obtain⟨y,E,rfl⟩:=xX tc g l[i] j x C;have Z:=LR tc g l[i] y (gT E);cases y with
   | sl t' o' q' l'=>
    have:=cE (show Nat.ble _ _=true from Z);omega
   | nil=>
    have:=R3 tc g l[i] _ (gT E);cases this
   |_=>exact⟨E,rfl⟩
  refine⟨.aH _ _ _ _ _ b 0 c u (by omega) (by simp[bw.un,hl,cT]) (iY.1 I).1 (by omega) Y (λi h j x C=>?_) (λi h j x C=>?_),rfl⟩
  ·rw[fO,cell_of_row w b _ cs _ _ I];simp_all
  ·exact(D i h j x (O i h j x C).1).uO (O i h j x C).2
def alI{s i j:Nat}{t:TypeId}{x:A}{k:S -> aj X}(h:HS P σ q s i j t x k=some r):∃ E,k E=some r /\ ∀ af ρ a w,Rl w0 N af ρ σ a w -> ∀ u v,RA w w0.heap.size af ρ x u -> RA w w0.heap.size af ρ (.view [q] s i j) v ->
  ∃w' aA,(Instr.storeAt t u v).run P w = .ok () w'/\Rl w0 N aA ρ E a w':=by
 unfold HS at h;split at h
 ·rename_i tc g Z l hm;cases hb:(Nat.beq s (aC tc)&&Nat.beq (full tc) 0)with
  |false=>rw[hb]at h;cases h
  | true=>
   rw[hb,aq]at h;rw[aM]at hb;obtain rfl:=cJ hb.1;have hf:=cJ hb.2;obtain⟨E,h1,hs⟩:=ZC (w0:=w0) (N:=N) h
   refine⟨E,h1,λaf ρ a w hR u v hu hv=>?_⟩
   have I:Rel q af (af.un q):=alH hR.yj;have tQ:=hR.rel I (λb k C=>by
    unfold bw.un at C;cases hl:af b with
    |none=>rw[hl]at C;cases C
    | some O=>
     rw[hl]at C;simp only at C;cases T:cT q O with
     |true=>rw[T]at C;cases C
     | false=>
      rw[T]at C;injection C with C;subst C;exact⟨⟨_,rfl⟩,(hR.dj b O hl).2.2⟩)
   obtain⟨A,n,c,U,h3,h4,rfl⟩:=hv;have Y:=hR.root q _ hm;generalize D:aS.sl (.sl tc (g+2) Z l)=z at Y;cases Y with
   |az=>cases D
   |mp=>cases D
   |gh=>cases D
   | sl vq y ck hr=>
    injection D with D;subst D;have hvq:vq = .slice A n c:=by
     simp only[c9,ck]at U;injection U
    subst hvq;obtain⟨h5,h6⟩:=hr.ice hf;have h7:=(h5.part (by omega) h3 (by omega)).1;obtain⟨w',eR,kZ⟩:=hs _ _ _ _ tQ u _ (hu.rel I) (show RA _ _ _ _ (.lf (.v _)) _ from ⟨rfl,h7⟩);exact⟨w',_,eR,kZ⟩
 ·cases h
def alJ{q s i j:Nat}{t:TypeId}{x:A}:cB λX k=>HS (X:=X) P σ q s i j t x k:=λX Y k g=>by
 unfold HS
 repeat' first|rfl|exact aaF _ _ _ _|refine dx ?_ ?_|split
def EC{X:Type}(P:Program)(σ:S)(t:TypeId)(x lo hi C:A)(k:aj X):aj X:=
 match x,lo,hi,C with
 | .lf (.own q),.lf (.v (.int _ a)),.lf (.v (.int _ b)),.lf (.v (.int _ c))=>(match qV P t with
  | some e=>(match jF P e with
   | some _=>ju σ.m q λy=>(match y with
    |.sl _ _ _ l=>if 0<=a/\a<=b/\b<=c/\c<=(l.length:Int)then k else none
    |_=>none)
   |none=>none)
  |none=>none)
 |_,_,_,_=>none
def alK{t:TypeId}{x lo hi Y:A}{k:aj X}(h:EC P σ t x lo hi Y k=some r):k=some r /\
  ∀af ρ a w,Rl w0 N af ρ σ a w -> ∀u I O T,RA w w0.heap.size af ρ x u -> RA w w0.heap.size af ρ lo I -> RA w w0.heap.size af ρ hi O -> RA w w0.heap.size af ρ Y T -> ∃v,(Instr.sliceAt t u (some I) (some O) (some T)).run P w = .ok v w:=by
 unfold EC at h;split at h
 ·rename_i q kl a kh b km c;split at h
  ·rename_i e U;split at h
   ·rename_i n Z;obtain⟨y0,SI,C⟩:=tv q _ h;split at C
    ·rename_i tc g qn xs;split at C
     ·rename_i hb
      refine⟨C,λaf ρ ac w hR u I O T hu hl hh hm=>?_⟩
      rw[hl.2.gY,hh.2.gY,hm.2.gY];have gD:P.underlying t=some (.slice e):=by
       unfold qV at U;split at U
       ·grind
       ·cases U
      have hU:P.elem t=e:=by simp[Program.elem,gD]
      have aaS:P.underlying t=some (.slice (P.elem t)):=by rw[hU];exact gD
      have hss:(sizeOf (P.elem t)).run P w = .ok n w:=by
       unfold jF at Z;cases hi:P.info? e with
       |none=>grind
       | some i=>
        have:i.size=n:=by simpa [hi]using Z
        simp[sizeOf,typeInfo,hU,hi,this]
      obtain⟨v0,yp,jd⟩:=SI.ok hR.root;have gC:∃ D n c,u = .slice D n c:=by
       have:=hu.1;cases u<;>first|cases this;done|exact⟨_,_,_,rfl⟩
      obtain⟨D,n',c',rfl⟩:=gC;have E:=hu.2;rw[yp]at E;injection E with E;subst E;have hf:RV w 0 (λ_=>none) [] (.sl tc 0 qn xs) (.slice D n' c'):=jd.gI;obtain⟨_,Cm,SH⟩:=RV.part (w:=w) hf (a:=0) (h:=xs.length) (by omega) (by omega) (by omega);refine⟨sliced D a.toNat b.toNat c.toNat n,?_⟩;rw[run_sliceAt_slice w t _ _ _ _ aaS,run_slice_lhm w t D n' c' aaS kl kh km a b c hb.1 hb.2.1 hb.2.2.1 (by omega),hss];rfl
     ·cases C
    ·cases C
   ·cases h
  ·cases h
 ·cases h
end
section
variable {P:Program} (w:World)
end
section
variable {P:Program} {w w':World} {w0:Wd} {B N:Nat} {af aA:bw} {ρ ρ':Nat->Loc} {σ:S} {a:Act} {X:Type} {d:Nat} {r:X}
end
def m9(l:aa (Int×Bool))(k:Int):Bool:=match l with
 |[]=>false
 |p::ps=>bif k==p.1 then p.2 else m9 ps k
def oa(l:aa (Int×Bool))(k:Int)(v:Bool):aa (Int×Bool):=match l with
 |[]=>[(k,v)]
 |p::ps=>bif k==p.1 then (k,v)::ps else p::oa ps k v
def ED(P:Program)(t:TypeId):Bool:=match P.underlying t with
 | some (.map k e)=>(match P.underlying k with
  |some (.int .i64)=>true
  |_=>false)&&(match zeroOf P e with
  |some (.bool false)=>true
  |_=>false)
 |_=>false
def TZ{X:Type}(N:Nat)(σ:S)(d:Nat)(k:S->aj X):aj X:=gZ N σ d (.mp []) (.pk d r4) k
def CC{X:Type}(P:Program)(σ:S)(t:TypeId)(x i:A)(k:A->aj X):aj X:=
 match x,i with
 | .pk r n,.lf (.v (.int .i64 key))=>bif Nat.beq n r4&&ED P t then (match σ.m r with
  |some (.mp l)=>k (.lf (.v (.bool (m9 l key))))
  |_=>none)else none
 |_,_=>none
def CD{X:Type}(P:Program)(σ:S)(t:TypeId)(x i v:A)(k:S->aj X):aj X:=
 match x,i,v with
 | .pk r n,.lf (.v (.int .i64 key)),.lf (.v (.bool b))=>bif Nat.beq n r4&&ED P t then (match σ.m r with
  |some (.mp l)=>k ⟨σ.t,bJ σ.m r (some (.mp (oa l key b)))⟩
  |_=>none)else none
 |_,_,_=>none
section
variable {P:Program} {w w':World} {w0:Wd} {B N:Nat} {af aA:bw} {ρ ρ':Nat->Loc} {σ:S} {a:Act} {X:Type} {d:Nat} {r:X} {o:Oper}
def aaT{t:TypeId}(h:ED P t=true):∃ k e i,P.underlying t=some (.map k e)/\P.underlying k=some (.int .i64)/\P.info? e=some i/\i.zero=some (.bool false):=by
 unfold ED at h;split at h
 ·rename_i k e D;rw[aM]at h;obtain⟨E,I⟩:=h;have O:P.underlying k=some (.int .i64):=by
   grind
  have C:zeroOf P e=some (.bool false):=by
   grind
  unfold zeroOf at C;cases hi:P.info? e with
  |none=>simp_all
  |some i =>grind
 ·cases h
def Rl.newObj{D:Obj}{x:aS}{ρ':Nat -> Loc}(h:Rl w0 N af ρ σ a w)(E:w0.F d=none)(I:∀ r,r≠d -> ρ' r=ρ r)
  (O:eH (w.alloc D) w0.heap.size (bJ af w.heap.size (some [d])) ρ' d x):Rl w0 N (bJ af w.heap.size (some [d])) ρ' ((σ.drop d).root d x) a (w.alloc D):=by
 refine h.z0 E (jt.ZL w0 w _ h.below.size) ⟨by simp,λb hb _=>Below.heap_alloc w _ b hb,λb hb=>cy _ _ _ (by omega),λb hb=>(h.dj b [] hb).2.2 rfl⟩ (λb k hb C=>?_) I O
 by_cases e:b=w.heap.size
 ·subst e;rw[bM]at C;injection C with C;subst C;simp_all
 ·rw[cy _ _ _ e]at C;have:=(h.dj b k C).2.1;omega
def alL{t:TypeId}{k:S -> aj X}(h:TZ N σ d k=some r):∃ C,k C=some r /\ ∀ af ρ a w,Rl w0 N af ρ σ a w -> ∃ w' aA ρ' v,(Instr.makeMap t none).run P w = .ok v w'/\Rl w0 N aA ρ' C (a.put (some d) v) w':=by
 obtain⟨D,h⟩:=nY h
 refine⟨_,h,λaf ρ a w hR=>?_⟩
 have E:(Instr.makeMap t none).run P w = .ok _ _:=rfl
 refine⟨_,bJ af _ _,bJ ρ d _,_,E,(hR.newObj (hR.cS d (.inl D)) (λr I=>cy _ _ _ I) ?_).set ⟨w.heap.size,bM _ _ _,(R6 _).symm⟩ D⟩
 exact .mp _ 0 #[] [] (bM _ _ _) (bM _ _ _) (heap_alloc_new w _) rfl
def alM:cB λX k=>TZ (X:=X) N σ d k:=MF
def alN{t:TypeId}{x i:A}:cB λX k=>CC (X:=X) P σ t x i k:=λX Y k g=>by
 unfold CC
 repeat' first|rfl|refine dx ?_ ?_|split
def alO{t:TypeId}{x i v:A}:cB λX k=>CD (X:=X) P σ t x i v k:=λX Y k g=>by
 unfold CD
 repeat' first|rfl|refine dx ?_ ?_|split
def CE(l:aa (Int×Bool)):aa (Value×Value):=l.map λp=>(.int .i64 p.1,.bool p.2)
def T0:∀ (C:aa MapEntry) (l:aa (Int×Bool)) (k:Int) (n:Nat),C.map (λe=>(e.key,e.val))=CE l ->
  (Instr.findNow (.int .i64) (.int .i64 k) C n=some none/\m9 l k=false /\ ∀v,oa l k v=l++[(k,v)]) \/
  (∃i b,Instr.findNow (.int .i64) (.int .i64 k) C n=some (some (n+i,.bool b))/\m9 l k=b /\ ∃h:i<C.length,C[i].key = .int .i64 k /\ ∀v,CE (oa l k v)=(C.modify i λe=>{ e with key:=.int .i64 k,val:=.bool v }).map (λe=>(e.key,e.val)))
 |[],[],k,n,_=>.inl ⟨rfl,rfl,λv=>rfl⟩
 |[],_::_,k,n,h=>by cases h
 |_::_,[],k,n,h=>by cases h
 | e :: C,p :: l,k,n,h=>by
  have h:(e.key,e.val) :: C.map (λe=>(e.key,e.val))=(.int .i64 p.1,.bool p.2) :: CE l:=h;injection h with Y O;injection Y with T Z;have D:Instr.sameNow (.int .i64) (.int .i64 k) e.key=some (k==p.1):=by
   rw[T];simp[Instr.sameNow]
  cases hb:(k==p.1)with
  | true=>
   have MR:k=p.1:=by simpa using hb
   refine .inr ⟨0,p.2,?_,by simp only[m9,hb,aq],by simp,by simp[T,MR],λv=>?_⟩
   ·simp only[Instr.findNow,D,hb,Z];rfl
   ·simp only[oa,hb];simp;show _::CE l=_;rw[O]
  | false=>
   rcases T0 C l k (n+1) O with ⟨U,E,I⟩|⟨i,b,U,E,hi,I,a4⟩
   ·refine .inl ⟨?_,by simp[m9,hb,av,E],λv=>by simp only[oa,hb,I];rfl⟩
    simp[Instr.findNow,D,hb];exact U
   ·refine .inr ⟨i+1,b,?_,by simp only[m9,hb,av,E],by simpa using hi,by simpa using I,λv=>?_⟩
    ·simp[Instr.findNow,D,hb]
     grind
    ·simp only[oa,hb];simp;show _ :: CE _=_
     grind
def MS{kt:TypeId}{k:Int}{C:aa MapEntry}{z:aj (Nat×Value)}(D:P.underlying kt=some (.int .i64))(h:Instr.findNow (.int .i64) (.int .i64 k) C 0=some z):(Instr.findKey kt (.int .i64 k) C).run P w = .ok z w:=by
 unfold Instr.findKey;simp only[gA,iu D,me,h];rfl
def alP{t:TypeId}{x i:A}{k:A -> aj X}(h:CC P σ t x i k=some r):∃ v,k v=some r/\m6 (λX k=>CC (X:=X) P σ t x i k) v /\ ∀ af ρ a w,Rl w0 N af ρ σ a w -> ∀ u z,RA w w0.heap.size af ρ x u -> RA w w0.heap.size af ρ i z ->
  ∃y,(Instr.lookup t u z false).run P w = .ok y w/\RA w w0.heap.size af ρ v y:=by
 unfold CC at h;split at h
 ·rename_i rr n key;cases hb:(Nat.beq n r4&&ED P t)with
  |false=>grind
  | true=>
   rw[hb,aq]at h;split at h
   ·rename_i l O
    refine⟨_,h,λX k=>by simp only[CC,hb,aq,O],λaf ρ a w hR u z Z D=>?_⟩
    rw[aM]at hb;obtain⟨kt,et,ti,ht,E,hi,yM⟩:=aaT hb.2;have hn:=cJ hb.1;subst hn;obtain⟨b,ck,rfl⟩:=Z;have D:z = .int .i64 key:=by
     have h2:=D.2;cases h2;rfl
    subst D;have T:=hR.root rr _ O;generalize C:aS.mp l=y at T;cases T with
    |az=>cases C
    |sl=>cases C
    |gh=>cases C
    | mp b' c es l' U hl hh MT=>
     injection C with C;subst C;rw[ck]at U;injection U with e1 _;subst e1;refine⟨.bool (m9 l key),?_,rfl,.bool _ _⟩;rw[R6];unfold Instr.lookup;simp only[gA,iu ht,me,MapKept.run_getObj_map hh,Sem.run_pure];rw[MapKept.run_checkKey (k:=.int .i64 key) E rfl];simp only[me];rcases T0 es.toList l key 0 MT with ⟨I,Y,_⟩|⟨i,v,I,Y,_⟩
     ·rw[MS E I];have Ea:(zeroValue et).run P w = .ok (.bool false) w:=by simp[zeroValue,typeInfo,hi,yM]
      simp_all
     ·rw[MS E I];simp only[ Y,gA];rfl
   ·cases h
 ·cases h
def alQ{t:TypeId}{x i v:A}{k:S -> aj X}(h:CD P σ t x i v k=some r):∃ T,k T=some r/\m6 (λX k=>CD (X:=X) P σ t x i v k) T /\ ∀ af ρ a w,Rl w0 N af ρ σ a w -> ∀ u z y,RA w w0.heap.size af ρ x u -> RA w w0.heap.size af ρ i z -> RA w w0.heap.size af ρ v y ->
  ∃w',(Instr.mapUpdate t u z y).run P w = .ok () w'/\Rl w0 N af ρ T a w':=by
 unfold CD at h;split at h
 ·rename_i rr n key U;cases hb:(Nat.beq n r4&&ED P t)with
  |false=>grind
  | true=>
   rw[hb,aq]at h;split at h
   ·rename_i l hm
    refine⟨_,h,λX k=>by simp only[CD,hb,aq,hm],λaf ρ a w hR u z y hu Y C=>?_⟩
    rw[aM]at hb;obtain⟨kt,et,ti,ht,Z,hi,yM⟩:=aaT hb.2;have hn:=cJ hb.1;subst hn;obtain⟨b,ck,rfl⟩:=hu;have Y:z = .int .i64 key:=by
     have h2:=Y.2;cases h2;rfl
    subst Y;have C:y = .bool U:=by
     have h2:=C.2;cases h2;rfl
    subst C;have fk:=hR.root rr _ hm;generalize D:aS.mp l=y at fk;cases fk with
    |az=>cases D
    |sl=>cases D
    |gh=>cases D
    | mp b' c es l' jk hl O MT=>
     injection D with D;subst D;rw[ck]at jk;injection jk with e1 _;subst e1;have TN:b<w.heap.size:=(iY.1 O).1;have Cw:∀ (E:Array MapEntry) (I:Nat),E.toList.map (λe=>(e.key,e.val))=CE (oa l key U) -> Rl w0 N af ρ ⟨σ.t,bJ σ.m rr (some (.mp (oa l key U)))⟩ a { w with heap:=w.heap.setIfInBounds b (.map E I) }:=by
      intro E I alR;have hW:v9 w { w with heap:=w.heap.setIfInBounds b (.map E I) } b:=by
       refine⟨by simp,rfl,rfl,rfl,λk hk=>?_⟩
       show _[k]?=_;rw[Array.getElem?_setIfInBounds_ne (Ne.symm hk)]
      have hC:r6 w { w with heap:=w.heap.setIfInBounds b (.map E I) } af ρ:=by
       intro k ad v ha hv gC;obtain⟨j',i',s',q,rfl,hq,_,_,hh'⟩:=B8 k ad ha;have cA:ad.block≠b:=by
        grind
       exact(World.cell?_of_block (hW.block _ cA)).trans hv
      refine hR.wrote hW hl hC λr' y C=>?_
      by_cases mZ:r'=rr
      ·subst mZ;rw[bM]at C;injection C with C;subst C;refine .mp b I E _ ck hl ?_ alR;simp_all
      ·rw[cy _ _ _ mZ]at C;exact(hR.root r' y C).wrote hW hl hC (Zu mZ)
     rw[R6];unfold Instr.mapUpdate;simp only[gA,iu ht,me,MapKept.run_getObj_map O,Sem.run_pure];rw[MapKept.run_checkKey (k:=.int .i64 key) Z rfl];simp only[me];rcases T0 es.toList l key 0 MT with ⟨a1,a2,a3⟩|⟨i,v,a1,a2,HI,a3,a4⟩
     ·rw[MS Z a1];simp;rw[MapKept.run_setObj_map _ O];refine⟨_,rfl,Cw _ _ ?_⟩;rw[a3];simp only[Array.toList_push,List.map_append,MT,CE];rfl
     ·rw[MS Z a1];simp only[me,fO];have TB:(es[i]?.map (·.key)).getD (.int .i64 key) = .int .i64 key:=by
       grind
      rw[TB];have kC:(Instr.keyThatStays (.int .i64 key) (.int .i64 key)).run P w = .ok (.int .i64 key) w:=by
       unfold Instr.keyThatStays;simp[Instr.sameBits]
      simp only[gA];rw[kC];simp only[me];rw[MapKept.run_setObj_map _ O];refine⟨_,rfl,Cw _ _ ?_⟩;rw[a4];simp
   ·cases h
 ·cases h
end
def MU(t:TypeId)(d:Nat)(x:Operand):Bool:=[(59,26,22)].any λ(p:Nat×Nat×Nat)=>Nat.beq p.1 t&&Nat.beq p.2.1 d&&(match x with
 |.tmp n=>Nat.beq n p.2.2 ||Nat.beq p.2.2 1000000
 |_=>false)
def CF(C:aj Tmp)(t:TypeId)(x:Operand):Bool:=match C with
 |some d=>MU t d x
 |none=>false
def HT{X:Type}(P:Program)(N:Nat)(σ:S)(d:Nat)(t:TypeId)(x y:A)(k:S->aj X):aj X:=
 match wj P t with
 | some (e,tc)=>bif Nat.beq (full tc) 0&&(zeroOf P e).any (λz=>Nat.beq z.cells.size (aC tc))then tw σ y λC=>(match C.L9 tc with
  |none=>none
  | some l2=>match x with
   | .lf (.own [r])=>(match σ.m r with
    |some (.sl (.sl D (o+2) true l))=>if h:D=tc then (bif !jG l2&&bX (l.length+l2.length)then gZ N σ d (.sl (.sl tc (o+2) false ((h ▸ l)++l2))) (.lf (.own [d])) k else none)else none
    |_=>none)
   |_=>none)else none
 |none=>none
section
variable {P:Program} {w w':World} {w0:Wd} {B N:Nat} {af aA:bw} {ρ ρ':Nat->Loc} {σ:S} {a:Act} {X:Type} {d:Nat} {r:X}
def Rl.alS{t e ty:TypeId}{tc:TC}{i:TypeInfo}{z:Value}{rr o g:Nat}{qn:Bool}{l l2:aa (T tc)}{u v:Value}{q':aa Nat}{Bx:Nat}{Su:bw}(h:Rl w0 N af ρ σ a w)(hF:w0.F d=none)(gD:P.underlying t=some (.slice e))(ht:tid tc=e)(hi:P.info? e=some i)(hz:i.zero=some z)
  (Y:i.size=aC tc) (kf:i.bytes <= 65536) (nP:z.cells.size=aC tc) (hf:full tc=0) (hd:RV w w0.heap.size af [rr] (.sl tc (o+2) true l) u) (hs:RV w Bx Su q' (.sl tc g qn l2) v) (cA:l2≠[]) (hlen:l.length+l2.length<1073741824):
  ∃D w' aA,(Builtin.append_ #[t,t] ty #[u,v]).run P w = .ok D w'/\Rl w0 N aA (bJ ρ d (.dQ D)) ((σ.drop d).root d (.sl (.sl tc (o+2) false (l++l2)))) a w'/\mX D=true:=by
 subst ht;obtain⟨xs,E,ayK,GY,hU⟩:=hd.ZO hf (B':=0) (λb _=>Nat.zero_le b);obtain⟨A,c,news,rfl,Z,qm,GZ⟩:=hs.reads hf;have gX:(l.length+l2.length)*i.bytes <= 140737488355328:=by
  have h1:(l.length+l2.length)*i.bytes <= 1073741824*65536:=Nat.mul_le_mul (by omega) kf;omega
 have uU:0<l2.length:=List.length_pos_iff.2 cA;obtain⟨D,w',eR,aaU,hgr,jc⟩:=RO (P:=P) w 0 t ty (tid tc) i z (aC tc) i.bytes gD hi hz Y rfl nP (oH tc) u l.length xs E _ A l2.length c news Z qm (by unfold maxLen;omega) gX (Nat.zero_le _);have G0:(l++l2).length=l.length+l2.length:=List.length_append;have hex:∃ b,u = .slice (some ⟨b,0,none⟩) l.length l.length:=by
  cases hd with
  |aH _ _ _ _ _ _ _ _ _ ho=>omega
  |gj _ _ _ _ _ ho=>omega
  |own _ _ _ _ _ b cap cs us hl hh hs hn hm hc hr=>exact⟨b,by rw[hm.2 rfl]⟩
 obtain⟨b,rfl⟩:=hex;obtain⟨I,O,rfl,_,gu⟩:=Z.2 uU;have alT:∀ j x,news[j]?=some x -> w.cell? ((⟨I,O,none⟩:Addr).add j)=some x:=by
  intro j x hx;have LP:(⟨I,O,none⟩:Addr).add j=⟨I,O+j,none⟩:=by unfold Addr.add;split<;>simp_all
  grind
 have aaV:=run_append_grow (P:=P) w t ty (tid tc) i z gD hi hz ⟨b,0,none⟩ l.length l.length xs (by rw[Y];exact E.1) (E.cells (g:=b) rfl) ⟨I,O,none⟩ l2.length c news (by rw[Y];exact Z.1) alT (by omega) (by omega) (growslice_fits (by omega) gX);rw[eR]at aaV;injection aaV with e1 e2;have hold:∀ k,k<w.heap.size -> w'.heap[k]?=w.heap[k]?:=by
  intro k C;rw[e2];exact heap_alloc_old _ _ C
 have hvb:D.ownBlock=some w.heap.size:=by rw[e1];rfl
 have dK:w.heap.size<w'.heap.size:=by rw[e2];simp
 rw[<- G0]at aaU;have Ch:=hU.append GZ E.1;have gC:mX D=true:=by rw[e1];rfl
 have U:Below 0 w w':=(Below.refl 0 w).grown hgr (Nat.zero_le _) (λ_ _=>Nat.zero_le _);have tF:jt w0 w w':=⟨U.os,U.tape,U.output,U.size,λk C hL=>hold k (Nat.lt_of_lt_of_le C h.below.size)⟩
 refine⟨D,w',bJ af w.heap.size (some [d]),eR,h.z0 hF tF ⟨hgr.size,λb hb _=>hold b hb,λb hb=>cy _ _ _ (by omega),λb hb=>(h.dj b [] hb).2.2 rfl⟩ (λb k hb C=>?_) (λr hr=>cy _ _ _ hr) (.sl D _ (bM _ _ _) (Ss aaU Ch (λb hb=>?_))),gC⟩
 ·by_cases e:b=w.heap.size
  ·subst e;rw[bM]at C;injection C with C
   grind
  ·rw[cy _ _ _ e]at C;have:=(h.dj b k C).2.1;omega
 ·rw[hvb]at hb;injection hb with hb;subst hb;exact bM _ _ _
def alU{t ty:TypeId}{x y:A}{k:S -> aj X}(h:HT P N σ d t x y k=some r):∃ U,k U=some r /\ ∀ af ρ a w,Rl w0 N af ρ σ a w -> ∀ u v,RA w w0.heap.size af ρ x u -> RA w w0.heap.size af ρ y v ->
  ∃w' aA ρ' z,(Builtin.append_ #[t,t] ty #[u,v]).run P w = .ok z w'/\Rl w0 N aA ρ' U (a.put (some d) z) w':=by
 unfold HT at h;split at h
 ·rename_i e tc qj;obtain⟨gD,ht,i,hi,gM,kf⟩:=Ab qj;cases E:(Nat.beq (full tc) 0&&(zeroOf P e).any (λz=>Nat.beq z.cells.size (aC tc)))with
  |false=>grind
  | true=>
   rw[E,aq]at h;rw[aM]at E;have hf:=cJ E.1;obtain⟨z,Y,O⟩:=(Option.any_eq_true _ _).1 E.2;have O:=cJ O;have qk:i.zero=some z:=by unfold zeroOf at Y;simpa [hi]using Y
   obtain⟨yv,Md,C⟩:=ZP (w0:=w0) (N:=N) h;clear h;split at C
   ·cases C
   ·rename_i l2 jv;split at C
    ·rename_i rr;split at C
     ·rename_i t' o l hm;split at C
      ·rename_i nZ;subst nZ;cases I:(!jG l2&&bX (l.length+l2.length))with
       |false=>grind
       | true=>
        rw[I,aq]at C;rw[aM]at I;have cA:l2≠[]:=by rintro rfl;cases I.1
        have G1:l.length+l2.length<1073741824:=by simpa [bX]using I.2
        obtain⟨Z,h3⟩:=nY C
        refine⟨_,h3,λaf ρ a w hR u v hu hv=>?_⟩
        obtain⟨q',_,_,T⟩:=Md af ρ a w hR v hv;obtain⟨g,qn,T⟩:=Sx jv T;have fk:=hR.root rr _ hm;generalize D:aS.sl (.sl t' (o+2) true l)=x at fk;cases fk with
        |az=>cases D
        |mp=>cases D
        |gh=>cases D
        | sl uu y ck hr=>
         injection D with D;subst D;have GW:uu=u:=by
          have h4:=hu.2;simp only[c9,ck]at h4;simp_all
         subst GW;obtain⟨v',w',aA,eR,dL,gC⟩:=hR.alS (ty:=ty) (d:=d) (hR.cS d (.inl Z)) gD ht hi qk gM kf O hf hr T cA G1;exact⟨w',aA,_,v',eR,dL.set ⟨gC,by simp[c9,bM]⟩ Z⟩
      ·cases C
     ·cases C
    ·cases C
 ·cases h
def alV{t:TypeId}{x y:A}:cB λX k=>HT (X:=X) P N σ d t x y k:=λX Y k g=>by
 unfold HT;split
 ·refine dx ((TD _ _ _ _).trans (bB _ (funext λC=>?_))) rfl
  repeat' first|rfl|exact MF _ _ _ _|refine dx ?_ ?_|split
 ·rfl
def HU{X:Type}(P:Program)(N:Nat)(σ:S)(d:Nat)(t:TypeId)(x y:A)(k:S->aj X):aj X:=
 match x with
 |.view q s i j=>G2 P N σ d t (.view q s i j) y k
 |x=>HT P N σ d t x y k
def alW{t ty:TypeId}{x y:A}{k:S->aj X}(h:HU P N σ d t x y k=some r):∃ C,k C=some r/\∀ af ρ a w,Rl w0 N af ρ σ a w->∀ u v,RA w w0.heap.size af ρ x u->RA w w0.heap.size af ρ y v->
  ∃w' aA ρ' z,(Builtin.append_ #[t,t] ty #[u,v]).run P w = .ok z w'/\Rl w0 N aA ρ' C (a.put (some d) z) w':=by
 unfold HU at h;split at h
 ·exact ajR h
 ·exact alU h
def alX{t:TypeId}{x y:A}:cB λX k=>HU (X:=X) P N σ d t x y k:=λX Y k g=>by
 unfold HU;split
 ·exact ajS _ _ _ _
 ·exact alV _ _ _ _
end
abbrev eN:=Nat->aj rj
def fZ(P:Program)(Φ:eN):Prop:=∀f c,Φ f=some c->enters P f/\TR P f c
def gS{X:Type}(o:Oper)(k:Nat->aj X):aj X:=
 match o.dst with
 |some d=>k d
 |none=>none
def ga:Op->Bool
 |.move _|.assign _|.pick .. |.build .. |.load .. |.binOp .. |.unOp .. |.convert .. |.fieldAddr .. |.field .. |.indexAddr .. |.index .. |.extract .. |.nilCheck _=>true
 |.call ⟨.builtin .len,_,_⟩|.call ⟨.builtin .max,_,_⟩|.call ⟨.builtin .min,_,_⟩=>true
 |.slice _ _ _ _ none=>true
 |_=>false
def nc{X:Type}(P:Program)(σ:S)(C:Op)(k:A->aj X):aj X:=
 match C with
 |.move x=>k (aL σ x)
 |.assign x=>k (aL σ x)
 | .pick c x y=>(match aL σ c with
  |.lf (.v (.bool b))=>bif b then k (aL σ x)else k (aL σ y)
  |_=>none)
 |.build t parts=>Ed P σ t parts.toList k
 |.load t x=>oJ P σ t (aL σ x) k
 |.binOp C t x y _=>Aj P σ C t (aL σ x) (aL σ y) k
 |.unOp C _ x=>vK (aL σ x) λa=>GP C a λz=>k (.lf (.v z))
 |.convert s d x=>Ag P σ s d (aL σ x) k
 |.fieldAddr s x f=>D8 P s (aL σ x) f k
 |.field s x f=>G9 P s (aL σ x) f k
 |.indexAddr t x i=>zY P σ t (aL σ x) (aL σ i) k
 |.index t x i=>He P t (aL σ x) (aL σ i) k
 |.extract x i=>Cd (aL σ x) i k
 |.nilCheck x=>MI (aL σ x) k
 |.call ⟨.builtin .len,⟨[x]⟩,⟨[t]⟩⟩=>Cc P σ t (aL σ x) k
 |.call ⟨.builtin .max,⟨[x,y]⟩,⟨[_,_]⟩⟩=>Ee true (aL σ x) (aL σ y) k
 |.call ⟨.builtin .min,⟨[x,y]⟩,⟨[_,_]⟩⟩=>Ee false (aL σ x) (aL σ y) k
 |.slice t x lo hi none=>Al P σ t (aL σ x) (lo.map (aL σ)) (hi.map (aL σ)) k
 |_=>none
def iU{X:Type}(P:Program)(N:Nat)(Φ:eN)(σ:S)(o:Oper)(k:S->aj X):aj X:=
 match o.op with
 |.alloc e=>gS o λd=>r8 P N σ d e k
 |.box e x=>gS o λd=>AB N σ d (aL σ x) k
 |.buildSlice t len parts=>gS o λd=>bif q9 t then wK P N σ d t len parts.toList k else Af P N σ d t len parts.toList k
 | .store t x y=>(match o.dst with
  |none=>bif yL (aL σ x) (aL σ y)then vk P σ t (aL σ x) (aL σ y) k else qW P σ t (aL σ x) (aL σ y) k
  |some _=>none)
 |.makeSlice t l c=>gS o λd=>Aa P N σ d t (aL σ l) (aL σ c) k
 | .call ⟨.value (.func f),args,_⟩=>(match Φ f with
  |some (.p c)=>gS o λd=>ake N σ d c args.toList k
  |some (.m c)=>oQ N σ o.dst c args.toList k
  |some (.v c)=>gS o λd=>HN N σ d c args.toList k
  | some (.n F)=>gS o λd=>(match args.toList with
   |[x]=>HM N σ d F (aL σ x) k
   |_=>none)
  |some (.i c)=>HO N σ o.dst c (args.toList.map (aL σ)++[]) k
  |some (.d c)=>HH N σ o.dst c args.toList k
  |some (.q c)=>gS o λd=>akd N σ d c args.toList k
  |some (.c c)=>HR N σ o.dst c args.toList k
  |none=>none)
 |.call ⟨.builtin .append,⟨[x,y]⟩,⟨[t,C]⟩⟩=>bif Nat.beq t C then gS o λd=>bif q9 t then HK P N σ d t (aL σ x) (aL σ y) k else bif MU t d x then HU P N σ d t (aL σ x) (aL σ y) k else uS P N σ d t (aL σ x) (aL σ y) k else none
 |.makeMap _ none=>gS o λd=>TZ N σ d k
 |.lookup t x i false=>CC P σ t (aL σ x) (aL σ i) λv=>iI N σ o.dst v k
 | .mapUpdate t x i v=>(match o.dst with
  |none=>CD P σ t (aL σ x) (aL σ i) (aL σ v) k
  |some _=>none)
 | .call ⟨.value (.tmp t),args,_⟩=>(match MO (aL σ (.tmp t))with
  | some (f,ex)=>(match Φ f with
   |some (.i c)=>HO N σ o.dst c (args.toList.map (aL σ)++ex) k
   |_=>none)
  |none=>none)
 | .makeFunc (.func f) ⟨[]⟩ D=>(match HP σ D.toList with
  |some ps=>iI N σ o.dst (.fn f ps) k
  |none=>none)
 |.call ⟨.builtin .clear,⟨[x]⟩,⟨[t]⟩⟩=>G3 P σ t (aL σ x) λE=>iI N E o.dst .undef k
 |_=>none
def dS{X:Type}(P:Program)(N:Nat)(Φ:eN)(σ:S)(o:Oper)(k:S->aj X):aj X:=
 bif ga o.op then nc P σ o.op λv=>iI N σ o.dst v k else iU P N Φ σ o k
def HV{X:Type}(P:Program)(N:Nat)(Φ:eN)(σ:S)(o:Oper)(k:S->aj X):aj X:=
 match o.op,o.dst with
 | .store t x y,none=>(match aL σ y with
  |.view [q] s i j=>HS P σ q s i j t (aL σ x) k
  |_=>dS P N Φ σ o k)
 |.slice t x (some lo) (some hi) (some C),some d=>EC P σ t (aL σ x) (aL σ lo) (aL σ hi) (aL σ C) (bif Nat.blt d N then k (σ.set d .undef)else none)
 |_,_=>dS P N Φ σ o k
def gn(σ:S)(ops:Array Oper)(o:Oper):aj Bool:=
 match o.guard with
 |none=>some true
 | some (j,want)=>match (ops[j]?).bind (·.dst)with
  | some t=>(match σ.t t with
   |.lf (.v (.bool b))=>some (b==want)
   |.skip=>some false
   |_=>none)
  |none=>none
def HW(ops:Array Oper)(j:Nat):Bool:=ops.toList.any λo=>match o.guard with
 |some (i,_)=>Nat.beq i j
 |none=>false
def tS{X:Type}(σ:S)(C:aj Tmp)(g:Bool)(k:S->aj X):aj X:=
 bif g then (match C with
  | some d=>(match σ.t d with
   |.lf (.v (.bool b))=>bif b then k (σ.set d (.lf (.v (.bool true))))else k (σ.set d (.lf (.v (.bool false))))
   |_=>k σ)
  |none=>k σ)else k σ
def CG{X:Type}(P:Program)(N:Nat)(Φ:eN)(ops:Array Oper):Nat->aa Oper->S->(S->aj X)->aj X
 |_,[],σ,k=>k σ
 | j,o :: rest,σ,k=>match gn σ ops o with
  |some true=>HV P N Φ σ o λC=>tS C o.dst (HW ops j) λD=>CG P N Φ ops (j+1) rest D k
  |some false=>iI N σ o.dst .skip λC=>CG P N Φ ops (j+1) rest C k
  |none=>none
/-! Regions whose order is open: what is listed is a set of bits. -/
def dM{X:Type}(P:Program)(N:Nat)(Φ:eN)(ops:Array Oper)(σ:S)(o:Oper)(k:S->aj X):aj X:=
 match gn σ ops o with
 |some true=>dS P N Φ σ o k
 |some false=>iI N σ o.dst .skip k
 |none=>none
def mB(ops:Array Oper)(L j:Nat):Bool:=!L.testBit j&&(match ops[j]? with
 |some o=>o.after.toList.all λe=>!Region.binds .any e ||L.testBit e.on
 |none=>false)
def HX(ops:Array Oper)(i W j:Nat):Bool:=(match ops[j]? with
 |some o=>o.after.toList.any λe=>Region.binds .any e&&(Nat.beq e.on i ||W.testBit e.on)
 |none=>false)
def waits(ops:Array Oper)(i:Nat):Nat->Nat->Nat->Nat
 |0,_,W=>W
 |n+1,j,W=>waits ops i n (j+1) (bif HX ops i W j then W |||2 ^ j else W)
def fe(o:Oper)(n:Nat):Bool:=match o.dst with
 | some d=>(match o.op with
  |.alloc _|.box .. |.buildSlice .. |.makeSlice ..=>Nat.beq n d
  |.call ⟨.value (.func _),_,_⟩=>Nat.ble (1000000000100000+1000*d) n
  |.call ⟨.builtin .append,_,_⟩=>Nat.beq n d
  |_=>false)
 |none=>false
def MV(Φ:eN)(C:Op):Bool:=ga C || (match C with
 |.alloc _|.box .. |.buildSlice .. |.makeSlice ..=>true
 | .call ⟨.value (.func f),_,_⟩=>(match Φ f with
  |some (.p _)=>true
  |some (.q _)=>true
  |_=>false)
 |_=>false)
def iK(g:Oper->Bool)(ops:Array Oper)(i L W:Nat):Nat->Nat->Bool
 |0,_=>false
 | f+1,j=>(!(Nat.beq j i || L.testBit j || W.testBit j)&&(match ops[j]? with
  |some C=>g C
  |none=>false)) ||iK g ops i L W f (j+1)
def HY(g:Oper->Bool)(ops:Array Oper)(C:Oper)(i L W:Nat):Nat->Nat->Bool
 |0,_=>true
 | n+1,j=>(Nat.beq j i || L.testBit j || (bif W.testBit j then HX ops i W j else (match ops[j]? with
  |some D=>g D&&C.apart ops D
  |none=>true)))&&HY g ops C i L W n (j+1)
def MW(c:n8):Bool:=c.ps.all λp=>match p with
 |.v _ _=>true
 |.p _ g _=>Nat.beq g 0
 |.s _ _=>false
def tT(ok:Nat->Nat->Bool)(σ:S):aa PK->aa Operand->Bool
 | .p _ _ _ :: ps,.tmp t :: xs=>(match σ.t t with
  |.aG r _=>ok t r
  |_=>false)&&tT ok σ ps xs
 |.v _ _::ps,_::xs=>tT ok σ ps xs
 |[],[]=>true
 |_,_=>false
def jf(σ:S):aa PK->aa Operand->aa Nat
 | .p _ _ _ :: ps,x :: xs=>(match aL σ x with
  |.aG r _=>r::jf σ ps xs
  |_=>jf σ ps xs)
 |_::ps,_::xs=>jf σ ps xs
 |_,_=>[]
def qA(Φ:eN)(σ:S)(o:Oper):aa Nat:=match o.op with
 | .call ⟨.value (.func f),args,_⟩=>(match Φ f with
  |some (.m c)=>jf σ c.ps args.toList
  |_=>[])
 |_=>[]
def kG(t:Nat)(o:Oper):Bool:=match o.dst with
 |some d=>Nat.beq d t
 |none=>false
def wM(o:Oper):Bool:=(match o.op with
 |.alloc _=>true
 |_=>false)&&o.guard.isNone&&(match o.dst with
 |some d=>Nat.blt d 20000
 |none=>false)
def oS(o:Oper):Bool:=(match o.op with
 |.alloc _=>true
 |.buildSlice t _ _=>!q9 t
 |.makeSlice ..=>true
 |_=>false)&&(match o.dst with
 |some d=>Nat.blt d 20000
 |none=>false)
def isApp(o:Oper):Bool:=match o.op with
 |.call ⟨.builtin .append,⟨[x,_]⟩,⟨[t,C]⟩⟩=>!q9 t&&Nat.beq t C && !CF o.dst t x
 |_=>false
def T1(Φ:eN)(ops:Array Oper)(i L W:Nat)(σ:S)(o:Oper):Bool:=match o.op with
 | .call ⟨.value (.func f),args,_⟩=>(match Φ f with
  |some (.m c)=>MW c&&tT (λt r=>!iK (kG t) ops i L W ops.size 0 && !iK (λok=>fe ok r) ops i L W ops.size 0 && !iK isApp ops i L W ops.size 0) σ c.ps args.toList
  |_=>false)
 |_=>false
def A.oT(p pb:Nat->Bool):A->Bool:=A.fr (vj p pb)
def AE(σ:S)(o:Oper):aa Nat:=match o.op with
 | .store _ (.tmp t) _=>(match σ.t t with
  |.aG r _=>[r]
  |_=>[])
 | .call ⟨.builtin .append,⟨[.tmp t,_]⟩,⟨[_,_]⟩⟩=>(match σ.t t with
  |.lf (.own [r])=>[r]
  |_=>[])
 |_=>[]
def MX(σ:S)(o:Oper):aa Nat:=match o.op with
 | .call ⟨.builtin .append,⟨[.tmp t,_]⟩,⟨[_,_]⟩⟩=>(match σ.t t with
  |.lf (.own [r])=>[r]
  |_=>[])
 |_=>[]
def alY(t:Nat)(o:Oper):Bool:=match o.op with
 |.store _ (.tmp C) _=>Nat.beq C t
 |_=>false
def faR(ops:Array Oper)(i L W:Nat)(σ:S)(o:Oper):aa Nat:=match o.op,o.dst with
 | .fieldAddr _ (.tmp x) _,some t=>bif iK (alY t) ops i L W ops.size 0 then (match σ.t x with
  |.aG r _=>[r]
  |_=>[])else []
 |_,_=>[]
def AF(Φ:eN)(ops:Array Oper)(i L W:Nat)(σ:S)(n:Nat):Bool:=
 iK (λo=>fe o n) ops i L W ops.size 0 ||iK (λo=>dm n (qA Φ σ o) ||dm n (AE σ o)) ops i L W ops.size 0
def AG(Φ:eN)(ops:Array Oper)(i L W:Nat)(σ:S)(n:Nat):Bool:=
 AF Φ ops i L W σ n ||iK (λo=>dm n (faR ops i L W σ o)) ops i L W ops.size 0
def CH(σ:S)(ops:Array Oper)(i L W n:Nat):Bool:=iK (λo=>fe o n) ops i L W ops.size 0 ||iK (λo=>dm n (MX σ o)) ops i L W ops.size 0
def AH(Φ:eN)(o:Oper):Bool:=match o.op with
 | .call ⟨.value (.func f),_,_⟩=>(match Φ f with
  |some (.p _)=>true
  |_=>false)
 |_=>false
def ng(Φ:eN)(ops:Array Oper)(i L W t:Nat):Bool:=!iK (λok=>kG t ok && !(oS ok ||isApp ok ||AH Φ ok)) ops i L W ops.size 0
def T2(Φ:eN)(ops:Array Oper)(i L W:Nat)(o:Oper):Bool:=match o.op with
 |.call ⟨.builtin .append,⟨[.tmp t,_]⟩,⟨[ty,C]⟩⟩=>ng Φ ops i L W t&&(!q9 ty&&Nat.beq ty C && !CF o.dst ty (.tmp t))
 |_=>false
def nh(Φ:eN)(ops:Array Oper)(i L W:Nat)(σ:S)(x:Nat):Bool:=!iK (kG x) ops i L W ops.size 0&&(match σ.t x with
 |.aG r _=>AG Φ ops i L W σ r
 |.js _=>true
 |_=>false)
def MY(Φ:eN)(ops:Array Oper)(i L W:Nat)(σ:S)(o:Oper):Bool:=match o.op with
 |.fieldAddr _ (.tmp x) _=>nh Φ ops i L W σ x
 |_=>false
def MZ(Φ:eN)(ops:Array Oper)(i L W:Nat)(σ:S)(t:Nat):Bool:=!iK (λok=>kG t ok && !(wM ok ||MY Φ ops i L W σ ok)) ops i L W ops.size 0
def GM(Φ:eN)(ops:Array Oper)(i L W:Nat)(σ:S)(o:Oper):Bool:=match o.op with
 | .store _ (.tmp t) _=>o.dst.isNone&&MZ Φ ops i L W σ t&&(match σ.t t with
  |.ptr _=>false
  |_=>true)
 |_=>false
def T3(σ:S)(p:Nat->Bool)(o:Oper):Bool:=o.op.operands.toList.all λx=>(aL σ x).nr p
def T4(σ:S)(p pb:Nat->Bool)(o:Oper):Bool:=(o.op.operands.toList.all λx=>(aL σ x).oT p pb)&&(match o.op with
 | .load _ x=>(match aL σ x with
  |.aG r _=>!p r
  |_=>true)
 |_=>true)
def aaW(Φ:eN)(ops:Array Oper)(L:Nat)(σ:S)(i:Nat):Bool:=match ops[i]? with
 | some C=>(ga C.op || (match gn σ ops C with
  |some b=>!b
  |none=>false))&&Nat.beq ((L |||2 ^ i) &&& waits ops i ops.size 0 0) 0&&HY (λD=>MV Φ D.op ||T1 Φ ops i L (waits ops i ops.size 0 0) σ D ||GM Φ ops i L (waits ops i ops.size 0 0) σ D ||T2 Φ ops i L (waits ops i ops.size 0 0) D) ops C i L (waits ops i ops.size 0 0) ops.size 0&&T4 σ (AG Φ ops i L (waits ops i ops.size 0 0) σ) (CH σ ops i L (waits ops i ops.size 0 0)) C
 |none=>false
def HZ{X:Type}(P:Program)(N:Nat)(Φ:eN)(ops:Array Oper)(L i:Nat)(σ:S)(o:Oper)(k:S->aj X):aj X:=
 match gn σ ops o with
 |some true=>nc P σ o.op λv=>bif v.oT (AG Φ ops i L (waits ops i ops.size 0 0) σ) (CH σ ops i L (waits ops i ops.size 0 0))then iI N σ o.dst v k else none
 |some false=>iI N σ o.dst .skip k
 |none=>none
/-! A call may be taken first where all that is free beside it are new blocks. -/
def A.ga:A->Bool
 |.lf (.v _)=>true
 | .agg cs=>cs.all λl=>match l with
  |.v _=>true
  |_=>false
 |_=>false
def T5(ops:Array Oper)(i L W:Nat)(σ:S)(o:Oper):Bool:=oS o&&(match gn σ ops o with
 |some b=>b
 | none=>false)&&(o.op.operands.toList.all λx=>(aL σ x).ga&&(match x with
  |.tmp t=>!iK (kG t) ops i L W ops.size 0
  |_=>true))&&(match o.guard with
 | some (g,_)=>(match (ops[g]?).bind (·.dst)with
  |some t=>!iK (kG t) ops i L W ops.size 0
  |none=>true)
 |none=>true)
def oc(Φ:eN)(o:Oper):Bool:=match o.op with
 | .call ⟨.value (.func f),_,_⟩=>(match Φ f with
  |some (.p _)=>true
  |some (.m _)=>true
  |_=>false)
 |_=>false
def H6(o:Oper):Bool:=(match o.op with
 |.store _ (.tmp _) _=>true
 |_=>false)&&o.dst.isNone
def yN(σ:S)(o:Oper):Bool:=match o.op with
 | .store _ (.tmp t) _=>(match σ.t t with
  |.aG _ _=>true
  |_=>false)
 |_=>true
def H7(Φ:eN)(o:Oper):Bool:=oc Φ o ||oS o ||isApp o ||H6 o
def yO(σ:S)(p:Nat->Bool)(r:Nat):Bool:=match σ.m r with
 |some (.az cs)=>cs.all (Lf.nr p)
 |_=>true
def EE(o:Oper)(n:Nat):Bool:=kG n o
def aaX(Φ:eN)(ops:Array Oper)(L:Nat)(σ:S)(i:Nat):Bool:=match ops[i]? with
 | some C=>H7 Φ C&&Nat.beq ((L ||| 2 ^ i) &&& waits ops i ops.size 0 0) 0&&HY (T5 ops i L (waits ops i ops.size 0 0) σ) ops C i L (waits ops i ops.size 0 0) ops.size 0 &&
   T3 σ (λn=>iK (λo=>EE o n) ops i L (waits ops i ops.size 0 0) ops.size 0) C&&(qA Φ σ C).all (yO σ (λn=>iK (λo=>EE o n) ops i L (waits ops i ops.size 0 0) ops.size 0))&&yN σ C
 |none=>false
def sy(x:A)(n:Nat):aj V:=match x with
 | .fz xs=>(match xs[n]? with
  |some (false,[.v z])=>some z
  |_=>none)
 |_=>none
def T6(ops:Array Oper)(L:Nat)(σ:S)(i:Nat):Bool:=match ops[i]?,(List.range ops.size).filter (λj=>!(Nat.beq j i || L.testBit j))with
 | some C,[E]=>(match C.op,C.dst,C.guard,ops[E]? with
  | .extract (.tmp x) n,some _,none,some D=>(match D.op,D.dst,D.guard with
   |.store _ a b,none,none=>(sy (σ.t x) n).isSome&&yL (aL σ a) (aL σ b)&&C.apart ops D
   |_,_,_=>false)
  |_,_,_,_=>false)
 |_,_=>false
def sA{X:Type}(P:Program)(N:Nat)(Φ:eN)(ops:Array Oper):Nat->Nat->S->(S->aj X)->aj X
 | 0,L,σ,k=>(match (List.range ops.size).filter (mB ops L)with
  |[]=>k σ
  |_=>none)
 | f+1,L,σ,k=>(match (List.range ops.size).filter (mB ops L)with
  |[]=>k σ
  | [i]=>(match ops[i]? with
   |some o=>dM P N Φ ops σ o λC=>tS C o.dst (HW ops i) λD=>sA P N Φ ops f (L |||2 ^ i) D k
   |none=>none)
  | rs=>(match rs.find? (aaW Φ ops L σ)with
   | some i=>(match ops[i]? with
    |some o=>HZ P N Φ ops L i σ o λC=>tS C o.dst (HW ops i) λD=>sA P N Φ ops f (L |||2 ^ i) D k
    |none=>none)
   | none=>(match rs.find? (aaX Φ ops L σ)with
    | some i=>(match ops[i]? with
     |some o=>dM P N Φ ops σ o λC=>tS C o.dst (HW ops i) λD=>sA P N Φ ops f (L |||2 ^ i) D k
     |none=>none)
    | none=>(match rs.find? (T6 ops L σ)with
     | some i=>(match ops[i]? with
      |some o=>dM P N Φ ops σ o λC=>tS C o.dst (HW ops i) λD=>sA P N Φ ops f (L |||2 ^ i) D k
      |none=>none)
     |none=>none))))
/-! A new slice of constants may come first,beside values and calls of contents. -/
structure tU where
 run:(X:Type)->S->(Exit->S->Option X)->Option X
abbrev ni:=Nat->aj tU
def lT{X:Type}(P:Program)(N:Nat)(Φ:eN)(Λ:ni):Code->S->(Exit->S->aj X)->aj X
 |.skip,σ,k=>k .normal σ
 |.label _,σ,k=>k .normal σ
 |.ret,σ,k=>k .ret σ
 |.exit id,σ,k=>k (.exit id) σ
 |.region _ ops false,σ,k=>CG P N Φ ops 0 ops.toList σ λC=>k .normal C
 |.region _ ops true,σ,k=>bif P.follows .mixedOrders then sA P N Φ ops ops.size 0 σ λC=>k .normal C else none
 | .seq x y,σ,k=>lT P N Φ Λ x σ λe C=>match e with
  |.normal=>lT P N Φ Λ y C k
  |e=>k e C
 | .cond c x y,σ,k=>match aL σ c with
  |.lf (.v (.bool b))=>bif b then lT P N Φ Λ x σ k else lT P N Φ Λ y σ k
  |_=>none
 | .block id c,σ,k=>match Λ id with
  |some b=>b.run X σ k
  | none=>lT P N Φ Λ c σ λe C=>match e with
   |.exit D=>if D=id then k .normal C else k (.exit D) C
   |e=>k e C
 |_,_,_=>none
def AW(P:Program)(w0:Wd)(N:Nat)(c:Code)(σ:S)(K:Exit->S->Prop):Prop:=
 ∀a w,R w0 N σ a w->c.wp P (λe D w'=>∃C,K e C/\R w0 N C D w') a w
def occs:Code->aa (Nat×Code)
 |.seq x y=>occs x++occs y
 |.cond _ x y=>occs x++occs y
 |.block id c=>(id,c)::occs c
 |_=>[]
def CI(P:Program)(N:Nat)(c:Code)(b:tU):Prop:=∀(X:Type) σ k (r:X) w0,b.run X σ k=some r->AW P w0 N c σ λe C=>k e C=some r
def qB(P:Program)(N:Nat)(Λ:ni)(l:aa (Nat×Code)):Prop:=∀p∈l,∀b,Λ p.1=some b->CI P N (.block p.1 p.2) b
section
variable {P:Program} {w w':World} {w0:Wd} {B N:Nat} {af aA:bw} {ρ ρ':Nat->Loc} {σ:S} {a:Act} {X:Type} {d:Nat} {r:X} {o:Oper} {Φ:eN} {Λ:ni}
def lO.mem{C:S}(D:o.dst=some d)(h:∀ af ρ a w,Rl w0 N af ρ σ a w->∃ w' aA ρ' v,(execOp a.eval o).run P w = .ok (.value v) w'/\Rl w0 N aA ρ' C (a.put (some d) v) w'):lO P w0 N o σ C:=by
 intro a w K Q hR E;obtain⟨af,ρ,hR⟩:=hR;obtain⟨w',aA,ρ',v,I,O⟩:=h af ρ a w hR;unfold Oper.wp;rw[I,Oper.upon_value,D];exact E _ _ ⟨aA,ρ',O⟩
def jU{k:Nat -> aj X}(h:gS o k=some r):∃ d,o.dst=some d/\k d=some r:=by
 unfold gS at h
 grind
def jL{s:Sem Value}{v:Value}(h:s.run P w = .ok v w'):(do pure (.value (<-s)):Sem Next).run P w = .ok (.value v) w':=by
 rw[gA,h];rfl
def aaY{b:Go.Builtin}{x:Operand}{t:TypeId}{v:Value}(C:o.op = .call ⟨.builtin b,⟨[x]⟩,⟨[t]⟩⟩)(h:∀ cs,(builtin b #[t] o.type cs #[a.eval x]).run P w = .ok (.value v) w'):(execOp a.eval o).run P w = .ok (.value v) w':=by
 simp only[execOp,C,resolve,gA,Sem.run_pure,me,invoke,List.map_toArray,List.map_cons,List.map_nil];exact h _
def T7{b:Go.Builtin}{x y:Operand}{t C:TypeId}{v:Value}(D:o.op = .call ⟨.builtin b,⟨[x,y]⟩,⟨[t,C]⟩⟩)(h:∀ cs,(builtin b #[t,C] o.type cs #[a.eval x,a.eval y]).run P w = .ok (.value v) w'):(execOp a.eval o).run P w = .ok (.value v) w':=by
 simp only[execOp,D,resolve,gA,Sem.run_pure,me,invoke,List.map_toArray,List.map_cons,List.map_nil];exact h _
def T8{C:Op}:cB λX k=>nc (X:=X) P σ C k:=λX Y k g=>by
 unfold nc;split
 ·rfl
 ·rfl
 ·repeat' first|rfl|refine dx ?_ ?_|split
 ·exact ak4 _ _ _ _
 ·exact aaz _ _ _ _
 ·exact akY _ _ _ _
 ·exact(TE.comp λa=>akZ.comp (b:=λX k z=>k (.lf (.v z))) λz _ _ _ _=>rfl) X Y k g
 ·exact ak7 _ _ _ _
 ·exact ak0 _ _ _ _
 ·exact ak5 _ _ _ _
 ·exact ak1 _ _ _ _
 ·exact ak6 _ _ _ _
 ·exact ak3 _ _ _ _
 ·unfold MI;split<;>rfl
 ·exact ak2 _ _ _ _
 ·exact aaA _ _ _ _
 ·exact aaA _ _ _ _
 ·exact ak8 _ _ _ _
 ·rfl
def T9{op:Op}{k:A->aj X}(h:nc P σ op k=some r):∃ v,k v=some r/\m6 (λX k=>nc (X:=X) P σ op k) v/\∀ af ρ a w (o:Oper),o.op=op->Rl w0 N af ρ σ a w->∃ u,(execOp a.eval o).run P w = .ok (.value u) w/\RA w w0.heap.size af ρ v u:=by
 obtain⟨z,O,Y⟩:=T8.mm h
 refine⟨z,O,Y,λaf ρ a w o I hR=>?_⟩
 replace h:nc P σ op some=some z:=Y A some;clear Y O;unfold nc at h;split at h
 ·cases h;exact⟨_,by simp[execOp,I],hR.aL _⟩
 ·cases h;exact⟨_,by simp[execOp,I],hR.aL _⟩
 ·rename_i c x y;split at h
  ·rename_i b hb;have hc:=hR.aL c;rw[hb]at hc;have hv:=hc.2.zW;cases b with
   |true=>cases h;exact⟨a.eval x,by simp[execOp,I,hv,asBool],hR.aL x⟩
   |false=>cases h;exact⟨a.eval y,by simp[execOp,I,hv,asBool],hR.aL y⟩
  ·cases h
 next t parts=>obtain⟨_,⟨⟩,C⟩:=ajX (w0:=w0) (N:=N) h;obtain⟨v,D,E⟩:=C af ρ a w hR;exact⟨v,by simp only[execOp,I];exact jL D,E⟩
 next t x=>obtain⟨_,⟨⟩,C⟩:=ZA (w0:=w0) (N:=N) h;obtain⟨v,D,E⟩:=C af ρ a w hR _ (hR.aL x);exact⟨v,by simp only[execOp,I];exact jL D,E⟩
 next op t x y yt=>obtain⟨_,⟨⟩,C⟩:=aj7 (w0:=w0) (N:=N) h;obtain⟨v,D,E⟩:=C af ρ a w hR x y _ _ (hR.aL x) (hR.aL y);exact⟨v,by simp only[execOp,I];exact jL D,E⟩
 next op t x=>obtain⟨u,hx,h⟩:=Sd h;obtain⟨_,⟨⟩,hp,C⟩:=ajC (P:=P) h;have O:=hR.aL x;rw[hx]at O;obtain⟨T,D,Z⟩:=C w _ af [] _ O.2;exact⟨T,by simp only[execOp,I];exact jL D,V.GQ hp,Z⟩
 next s d' x=>obtain⟨_,⟨⟩,C⟩:=aj3 (w0:=w0) (N:=N) h;obtain⟨v,D,E⟩:=C af ρ a w hR _ (hR.aL x);exact⟨v,by simp only[execOp,I];exact jL D,E⟩
 next s x f=>obtain⟨_,⟨⟩,C⟩:=ajF h;obtain⟨v,D,E⟩:=C w _ af ρ _ (hR.aL x);exact⟨v,by simp only[execOp,I];exact jL D,E⟩
 next s x f=>obtain⟨_,⟨⟩,C⟩:=aj4 h;obtain⟨v,D,E⟩:=C w _ af ρ _ (hR.aL x);exact⟨v,by simp only[execOp,I];exact jL D,E⟩
 next t x i=>obtain⟨_,⟨⟩,C⟩:=ajG (w0:=w0) (N:=N) h;obtain⟨v,D,E⟩:=C af ρ a w hR _ _ (hR.aL x) (hR.aL i);exact⟨v,by simp only[execOp,I];exact jL D,E⟩
 next t x i=>obtain⟨_,⟨⟩,C⟩:=aj2 h;obtain⟨v,D,E⟩:=C w _ af ρ _ _ (hR.aL x) (hR.aL i);exact⟨v,by simp only[execOp,I];exact jL D,E⟩
 next x i=>obtain⟨_,⟨⟩,C⟩:=ajI (P:=P) h;obtain⟨v,D,E⟩:=C w _ af ρ _ (hR.aL x);exact⟨v,by simp only[execOp,I];exact jL D,E⟩
 next x=>obtain⟨h,C⟩:=alf (w:=w) (B:=w0.heap.size) (af:=af) (ρ:=ρ) h;cases h;obtain⟨ad,hu⟩:=C _ (hR.aL x);refine⟨a.eval x,?_,hR.aL x⟩;simp only[execOp,I,hu];rfl
 next x t=>obtain⟨_,⟨⟩,C⟩:=ajH (w0:=w0) (N:=N) (ty:=o.type) h;obtain⟨v,D,E⟩:=C af ρ a w hR _ (hR.aL x);exact⟨v,aaY I λ_=>jL D,E⟩
 next x y t T=>obtain⟨_,⟨⟩,C⟩:=ZX (P:=P) h;obtain⟨v,D,E⟩:=C w _ af ρ t o.type _ _ (hR.aL x) (hR.aL y);exact⟨v,T7 I λ_=>jL (s:=Builtin.max_ #[t,T] o.type #[a.eval x,a.eval y]) D,E⟩
 next x y t T=>obtain⟨_,⟨⟩,C⟩:=ZX (P:=P) h;obtain⟨v,D,E⟩:=C w _ af ρ t o.type _ _ (hR.aL x) (hR.aL y);exact⟨v,T7 I λ_=>jL (s:=Builtin.min_ #[t,T] o.type #[a.eval x,a.eval y]) D,E⟩
 ·rename_i t x lo hi;obtain⟨_,⟨⟩,C⟩:=akc (w0:=w0) (N:=N) h;have U:∀ z:aj Operand,(∀ b,z.map (aL σ)=some b->∃ v,z.map a.eval=some v/\RA w w0.heap.size af ρ b v)/\(z.map (aL σ)=none->z.map a.eval=none):=by
   intro z;cases z with
   |none=>exact⟨λb hb=>(by cases hb),λ_=>rfl⟩
   |some z=>exact⟨λb hb=>(by cases hb;exact⟨_,rfl,hR.aL z⟩),λhb=>(by cases hb)⟩
  obtain⟨v,D,Z⟩:=C af ρ a w hR _ _ _ (hR.aL x) (U lo).1 (U lo).2 (U hi).1 (U hi).2;exact⟨v,by simp only[execOp,I];exact jL D,Z⟩
 ·cases h
def lO.skip{C:S}(D:o.dst=none)(h:∀ af ρ a w,Rl w0 N af ρ σ a w->∃ w' aA,(execOp a.eval o).run P w = .ok .skip w'/\Rl w0 N aA ρ C a w'):lO P w0 N o σ C:=by
 intro a w K Q hR E;obtain⟨af,ρ,hR⟩:=hR;obtain⟨w',aA,I,O⟩:=h af ρ a w hR;unfold Oper.wp;rw[I,Oper.upon_skip,D];exact E _ _ ⟨aA,ρ,O⟩
def M0{s:Sem ah}(h:s.run P w = .ok () w'):(do s;pure .skip:Sem Next).run P w = .ok .skip w':=by
 rw[gA,h];rfl
def alZ{k:S->aj X}(eC:fZ P Φ)(h:iU P N Φ σ o k=some r):∃ O,k O=some r/\lO P w0 N o σ O:=by
 unfold iU at h;split at h
 ·rename_i e C;obtain⟨d,D,h⟩:=jU h;obtain⟨O,h,T⟩:=ajO (w0:=w0) h
  refine⟨O,h,.mem D λaf ρ a w hR=>?_⟩
  obtain⟨w',aA,ρ',v,E,I⟩:=T af ρ a w hR;exact⟨w',aA,ρ',v,by simp only[execOp,C];exact jL E,I⟩
 ·rename_i e x C;obtain⟨d,D,h⟩:=jU h;obtain⟨O,h,T⟩:=ald (w0:=w0) (e:=e) h
  refine⟨O,h,.mem D λaf ρ a w hR=>?_⟩
  obtain⟨w',aA,ρ',v,E,I⟩:=T af ρ a w hR _ (hR.aL x);exact⟨w',aA,ρ',v,by simp only[execOp,C];exact jL E,I⟩
 ·rename_i t len parts C;obtain⟨d,D,h⟩:=jU h;cases hn:q9 t with
  | true=>
   rw[hn,aq]at h;obtain⟨O,h,T⟩:=ali (w0:=w0) h
   refine⟨O,h,.mem D λaf ρ a w hR=>?_⟩
   obtain⟨w',aA,ρ',v,E,I⟩:=T af ρ a w hR;exact⟨w',aA,ρ',v,by simp only[execOp,C];exact jL E,I⟩
  | false=>
   rw[hn,av]at h;obtain⟨O,h,T⟩:=aj1 (w0:=w0) h
   refine⟨O,h,.mem D λaf ρ a w hR=>?_⟩
   obtain⟨w',aA,ρ',v,E,I⟩:=T af ρ a w hR;exact⟨w',aA,ρ',v,by simp only[execOp,C];exact jL E,I⟩
 ·rename_i t x y C;split at h
  ·rename_i D;cases hn:yL (aL σ x) (aL σ y)with
   | true=>
    rw[hn,aq]at h;obtain⟨O,h,T⟩:=als (w0:=w0) (N:=N) h
    refine⟨O,h,.skip D λaf ρ a w hR=>?_⟩
    obtain⟨w',aA,E,I⟩:=T af ρ a w hR _ _ (hR.aL x) (hR.aL y);exact⟨w',aA,by simp only[execOp,C];exact M0 E,I⟩
   | false=>
    rw[hn,av]at h;obtain⟨O,h,T⟩:=ZC (w0:=w0) (N:=N) h
    refine⟨O,h,.skip D λaf ρ a w hR=>?_⟩
    obtain⟨w',E,I⟩:=T af ρ a w hR _ _ (hR.aL x) (hR.aL y);exact⟨w',af,by simp only[execOp,C];exact M0 E,I⟩
  ·cases h
 ·rename_i t l c C;obtain⟨d,D,h⟩:=jU h;obtain⟨O,h,T⟩:=ajP (w0:=w0) h
  refine⟨O,h,.mem D λaf ρ a w hR=>?_⟩
  obtain⟨w',aA,ρ',v,E,I⟩:=T af ρ a w hR _ _ (hR.aL l) (hR.aL c);exact⟨w',aA,ρ',v,by simp only[execOp,C];exact jL E,I⟩
 ·rename_i f args jS C;split at h
  next c U=>obtain⟨d,D,h⟩:=jU h;obtain⟨Y,Z⟩:=eC f _ U;exact Z9 C D Y Z (Z7 (w0:=w0) (N:=N) _) h
  next c U=>obtain⟨Y,Z⟩:=eC f _ U;exact akE C Y Z h
  next c U=>obtain⟨d,D,h⟩:=jU h;obtain⟨Y,Z⟩:=eC f _ U;exact aly C D Y Z h
  ·rename_i F U;obtain⟨d,D,h⟩:=jU h;obtain⟨Y,Z⟩:=eC f _ U;split at h
   next x hx=>exact alx C hx D Y Z h
   ·cases h
  next c U=>obtain⟨Y,Z⟩:=eC f _ U;exact aaP (ex:=[]) C rfl Y Z h
  next c U=>obtain⟨Y,Z⟩:=eC f _ U;exact akK C Y Z h
  next c U=>obtain⟨d,D,h⟩:=jU h;obtain⟨Y,Z⟩:=eC f _ U;exact Z9 C D Y Z (akh (w0:=w0) (N:=N) _) h
  next c U=>obtain⟨Y,Z⟩:=eC f _ U;exact alF C Y Z h
  ·cases h
 ·rename_i x y t t' C;cases nZ:Nat.beq t t' with
  |false=>rw[nZ]at h;cases h
  | true=>
   rw[nZ,aq]at h;obtain rfl:=cJ nZ;obtain⟨d,D,h⟩:=jU h;have hh:∃ O,k O=some r/\∀ af ρ a w,Rl w0 N af ρ σ a w->∀ u v,RA w w0.heap.size af ρ (aL σ x) u->RA w w0.heap.size af ρ (aL σ y) v->
     ∃w' aA ρ' z,(Builtin.append_ #[t,t] o.type #[u,v]).run P w = .ok z w'/\Rl w0 N aA ρ' O (a.put (some d) z) w':=by
    cases hn:q9 t with
    |true=>rw[hn,aq]at h;exact alq h
    | false=>
     rw[hn,av]at h;cases hk:MU t d x with
     |true=>rw[hk,aq]at h;exact alW h
     |false=>rw[hk,av]at h;exact ajQ h
   obtain⟨O,h,T⟩:=hh
   refine⟨O,h,.mem D λaf ρ a w hR=>?_⟩
   obtain⟨w',aA,ρ',v,E,I⟩:=T af ρ a w hR _ _ (hR.aL x) (hR.aL y);exact⟨w',aA,ρ',v,T7 C λ_=>jL E,I⟩
 ·rename_i t C;obtain⟨d,D,h⟩:=jU h;obtain⟨O,h,T⟩:=alL (w0:=w0) (t:=t) (P:=P) h
  refine⟨O,h,.mem D λaf ρ a w hR=>?_⟩
  obtain⟨w',aA,ρ',v,E,I⟩:=T af ρ a w hR;exact⟨w',aA,ρ',v,by simp only[execOp,C];exact jL E,I⟩
 ·rename_i t x i C;obtain⟨v,h1,_,T⟩:=alP (w0:=w0) (N:=N) h
  refine lO.val h1 λaf ρ a w hR=>?_
  obtain⟨y,E,I⟩:=T af ρ a w hR _ _ (hR.aL x) (hR.aL i);exact⟨y,by simp only[execOp,C];exact jL E,I⟩
 ·rename_i t x i v C;split at h
  ·rename_i D;obtain⟨O,h,_,T⟩:=alQ (w0:=w0) (N:=N) h
   refine⟨O,h,.skip D λaf ρ a w hR=>?_⟩
   obtain⟨w',E,I⟩:=T af ρ a w hR _ _ _ (hR.aL x) (hR.aL i) (hR.aL v);exact⟨w',af,by simp only[execOp,C];exact M0 E,I⟩
  ·cases h
 ·rename_i t args jS C;split at h
  ·rename_i f cap uV;split at h
   next c U=>obtain⟨Y,Z⟩:=eC f _ U;exact aaP C uV Y Z h
   ·cases h
  ·cases h
 ·rename_i f aaZ C;split at h
  ·rename_i ps qZ;obtain⟨h1,h2⟩:=aaQ (w0:=w0) (N:=N) _ _ qZ
   refine lO.val h λaf ρ a w hR=>⟨.func (.func f) #[] (aaZ.map a.eval),by simp[execOp,C,Instr.makeFunc],_,rfl,by simp[h1],λj p hp=>?_⟩
   obtain⟨b,off,e1,e2⟩:=h2 af ρ a w hR j p hp;exact⟨b,off,e1,by simpa using e2⟩
  ·cases h
 ·rename_i x t C;obtain⟨q8,h1,T⟩:=ajT (w0:=w0) (N:=N) (ty:=o.type) h;have run:∀ af ρ a w,Rl w0 N af ρ σ a w->∃ w',(execOp a.eval o).run P w = .ok (.value (.tuple #[])) w'/\Rl w0 N af ρ q8 a w':=by
   intro af ρ a w hR;obtain⟨w',E,I⟩:=T af ρ a w hR _ (hR.aL x);exact⟨w',aaY C λ_=>jL E,I⟩
  unfold iI at h1;split at h1
  ·rename_i D
   refine⟨_,h1,λa w K Q hR hK=>?_⟩
   obtain⟨af,ρ,hR⟩:=hR;obtain⟨w',E,I⟩:=run af ρ a w hR;unfold Oper.wp;rw[E,Oper.upon_value,D];exact hK _ _ ⟨af,ρ,I⟩
  ·rename_i d D;cases hN:Nat.blt d N with
   |false=>rw[hN]at h1;cases h1
   | true=>
    rw[hN,aq]at h1
    refine⟨_,h1,.mem D λaf ρ a w hR=>?_⟩
    obtain⟨w',E,I⟩:=run af ρ a w hR;exact⟨w',af,ρ,_,E,I.set trivial (by have:=cE hN;omega)⟩
 ·cases h
def Ua{k:S -> aj X}(E:fZ P Φ)(h:dS P N Φ σ o k=some r):∃ C,k C=some r/\lO P w0 N o σ C:=by
 unfold dS at h;cases D:ga o.op with
 | true=>
  rw[D,aq]at h;obtain⟨v,I,_,O⟩:=T9 h;exact lO.val I λaf ρ a w hR=>O af ρ a w o rfl hR
 | false=>
  rw[D]at h;exact alZ E h
def al0{k:S->aj X}(Y:fZ P Φ)(h:HV P N Φ σ o k=some r):∃ D,k D=some r/\lO P w0 N o σ D:=by
 unfold HV at h;split at h
 ·rename_i t x y E I;split at h
  ·rename_i q s i j hy;obtain⟨D,C,O⟩:=alI (w0:=w0) (N:=N) h
   refine⟨D,C,.skip I λaf ρ a w hR=>?_⟩
   have Z:=hR.aL y;rw[hy]at Z;obtain⟨w',aA,T,dL⟩:=O af ρ a w hR _ _ (hR.aL x) Z;exact⟨w',aA,by simp only[execOp,E];exact M0 T,dL⟩
  ·exact Ua Y h
 ·rename_i t x lo hi mx d E I;obtain⟨C,O⟩:=alK (w0:=w0) (N:=N) h;cases U:Nat.blt d N with
  |false=>rw[U]at C;cases C
  | true=>
   rw[U,aq]at C
   refine⟨_,C,.mem I λaf ρ a w hR=>?_⟩
   obtain⟨v,T⟩:=O af ρ a w hR _ _ _ _ (hR.aL x) (hR.aL lo) (hR.aL hi) (hR.aL mx);refine⟨w,af,ρ,v,?_,hR.set trivial (by have:=cE U;omega)⟩;simp only[execOp,E,Option.map_some];exact jL T
 ·exact Ua Y h
/-! What an operation gives hangs on its operands and on the roots that they name. -/
def A.key:A->aj (aa Nat)
 |.lf (.own q)=>some q
 |.view q _ _ _=>some q
 |.ptr (_::_::_::q)=>some q
 |_=>none
def Sm(σ2 σ:S)(x:A):Prop:=∀q,x.key=some q->∀(X:Type) (k:V->aj X),ju σ2.m q k=ju σ.m q k
def Sm.eq{σ2:S}(C:σ2.m=σ.m)(x:A):Sm σ2 σ x:=λq _ X k=>by rw[C]
def Sm.lf{σ2:S}{l:Lf}(h:Sm σ2 σ (.lf l))(k:V->aj X):qg σ2 l k=qg σ l k:=by
 cases l with
 |own q=>exact h q rfl X k
 |_=>rfl
def Sm.bin{σ2:S}{C:BinOp}{t:TypeId}{x y:A}(h:Sm σ2 σ x)(k:A->aj X):Aj P σ2 C t x y k=Aj P σ C t x y k:=by
 unfold Aj;split
 ·rfl
 ·split
  ·exact h.lf _
  ·rfl
 ·rfl
def Sm.conv{σ2:S}{t C:TypeId}{x:A}(h:Sm σ2 σ x)(k:A->aj X):Ag P σ2 t C x k=Ag P σ t C x k:=by
 unfold Ag;split
 ·rfl
 ·exact h.lf _
 ·rfl
def Sm.idx{σ2:S}{t:TypeId}{x i:A}(h:Sm σ2 σ x)(k:A->aj X):zY P σ2 t x i k=zY P σ t x i k:=by
 unfold zY;split
 ·rfl
 ·split
  ·split
   ·rfl
   ·exact h _ rfl _ _
   ·rfl
  ·rfl
def Sm.len{σ2:S}{t:TypeId}{x:A}(h:Sm σ2 σ x)(k:A->aj X):Cc P σ2 t x k=Cc P σ t x k:=by
 cases x with
 |lf l=>exact h.lf _
 |_=>rfl
def Sm.slc{σ2:S}{t:TypeId}{x:A}{lo hi:aj A}(h:Sm σ2 σ x)(k:A->aj X):Al P σ2 t x lo hi k=Al P σ t x lo hi k:=by
 unfold Al Cn;split
 ·simp only[h _ rfl]
 ·simp only[h _ rfl]
 ·rfl
def Sm.load{σ2:S}{t:TypeId}{x:A}(h:Sm σ2 σ x)(hb:∀ r j,x = .aG r j->σ2.m r=σ.m r)(k:A->aj X):oJ P σ2 t x k=oJ P σ t x k:=by
 unfold oJ;split
 ·rfl
 ·split
  ·rw[hb _ _ rfl]
  ·rfl
  ·exact h _ rfl _ _
  ·rfl
def aa0{σ2:S}(C:Op)(h:∀ x∈C.operands,aL σ2 x=aL σ x/\Sm σ2 σ (aL σ x))(hl:∀ t x,C = .load t x->∀ k:A->aj X,oJ P σ2 t (aL σ x) k=oJ P σ t (aL σ x) k)(k:A->aj X):nc P σ2 C k=nc P σ C k:=by
 unfold nc;split
 case h_4 t parts=>
  have e:(parts.toList.map λp=>(p.1,aL σ2 p.2))=parts.toList.map λp=>(p.1,aL σ p.2):=pW λp I=>by rw[(h p.2 (by simp only[Op.operands];exact List.mem_toArray.2 (List.mem_map_of_mem (f:=(·.2)) I))).1]
  simp only[Ed,e]
 case h_18 t x lo hi=>
  have e:∀ z:aj Operand,(∀ y,z=some y->aL σ2 y=aL σ y)->z.map (aL σ2)=z.map (aL σ):=by
   intro z O;cases z with
   |none=>rfl
   |some z=>exact bB some (O z rfl)
  have E:=h x (by simp[Op.operands]);rw[E.1,e lo (λy D=>(h y (by subst D;simp[Op.operands])).1),e hi (λy D=>(h y (by subst D;simp[Op.operands])).1)];exact E.2.slc k
 all_goals simp[Op.operands,Call.operands]at h
 case h_5=>rw[h.1];exact hl _ _ rfl k
 case h_6=>rw[h.1.1,h.2.1];exact h.1.2.bin k
 case h_8=>rw[h.1];exact h.2.conv k
 case h_11=>rw[h.1.1,h.2.1];exact h.1.2.idx k
 case h_15=>rw[h.1];exact h.2.len k
 all_goals first|rfl|simp only[h]
def aa1{σ2:S}(C:Op)(D:σ2.m=σ.m)(h:∀ x∈C.operands,aL σ2 x=aL σ x)(k:A->aj X):nc P σ2 C k=nc P σ C k:=
 aa0 C (λx E=>⟨h x E,.eq D _⟩) (λt x _ k=>(Sm.eq D _).load (λr _ _=>by rw[D]) k) k
def aa2{σ2:S}(C:σ2.m=σ.m)(q:aa Nat)(s i j:Nat)(k:V->aj X):wg σ2 q s i j k=wg σ q s i j k:=by
 simp only[wg,C]
def Ub{σ2:S}(C:σ2.m=σ.m)(x:Lf)(k:V->aj X):qg σ2 x k=qg σ x k:=(Sm.eq C _).lf k
def al1{σ2:S}(C:σ2.m=σ.m)(x:A)(k:V->aj X):tw σ2 x k=tw σ x k:=by
 cases x<;>simp only[tw,Ub C,aa2 C]
def Uc{σ2:S}(C:σ2.m=σ.m):∀ (xs:aa Lf) (k:aa V->aj X),r9 σ2 xs k=r9 σ xs k
 |[],k=>rfl
 | x :: xs,k=>by
  simp only[r9,Ub C,Uc C xs]
def aa3{σ2:S}(C:σ2.m=σ.m)(x:A)(k:Pt->aj X):oM σ2 x k=oM σ x k:=by
 unfold oM;simp only[Uc C,aa2 C]
def Ud{σ2:S}{f:A->(Pt->aj X)->aj X}:∀ (xs:aa Operand) (k:aa Pt->aj X),(∀ x∈xs,aL σ2 x=aL σ x)->wz f σ2 xs k=wz f σ xs k
 |[],k,_=>rfl
 | x :: xs,k,h=>by
  simp only[wz,h x (.head _),Ud xs _ λy C=>h y (.tail _ C)]
def al2{σ2:S}(C:σ2.m=σ.m)(xs:aa Operand)(k:aa Pt->aj X)(h:∀ x∈xs,aL σ2 x=aL σ x):tH σ2 xs k=tH σ xs k:=by
 unfold tH;rw[show oM σ2=oM σ from funext λx=>funext λk=>aa3 C x k,Ud xs k h]
def al3{σ2:S}(C:σ2.m=σ.m)(x:A)(k:Pt->aj X):wu σ2 x k=wu σ x k:=by
 unfold wu;simp only[aa3 C,Uc C,C]
def al4{σ2:S}(C:σ2.m=σ.m)(xs:aa Operand)(k:aa Pt->aj X)(h:∀ x∈xs,aL σ2 x=aL σ x):Co σ2 xs k=Co σ xs k:=by
 unfold Co;rw[show wu σ2=wu σ from funext λx=>funext λk=>al3 C x k,Ud xs k h]
/-! .. and a root that it does not name is of no account. -/
def H8(n:Nat)(x:aS)(m:Nat->aj aS):Nat->aj aS:=bJ (λr=>bif Nat.beq r n then none else (m r).map (aS.drop n)) n (some x)
def aa4{n:Nat}{x:aS}{m:Nat->aj aS}{q:Nat}(h:q≠n):H8 n x m q=(m q).map (aS.drop n):=by
 unfold H8;rw[cy _ _ _ h,qc h];rfl
def M1{m m':Nat->aj aS}{p:Nat->Bool}(D:∀ r,p r=false->∀ y,m' r=some (.sl y) ↔ m r=some (.sl y)):∀ (q:aa Nat) (k:V->aj X),oR p q=true->ju m' q k=ju m q k
 |[],_,_=>rfl
 | [r],k,h=>by
  have E:=D r (by simpa [oR,jj]using h);simp only[ju];split
  next y C=>rw[(E y).1 C]
  ·rename_i I;split
   next y C=>exact absurd ((E y).2 C) (I y)
   ·rfl
 |[_,_],_,_=>rfl
 |[j,i,s],k,h=>rfl
 | j :: i :: s :: O :: q,k,h=>by
  simp only[ju];exact M1 D (O::q) _ (by simpa [oR,LW]using h)
def al5{n:Nat}{q:aa Nat}(h:cT n q=false):oR (λr=>Nat.beq r n) q=true:=by
 unfold oR jj;unfold cT at h;split
 next r C=>rw[C]at h;show (!Nat.beq r n)=true;rw[qc (show r≠n by simpa using h)];rfl
 ·rfl
def aS.H9(n:Nat)(cs:aa Lf):(aS.az cs).drop n = .az (cs.map (Lf.drop n)):=rfl
def al6{n:Nat}(z:aj aS)(y:V):z.map (aS.drop n)=some (.sl y) ↔ z=some (.sl y):=by
 cases z with
 |none=>simp
 |some z=>cases z<;>simp[aS.drop,aS.cx]
def aa5{n:Nat}{x:aS}{m:Nat->aj aS}{r:Nat}(h:r≠n)(y:V):H8 n x m r=some (.sl y) ↔ m r=some (.sl y):=by
 rw[aa4 h];exact al6 _ y
def Ia{p:Nat->Bool}{r n:Nat}(h:p r=false)(C:p n=true):r≠n:=by
 rintro rfl;rw[C]at h;cases h
def al7{n:Nat}{x:aS}{m:Nat->aj aS}(q:aa Nat)(k:V->aj X)(h:cT n q=false):ju (H8 n x m) q k=ju m q k:=
 M1 (p:=λr=>Nat.beq r n) (λr C y=>aa5 (Ia (p:=λr=>Nat.beq r n) C (Nat.beq_refl n)) y) q k (al5 h)
def al8{p:Nat->Bool}{r j n:Nat}(h:(A.aG r j).nr p=true)(C:p n=true):r≠n:=
 Ia (by simpa [A.nr,A.fr,vj]using h) C
def aa6{p pb:Nat->Bool}{x:A}{q:aa Nat}(h:x.oT p pb=true)(e:x.key=some q):oR p q=true:=by
 unfold A.key at e;split at e
 ·injection e with e;subst e;exact h
 ·injection e with e;subst e;exact h
 ·rename_i j i s C;injection e with e;subst e;have h:oR p (j :: i :: s :: C)=true:=h;cases C with
  |nil=>rfl
  |cons D q=>simpa [oR,LW]using h
 ·cases e
def al9{p pb:Nat->Bool}{t:TypeId}{cs:aa Lf}{y:A}(h:yf P t cs some=some y)(C:y.oT p pb=true):∀ c∈cs,c.nr p=true:=by
 unfold yf at h;split at h
 ·split at h
  ·split at h
   ·injection h with h;subst h;exact bT.1 C
   ·split at h
    ·injection h with h;subst h;intro c D;rw[iw.1 D];exact C
    ·cases h
   ·cases h
  ·cases h
 ·cases h
def A.yP:A->Bool
 |.aG .. |.ptr _|.lf (.own _)=>true
 |_=>false
def A.aa7(x:A)(K:nW):x.cx K=x\/(x.cx K).yP=false:=by
 cases x with
 | lf l=>cases l with
  |own k=>cases h:K.l k<;>simp[A.cx,Lf.cx,h,A.yP]
  |_=>exact .inl rfl
 |ptr k=>cases h:K.p k<;>simp[A.cx,h,A.yP]
 |aG r j=>cases h:K.r r<;>simp[A.cx,h,A.yP]
 |pk r j=>cases h:K.r r<;>simp[A.cx,h,A.yP]
 |view k s i j=>cases h:K.p k<;>simp[A.cx,h,A.yP]
 |fn f cap=>cases h:(cap.any λp=>K.r p.1)<;>simp[A.cx,h,A.yP]
 |_=>exact .inr rfl
structure iz (p pb:Nat->Bool) (σ dc:S):Prop where
 t:∀{g},(σ.t g).oT p pb=true->dc.t g=σ.t g
 sl:∀r,p r=false->∀y,dc.m r=some (.sl y) ↔ σ.m r=some (.sl y)
 az:∀r,p r=false->∀cs,σ.m r=some (.az cs)->∃f:Lf->Lf,dc.m r=some (.az (cs.map f))/\∀l,l.nr p=true->f l=l
 nw:∀g,dc.t g=σ.t g\/(dc.t g).yP=false
def iz.refl{p pb:Nat->Bool}(σ:S):iz p pb σ σ:=
 ⟨λ_=>rfl,λ_ _ _=>.rfl,λ_ _ cs h=>⟨id,by rw[List.map_id];exact h,λ_ _=>rfl⟩,λ_=>.inl rfl⟩
def iz.trans{p pb:Nat->Bool}{σ E I:S}(h:iz p pb σ E)(D:iz p pb E I):iz p pb σ I:=by
 refine⟨λ{g} O=>?_,λr C y=>(D.sl r C y).trans (h.sl r C y),λr C cs T=>?_,λg=>?_⟩
 ·have e:=h.t O;rw[D.t (by rw[e];exact O),e]
 ·obtain⟨f,U,Y⟩:=h.az r C cs T;obtain⟨f',Z,h4⟩:=D.az r C _ U;exact⟨f' ∘ f,by rw[<-List.map_map];exact Z,λl hl=>by show f' (f l)=l;rw[Y l hl,h4 l hl]⟩
 ·rcases D.nw g with e | e
  ·rw[e];exact h.nw g
  ·exact .inr e
def iz.root{p pb:Nat->Bool}{σ D:S}(n:Nat)(x:aS)(C:p n=true)(hb:pb n=true)(h:iz p pb σ D):iz p pb σ ((D.drop n).root n x):=by
 refine h.trans ⟨λI=>A.Cy I C hb,λr E y=>aa5 (Ia E C) y,λr E cs O=>⟨Lf.drop n,?_,λl hl=>Lf.AA hl C⟩,λg=>A.aa7 _ _⟩
 show H8 n x D.m r=_;rw[aa4 (Ia E C),O];rfl
def iz.rt{p pb:Nat->Bool}{σ D:S}(n:Nat)(x:aS)(E:p n=true)(h:iz p pb σ D):iz p pb σ (D.root n x):=by
 have e:∀r,p r=false->(D.root n x).m r=D.m r:=λr C=>cy _ _ _ (Ia C E)
 exact h.trans ⟨λ_=>rfl,λr C y=>by rw[e r C],λr C cs I=>⟨id,by rw[e r C,List.map_id];exact I,λ_ _=>rfl⟩,λ_=>.inl rfl⟩
/-! Roots that a call writes. -/
def aa8(ns:aa Nat)(nr:aa (Nat×aS))(m:Nat->aj aS):Nat->aj aS:=λr=>match nr.lookup r with
 |some x=>some x
 |none=>bif dm r ns ||dm r []then none else (m r).map (aS.dA ns [])
structure Ue (p:Nat->Bool) (ns:List Nat) (nr:List (Nat×aS)):Prop where
 ns:∀n,dm n ns=true->p n=true
 nr:∀n x,nr.lookup n=some x->p n=true
def ama{p:Nat->Bool}{ns:aa Nat}{nr:aa (Nat×aS)}{m:Nat->aj aS}(hb:Ue p ns nr){q:Nat}(h:p q=false):aa8 ns nr m q=(m q).map (aS.dA ns []):=by
 unfold aa8;cases C:nr.lookup q with
 |some x=>rw[hb.nr q x C]at h;cases h
 | none=>
  cases D:dm q ns with
  |true=>rw[hb.ns q D]at h;cases h
  |false=>rfl
def Uf(k:aa Nat):gk k []=false:=by
 unfold gk;split<;>rfl
def Ug{p:Nat->Bool}{ns:aa Nat}(hb:∀ n,dm n ns=true->p n=true)(k:aa Nat)(h:gk k ns=true):jj p k=true:=by
 unfold gk at h;unfold jj;split at h
 next r C=>rw[C];exact hb _ h
 ·cases h
def Lf.amb{p:Nat->Bool}{x:Lf}{ns:aa Nat}(h:x.nr p=true)(hb:∀ n,dm n ns=true->p n=true):x.dA ns []=x:=
 Lf.qa (Lf.th (λk C=>Ug hb k (by simp[wC,Uf]at C;exact C.1)) h)
def A.Uh{p pb:Nat->Bool}{x:A}{ns:aa Nat}(h:x.oT p pb=true)(hb:∀ n,dm n ns=true->p n=true):x.dA ns []=x:=
 A.qa (A.th (K:=wC ns []) (J:=vj p pb) (λk C=>Ug hb k (by simp[wC,Uf]at C;exact C.1)) (λk C=>Ug hb k (by simpa [wC,Uf]using C)) (λr D=>by cases D) h)
def iz.dA{p pb:Nat->Bool}{σ C:S}(ns:aa Nat)(nr:aa (Nat×aS))(hb:Ue p ns nr)(h:iz p pb σ C):iz p pb σ (C.dA ns [] nr):=by
 have e:∀r,p r=false->(C.dA ns [] nr).m r=(C.m r).map (aS.dA ns []):=λr D=>ama hb D
 refine h.trans ⟨λE=>A.Uh E hb.ns,λr D y=>?_,λr D cs I=>⟨Lf.dA ns [],?_,λl hl=>Lf.amb hl hb.ns⟩,λg=>A.aa7 _ _⟩
 ·rw[e r D];cases C.m r with
  |none=>simp
  |some z=>cases z<;>simp[aS.dA,aS.cx]
 ·rw[e r D,I];rfl
end
end Go.Proofs.YtpigmalhjkekiaaGreat
