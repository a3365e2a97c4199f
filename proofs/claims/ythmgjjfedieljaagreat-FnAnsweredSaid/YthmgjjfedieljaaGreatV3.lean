/-
  Running the program over pure contents, and that it follows (part 3). Nothing here is a claim.
-/
import Derived.Lib.AppendStr
import Derived.MapKept
import Derived.Test.YthmgjjfedieljaaGreatV2
set_option linter.unusedSimpArgs false
namespace Go.Proofs.YthmgjjfedieljaaGreat
set_option linter.defProp false
open Go.RowKit
set_option linter.unusedVariables false
def dT:Nat:=89999
def tj(af:bB)(k:aa Nat):bB:=λb=>match af b with
 |some q=>bif k.isSuffixOf q then some (q.take (q.length-k.length)++[dT])else bif cV dT q then none else some q
 |none=>none
def Uo(σ:S)(c:qt)(args:aa Operand)(q:Nat):Bool:=match kQ σ c.ps args with
 |some C=>!dm q ((nj 0 C).map (·.1))&&C.any λD=>Nat.beq D.root dT
 |none=>false
def JC{X:Type}(N:Nat)(σ:S)(D:ah Tmp)(c:qt)(args:aa Operand)(k:S->ah X):ah X:=
 match args with
 | .tmp t :: _=>(match σ.t t with
  | .lf (.own [j,i,s,q])=>(match σ.m q with
   | some (.sl (.sl tc (o+2) E l))=>if s=aF tc then (if hi:i<l.length then (match (enc tc o l[i])[j]? with
    | some y=>bif Nat.ble N 20000&&Nat.ble 20000 q&&Nat.blt q 60000&&Uo ((σ.dD [q,dT] [dT] [(dT,.sl y)]).set t (.lf (.own [dT]))) c args q then q9 N ((σ.dD [q,dT] [dT] [(dT,.sl y)]).set t (.lf (.own [dT]))) D c args λC=>(match C.m dT with
      | some (.sl I)=>(match dec tc o (splice (enc tc o l[i]) j [I])with
       |some e=>k ((C.drop dT).root q (.sl (.sl tc (o+2) E (l.set i e))))
       |none=>none)
      |_=>none)else none
    |none=>none)else none)else none
   |_=>none)
  |_=>none)
 |_=>none
section
variable {P:Program} {w w':World} {w0:Wd} {B N:Nat} {af dQ aC:bB} {ρ fZ ρ':Nat->Loc} {σ:S} {a:Act} {X:Type} {d:Nat} {r:X} {o:Oper} {K:aa Nat} {m:Nat->ah aU}
def NH{b:Nat}(h:af b=none):tj af K b=none:=by simp[tj,h]
def ald{b:Nat}{p:aa Nat}(h:af b=some (p++K)):tj af K b=some (p++[dT]):=by
 have C:K.isSuffixOf _=true:=List.isSuffixOf_iff_suffix.2 ⟨p,rfl⟩;simp[tj,h,C]
def Up{b:Nat}{k:aa Nat}(h:af b=some k)(C:¬ K <:+ k)(D:cV dT k=false):tj af K b=some k:=by
 have C:K.isSuffixOf k=false:=by
  grind
 simp[tj,h,C,D]
def RV.cut{k:aa Nat}{x:V}{v:Value}(h:RV w B af k x v)(p:aa Nat)(D:k=p++K\/x.aI=true):RV w B (tj af K) (p++[dT]) x v:=
 h.map (Q:=λk C=>∃ p,k=p++K/\C=p++[dT]) (dg _) (λb _ h=>⟨rfl,NH h⟩) (λb k C _ hl e=>by
  obtain⟨p,rfl,rfl⟩:=e;exact⟨rfl,ald hl,λj i s=>⟨j::i::s::p,rfl,rfl⟩⟩) (D.symm.imp_right λh=>⟨p,h,rfl⟩)
def RV.ale{k:aa Nat}{x:V}{v:Value}(h:RV w B af k x v)(I:∀ b,af b≠some [])(O:((∀ p,¬ K <:+ p++k)/\cV dT k=false)\/x.aI=true):RV w B (tj af K) k x v:=
 h.map (Q:=λk C=>k=C/\(∀ p,¬ K <:+ p++k)/\cV dT k=false) (dg _) (λb _ h=>⟨rfl,NH h⟩) (λb k C _ hl e=>by
  obtain⟨rfl,D,E⟩:=e
  refine⟨rfl,Up hl (D []) E,λj i s=>⟨rfl,λp=>?_,?_⟩⟩
  ·have:=D (p++[j,i,s])
   rwa [List.append_assoc]at this
  ·rw[M9 (by rintro rfl;exact I b hl)];exact E) (O.symm.imp_right λh=>⟨rfl,h⟩)
def Rl.alf{t:Nat}{x:A}(h:Rl w0 N af ρ σ a w)(D:RA w w0.heap.size af ρ x (a.tmps.getD t undef)):Rl w0 N af ρ (σ.set t x) a w:=by
 refine⟨h.below,h.dj,h.root,λk=>?_,h.size,h.defers,h.fix,h.cT⟩
 show RA w _ af ρ (bK σ.t t x k) _;by_cases C:k=t
 ·subst C;rw[bT];exact D
 ·rw[cz _ _ _ C];exact h.tmp k
def Rl.alg{q:Nat}{x:aU}(h:Rl w0 N af ρ σ a w)(E:eV w w0.heap.size af ρ q x):Rl w0 N af ρ (σ.root q x) a w:=by
 refine⟨h.below,h.dj,λr y C=>?_,h.tmp,h.size,h.defers,h.fix,h.cT⟩
 have C:bK σ.m q _ r=some y:=C;by_cases D:r=q
 ·subst D;rw[bT]at C;simp_all
 ·rw[cz _ _ _ D]at C;exact h.root r y C
def kH.alh(h:Rl w0 N af ρ σ a w):kH w0 w w:=⟨rfl,rfl,rfl,dg _,λ_ _ _=>rfl⟩
def ali{f:Nat}{args:Array Operand}{lC:Array TypeId}{c:qt}{k:S -> ah X}(ho:o.op = .call { callee:=.value (.func f),args,argTypes:=lC })(he:enters P f)(hc:yJ P f c)(h:JC N σ o.dst c args.toList k=some r):∃ di,k di=some r/\nc P w0 N o σ di:=by
 unfold JC at h;split at h
 ·rename_i t rest n8;split at h
  ·rename_i j i s q ht;split at h
   ·rename_i tc oo qn l hm;split at h
    ·rename_i hs;subst hs;split at h
     ·rename_i hi;split at h
      ·rename_i y hy;generalize alj:((σ.dD [q,dT] [dT] [(dT,.sl y)]).set t (.lf (.own [dT])))=tq at h;cases hb:(Nat.ble N 20000&&Nat.ble 20000 q&&Nat.blt q 60000&&Uo tq c args.toList q)with
       |false=>rw[hb]at h;cases h
       | true=>
        rw[hb,av]at h;simp only[aH]at hb;obtain⟨⟨⟨hN,FK⟩,wQ⟩,BX⟩:=hb;have hN:=cH hN;have FK:=cH FK;have wQ:q<60000:=cH wQ;obtain⟨τ,Un,cn,T,xj,qU,BW,Jm⟩:=Uk (w0:=w0) ho he hc h;clear h;unfold Uo at BX;rw[xj]at BX;simp only[aH,ff]at BX;obtain⟨IZ,hdT⟩:=BX;obtain⟨mu,lD,Uq⟩:=List.any_eq_true.1 hdT;have Uq:=c8 Uq;have alk:dm dT cn=false:=by rw[<- Uq];exact BW mu lD
        have alm:dm q cn=false:=by
         cases D:dm q cn with
         |false=>rfl
         |true=>have:=qU q D;omega
        have Ur:q≠dT:=by unfold dT;omega
        split at T
        ·rename_i y' Dw;split at T
         ·rename_i e Us
          refine⟨_,T,λa w KK Q hR hK=>?_⟩
          obtain⟨af,ρ,hR⟩:=hR;have bQ:=hR.Aa;have NI:w0.F dT=none:=hR.cT dT (.inr (by decide));have fk:=hR.root q _ hm;generalize D:aU.sl (.sl tc (oo+2) qn l)=x at fk;cases fk with
          |aD=>cases D
          |mp=>cases D
          |gh=>cases D
          | sl v yq cv hr=>
           injection D with D;subst D;cases hr with
           |fC=>simp at hi
           |gF=>simp at hi
           |gO=>simp at hi
           |aI _ _ _ _ _ _ _ _ _ ho=>omega
           | own _ _ _ _ _ b cap cs u hl hh hs Y vb hcc qh=>
            have hKv:zS σ.m [j,i,aF tc,q] y:=.elem j i [q] tc oo qn l y (.root q _ hm) hi hy;obtain⟨U,r7,aln⟩:=hKv.ok hR.root;have Ai:=hR.tmp t;rw[ht]at Ai;have ng:a.tmps.getD t undef=U:=by
             have Z:=Ai.2;rw[r7]at Z;injection Z with Z;exact Z.symm
            have alo:U=u i j:=by
             have h3:de w af ρ [j,i,aF tc,q]=some (u i j):=by
              rw[MZ,Dd j i _ (show de w af ρ [q]=some (.slice (some ⟨b,0,none⟩) l.length cap) by simp[de,cv]) hl];show w.cell? _=_;rw[cell_of_row w b _ cs _ _ hh];simp[*]
             rw[r7]at h3;injection h3
            have gX:oI U=true:=by rw[<- ng];exact Ai.1
            -- the state that the callee's caller sees
            have TY:∀ k:aa Nat,gP k [q,dT]=false -> cV q k=false/\cV dT k=false:=by
             intro k T;unfold gP at T;unfold cV;split at T
             next z I=>rw[I];have:=aaT T;simp only[ig,List.not_mem_nil,not_or]at this;exact⟨by simpa using this.1,by simpa using this.2⟩
             next I=>rw[I];exact⟨rfl,rfl⟩
            have hKq:∀ k:aa Nat,[j,i,aF tc,q] <:+ k -> cV q k=true:=by
             rintro k ⟨p,rfl⟩;simp[cV]
            have Jg:w8 w w af (tj af [j,i,aF tc,q]) ρ (bK ρ dT (.dP U)) [q,dT] [dT]:=by
             refine⟨dg _,λb' s8 C=>⟨rfl,?_⟩,λn Y=>?_,λb' k C=>(hR.dj b' k C).2⟩
             ·cases E:af b' with
              |none=>exact NH E
              | some k=>
               obtain⟨g1,g2⟩:=TY k (C k E);exact Up E (λrW=>by rw[hKq k rW]at g1;cases g1) g2
             ·refine cz _ _ _ ?_;rintro rfl;simp[dm]at Y
            have Ae:∀ b' k,tj af [j,i,aF tc,q] b'=some k -> (∃ O,af b'=some O)/\k≠[]:=by
             intro b' k C;cases E:af b' with
             |none=>rw[NH E]at C;cases C
             | some O=>
              refine⟨⟨O,rfl⟩,?_⟩;unfold tj at C;rw[E]at C;simp only at C;cases h1:List.isSuffixOf [j,i,aF tc,q] O with
              | true=>
               rw[h1,av]at C;injection C with C;rw[<- C];simp
              | false=>
               rw[h1,ax]at C;cases Z:cV dT O with
               |true=>rw[Z,av]at C;cases C
               | false=>
                rw[Z,ax]at C;injection C with C;rw[<- C];exact(hR.dj b' O E).2.2
            have vu:Rl w0 N (tj af [j,i,aF tc,q]) (bK ρ dT (.dP U)) (σ.dD [q,dT] [dT] [(dT,.sl y)]) a w:=by
             refine hR.xd Jg (kH.alh hR) (λb' k C=>?_) (λn Y=>?_) (λn z I=>?_)
             ·obtain⟨⟨O,E⟩,F2⟩:=Ae b' k C;have:=hR.dj b' O E;exact⟨this.1,this.2.1,F2⟩
             ·have:n=dT:=by simpa [dm]using Y
              rw[this];exact NI
             ·have Y:n=dT/\z = .sl y:=by
               rw[List.lookup_cons]at I;cases As:(n==dT)with
               |false=>rw[As]at I;cases I
               | true=>
                rw[As]at I;injection I with I;exact⟨by simpa using As,I.symm⟩
              obtain⟨rfl,rfl⟩:=Y;exact .sl U y (bT _ _ _) (aln.cut [] (.inl rfl))
            have mB:Rl w0 N (tj af [j,i,aF tc,q]) (bK ρ dT (.dP U)) tq a w:=by
             rw[<- alj];refine vu.alf ?_;rw[ng];exact⟨gX,by simp only[de,bT]⟩
            refine Jm a w KK Q _ _ mB λvv w' dQ fZ yP JB Ah vh Ap=>?_
            -- behind the call
            have oR:90000 <= jy o.dst:=by unfold jy;split<;>omega
            have alp:yP dT = .dP U:=by
             rw[Ap dT (by unfold dT;omega),Ah.fY dT alk,bT]
            have alq:yP q = .dP (.slice (some ⟨b,0,none⟩) l.length cap):=by
             rw[Ap q (by omega),Ah.fY q alm,cz _ _ _ Ur,cv]
            have fk:=JB.root dT _ Dw;generalize D:aU.sl y'=x at fk;cases fk with
            |aD=>cases D
            |mp=>cases D
            |gh=>cases D
            | sl v' y'' jY fP=>
             injection D with D;subst D;rw[alp]at jY;injection jY with jY;subst jY;have Ut:=JB.Aa;have hrel:Rel dT dQ (dQ.jb dT [j,i,aF tc,q]):=IW Ut;have abb:cV dT [q]=false:=by simpa [cV]using λe=>Ur e
             have F1:tj af [j,i,aF tc,q] b=some [q]:=Up hl (λrW=>by have:=rW.length_le;simp at this) abb;have alr:gP [q] ((nj 0 Un).map (·.1))=false:=IZ;obtain⟨g1,g2⟩:=Ah.same b (Ah.af b _ F1).1 (λk C=>by rw[F1]at C;injection C with C;subst C;exact alr);have als:dQ b=some [q]:=g2.trans F1;have alu:dQ.jb dT [j,i,aF tc,q] b=some [q]:=hrel.kF b _ als abb;have hR4:=JB.rel hrel (λb' k C=>by
              unfold bB.jb at C;cases E:dQ b' with
              |none=>rw[E]at C;cases C
              | some O=>
               rw[E]at C;injection C with C;subst C;exact⟨⟨O,rfl⟩,aao (by simp) (λe=>Ut b' (by rw[E,e]))⟩)
             refine hK _ _ ⟨_,yP,hR4.alg (.sl _ _ alq ?_)⟩;have hj:j<aF tc:=by
              have:=(dW.1 hy).1
              rwa [mz]at this
             refine RV.M4 (w':=w') (cs:=cs) (xs:=[y']) (u:=u) (us:=u) alu (g1.trans hh) hs Y vb hi (show j+1 <= aF tc from hj) Us (λi' JD j' x D hij=>⟨hcc i' JD j' x D,?_⟩) (λn x D=>?_)
             ·have Uu:=qh i' JD j' x D;have alv:¬ (i'=i/\j'=j):=λe=>hij ⟨e.1,by simp;omega⟩
              have abc:cV dT [j',i',aF tc,q]=false:=by simpa [cV]using λe=>Ur e
              have a1:=Uu.ale (K:=[j,i,aF tc,q]) bQ (.inl ⟨λp rW=>?_,abc⟩)
              ·have a2:=a1.xd Ah (.inl (by simpa [gP]using IZ));exact a2.rel hrel (.inl abc)
              ·have e1:[j,i,aF tc,q]=[j',i',aF tc,q]:=S5 rW ⟨p,rfl⟩ rfl;injection e1 with e1 e2;injection e2 with e2 e3;exact alv ⟨e2.symm,e1.symm⟩
             ·cases n with
              | zero=>
               simp only[List.getElem?_cons_zero,jJ]at D;subst D;refine⟨hcc i hi j y hy,?_⟩;have:=fP.jb (q:=dT) (nk:=[j,i,aF tc,q]) Ut;rw[aan,alo]at this;exact this
              |succ n=>simp at D
         ·cases T
        ·cases T
      ·cases h
     ·cases h
    ·cases h
   ·cases h
  ·cases h
 ·cases h
def alw{C:ah Tmp}{c:qt}{args:aa Operand}(D:∀ σ,cE λX k=>q9 (X:=X) N σ C c args k):cE λX k=>JC (X:=X) N σ C c args k:=λX Y k g=>by
 unfold JC
 repeat' first|rfl|refine dB ((D _ _ _ _ _).trans (bE _ (funext λE=>?_))) rfl|split
def At:∀ (q:aa Nat),cE λX k=>kI (X:=X) m q k
 |[]=>λ_ _ _ _=>rfl
 | [x]=>λX Y k g=>by
  simp only[kI]
  repeat' first|rfl|refine dB ?_ ?_|split
 |[_,_]=>λ_ _ _ _=>rfl
 | j :: i :: s :: q=>λX Y k g=>by
  simp only[kI]
  refine(At q _ _ _ _).trans (bE _ (funext λy=>?_))
  repeat' first|rfl|split
  all_goals simp_all
def F3{x:Lf}:cE λX k=>rX (X:=X) σ x k:=by
 cases x with
 |own q=>exact At q
 |_=>exact λ_ _ _ _=>rfl
def abd{q:aa Nat}{s i j:Nat}:cE λX k=>yA (X:=X) σ q s i j k:=λX Y k g=>by
 refine(At q _ _ _ _).trans (bE _ (funext λy=>?_))
 repeat' first|rfl|refine dB ?_ ?_|split
def Uv{x:A}:cE λX k=>ve (X:=X) σ x k:=by
 cases x with
 |lf l=>exact F3
 |view=>exact abd
 |_=>exact λ_ _ _ _=>rfl
def Uw{x:A}:cE λX k=>vK (X:=X) x k:=λX Y k g=>by
 unfold vK
 repeat' first|rfl|refine dB ?_ ?_|split
def alx{ty:TypeId}{C:BinOp}{x y:V}:cE λX k=>IP (X:=X) P ty C x y k:=λX Y k g=>by
 unfold IP
 repeat' first|rfl|refine dB ?_ ?_|split
def aly{C:BinOp}{t:TypeId}{x y:A}:cE λX k=>BG (X:=X) P σ C t x y k:=λX Y k g=>by
 unfold BG;split
 ·repeat' first|rfl|refine dB ?_ ?_|split
 ·split
  ·refine(F3 _ _ _ _).trans (bE _ (funext λz=>?_))
   repeat' first|rfl|refine dB ?_ ?_|split
  ·rfl
 ·exact(Uw.comp λa=>Uw.comp λb=>alx.comp (b:=λX k z=>k (.lf (.v z))) λz _ _ _ _=>rfl) X Y k g
def alz{C:UnOp}{x:V}:cE λX k=>IQ (X:=X) C x k:=λX Y k g=>by
 unfold IQ
 repeat' first|rfl|refine dB ?_ ?_|split
def NJ{t:TypeId}{cs:aa Lf}:cE λX k=>zY (X:=X) P t cs k:=λX Y k g=>by
 unfold zY
 repeat' first|rfl|refine dB ?_ ?_|split
def abe{t:TypeId}{x:A}:cE λX k=>qR (X:=X) P σ t x k:=λX Y k g=>by
 unfold qR;split
 ·rfl
 ·split
  ·split
   ·exact NJ _ _ _ _
   ·rfl
  ·exact NJ _ _ _ _
  ·refine(At _ _ _ _ _).trans (bE _ (funext λz=>?_))
   repeat' first|rfl|exact NJ _ _ _ _|split
  ·rfl
def alA{s:TypeId}{x:A}{f:Nat}:cE λX k=>FG (X:=X) P s x f k:=λX Y k g=>by
 unfold FG
 repeat' first|rfl|refine dB ?_ ?_|split
def alB{t:TypeId}{x i:A}:cE λX k=>Bt (X:=X) P σ t x i k:=λX Y k g=>by
 unfold Bt;split
 ·rfl
 ·split
  ·split
   ·repeat' first|rfl|refine dB ?_ ?_|split
   ·refine(At _ _ _ _ _).trans (bE _ (funext λz=>?_))
    repeat' first|rfl|refine dB ?_ ?_|split
   ·rfl
  ·rfl
def alC{t:TypeId}{x:A}:cE λX k=>Di (X:=X) P σ t x k:=λX Y k g=>by
 unfold Di;split
 ·refine(F3 _ _ _ _).trans (bE _ (funext λz=>?_))
  repeat' first|rfl|refine dB ?_ ?_|split
 ·repeat' first|rfl|refine dB ?_ ?_|split
 ·rfl
def alD{x:A}{i:Nat}:cE λX k=>Dj (X:=X) x i k:=λX Y k g=>by
 unfold Dj
 repeat' first|rfl|refine dB ?_ ?_|split
def alE{t:TypeId}{parts:aa (Nat×Operand)}:cE λX k=>FL (X:=X) P σ t parts k:=λX Y k g=>by
 unfold FL
 repeat' first|rfl|refine dB ?_ ?_|split
def alF{s:TypeId}{x:A}{f:Nat}:cE λX k=>Jc (X:=X) P s x f k:=λX Y k g=>by
 unfold Jc
 repeat' first|rfl|refine dB ?_ ?_|split
def abf{C:Bool}{x y:A}:cE λX k=>FM (X:=X) C x y k:=λX Y k g=>by
 unfold FM
 repeat' first|rfl|refine dB ?_ ?_|split
def alG{t:TypeId}{x i:A}:cE λX k=>Jd (X:=X) P t x i k:=λX Y k g=>by
 unfold Jd
 repeat' first|rfl|refine dB ?_ ?_|split
def alH{C D:TypeId}{x:A}:cE λX k=>BE (X:=X) P σ C D x k:=λX Y k g=>by
 unfold BE;split
 ·repeat' first|rfl|refine dB ?_ ?_|split
 ·refine(F3 _ _ _ _).trans (bE _ (funext λz=>?_))
  unfold Nm
  repeat' first|rfl|refine dB ?_ ?_|split
 ·rfl
def F4{x:ah A}{d:Int}:cE λX k=>wV (X:=X) x d k:=λX Y k g=>by
 unfold wV
 repeat' first|rfl|refine dB ?_ ?_|split
def abg{t:TypeId}{q:aa Nat}{C:ah Nat}{lo hi:ah A}:cE λX k=>DA (X:=X) P σ t q C lo hi k:=λX Y k g=>by
 unfold DA;split
 ·split
  ·refine(At _ _ _ _ _).trans (bE _ (funext λz=>?_))
   unfold FR;split
   ·split
    ·refine(F4 _ _ _ _).trans (bE _ (funext λ_=>(F4 _ _ _ _).trans (bE _ (funext λ_=>?_))))
     repeat' first|rfl|refine dB ?_ ?_|split
    ·rfl
   ·rfl
  ·rfl
 ·rfl
def alI{t:TypeId}{x:A}{lo hi:ah A}:cE λX k=>BI (X:=X) P σ t x lo hi k:=λX Y k g=>by
 unfold BI;split
 ·exact abg _ _ _ _
 ·exact abg _ _ _ _
 ·unfold Af;split
  ·split
   ·refine(F4 _ _ _ _).trans (bE _ (funext λ_=>(F4 _ _ _ _).trans (bE _ (funext λ_=>?_))))
    repeat' first|rfl|refine dB ?_ ?_|split
   ·rfl
  ·split
   ·split
    ·split
     ·refine dB ((F4 _ _ _ _).trans (bE _ (funext λ_=>(F4 _ _ _ _).trans (bE _ (funext λ_=>?_))))) rfl
      repeat' first|rfl|refine dB ?_ ?_|split
     ·rfl
    ·rfl
   ·rfl
  ·rfl
def Au{C:ah Tmp}{x:A}:cE λX k=>jm (X:=X) N σ C x k:=λX Y k g=>by
 unfold jm
 repeat' first|rfl|refine dB ?_ ?_|split
def NK{x:aU}{y:A}:cE λX k=>iU (X:=X) N σ d x y k:=λX Y k g=>dB rfl rfl
def DJ{x:aU}{y:A}{k:S -> ah X}(h:iU N σ d x y k=some r):k (((σ.drop d).root d x).set d y)=some r/\oM (λX k=>iU (X:=X) N σ d x y k) (((σ.drop d).root d x).set d y):=by
 unfold iU at h;cases C:Nat.blt d N with
 |false=>simp_all
 |true=>rw[C]at h;exact⟨h,λX k=>by simp[iU,C,av]⟩
def alJ{e:TypeId}{k:S -> ah X}(h:ud P N σ d e k=some r):∃ x y,k (((σ.drop d).root d x).set d y)=some r/\y = .aL d 0/\(∀ (C:S),oM (λX k=>ud (X:=X) P N C d e k) (((C.drop d).root d x).set d y)):=by
 unfold ud at h;split at h
 ·rename_i z D;obtain⟨E,_⟩:=DJ h
  refine⟨_,_,E,rfl,λC X k=>?_⟩
  obtain⟨I,_⟩:=qj h;have hb:Nat.blt d N=true:=jI I;simp[ud,D,iU,hb,av]
 ·cases h
def abh{t:TypeId}{l c:A}{k:S -> ah X}(h:Bw P N σ d t l c k=some r):∃ y,k (((σ.drop d).root d (.sl y)).set d (.lf (.own [d])))=some r/\(∀ (C:S),oM (λX k=>Bw (X:=X) P N C d t l c k) (((C.drop d).root d (.sl y)).set d (.lf (.own [d])))):=by
 unfold Bw at h;split at h
 ·rename_i e tc U n Y c D;split at h
  ·cases h
  ·rename_i z E;split at h
   ·rename_i hb;obtain⟨I,_⟩:=DJ h
    refine⟨_,I,λC X k=>?_⟩
    obtain⟨O,_⟩:=qj h;have T:Nat.blt d N=true:=jI O;simp[Bw,D,E,aV hb,iU,T,av]
   ·cases h
 ·cases h
def abi{t:TypeId}{len:Nat}{parts:aa (Nat×Operand)}{k:S -> ah X}(h:BB P N σ d t len parts k=some r):∃ y,k (((σ.drop d).root d (.sl y)).set d (.lf (.own [d])))=some r /\
  (∀(C:S),(∀p∈parts,aJ C p.2=aJ σ p.2) -> oM (λX k=>BB (X:=X) P N C d t len parts k) (((C.drop d).root d (.sl y)).set d (.lf (.own [d])))):=by
 unfold BB at h;split at h
 ·rename_i e tc E;split at h
  ·rename_i z I;cases D:(Nat.beq (full tc) 0&&Nat.beq z.cells.size (aF tc)&&Nat.blt (len*aF tc) 16777217)with
   |false=>simp_all
   | true=>
    rw[D,av]at h;split at h
    ·rename_i cs O;split at h
     ·rename_i vs T;split at h
      ·rename_i l hl;obtain⟨U,_⟩:=DJ h
       refine⟨_,U,λC Y X k=>?_⟩
       obtain⟨Z,_⟩:=qj h;have iu:Nat.blt d N=true:=jI Z;have e:(parts.map λp=>(p.1,aJ C p.2))=parts.map λp=>(p.1,aJ σ p.2):=rP λp hp=>by rw[Y p hp]
       simp[BB,E,I,D,av,e,O,T,hl,iU,iu]
      ·cases h
     ·cases h
    ·cases h
  ·cases h
 ·cases h
def alK{t:TypeId}{x y:A}:cE λX k=>wO (X:=X) P N σ d t x y k:=λX Y k g=>by
 unfold wO;split
 ·refine dB ((Uv _ _ _ _).trans (bE _ (funext λC=>?_))) rfl
  repeat' first|rfl|exact NK _ _ _ _|refine dB ?_ ?_|split
 ·rfl
def abj:∀ (q:aa Nat) (y:V),cE λX k=>zZ (X:=X) m q y k
 |[],_=>λ_ _ _ _=>rfl
 | [x],y=>λX Y k g=>by
  simp only[zZ]
  repeat' first|rfl|refine dB ?_ ?_|split
 |[_,_],_=>λ_ _ _ _=>rfl
 | j :: i :: s :: q,y=>λX Y k g=>by
  simp only[zZ]
  refine(At q _ _ _ _).trans (bE _ (funext λz=>?_))
  repeat' first|rfl|exact abj q _ _ _ _ _|split
def abk{t:TypeId}{x y:A}:cE λX k=>sZ (X:=X) P σ t x y k:=λX Y k g=>by
 unfold sZ;split
 ·split
  ·split
   ·repeat' first|rfl|refine dB ?_ ?_|split
   ·split
    ·rfl
    ·refine(At _ _ _ _ _).trans (bE _ (funext λz=>?_))
     repeat' first|rfl|exact abj _ _ _ _ _ _|refine dB ?_ ?_|split
   ·rfl
  ·rfl
 ·rfl
def Ux:∀ (xs:aa Lf),cE λX k=>ue (X:=X) σ xs k
 |[]=>λ_ _ _ _=>rfl
 |x::xs=>F3.comp λy=>(Ux xs).comp (b:=λX k ys=>k (y.ir::ys)) λ_ _ _ _ _=>rfl
def abm{x:A}:cE λX k=>qV (X:=X) σ x k:=λX Y k g=>by
 unfold qV
 repeat' first|rfl|exact Ux _ _ _ _ _|exact abd _ _ _ _|split
def alL{x:A}:cE λX k=>yG (X:=X) σ x k:=λX Y k g=>by
 unfold yG
 repeat' first|rfl|exact abm _ _ _ _|refine(Ux _ _ _ _ _).trans (bE _ (funext λz=>?_))|split
def Uy{f:(X:Type)->A->(Pt->ah X)->ah X}(C:∀ x,cE λX k=>f X x k):∀ (xs:aa Operand),cE λX k=>yH (f X) σ xs k
 |[]=>λ_ _ _ _=>rfl
 |x::xs=>(C _).comp λp=>(Uy C xs).comp (b:=λX k ps=>k (p::ps)) λ_ _ _ _ _=>rfl
def F5{xs:aa Operand}:cE λX k=>vk (X:=X) σ xs k:=Uy (λ_=>abm) xs
def abn{xs:aa Operand}:cE λX k=>DB (X:=X) σ xs k:=Uy (λ_=>alL) xs
def NL{C:gU}:cE λX k=>qp (X:=X) σ d C k:=λX Y k g=>by
 unfold qp
 repeat' first|rfl|refine dB ?_ ?_|split
def abo{f:Nat}{c:kP}(C:jZ P f c){ev:(X:Type)->(aa Pt->ah X)->ah X}(D:cE ev):cE λX k=>vm (X:=X) N σ d c (ev X) k:=λX Y k g=>
 dB ((D.comp λps=>(C.1 ps).comp λE=>NL) X Y k g) rfl
def NM{f:Nat}{c:kP}(Y:jZ P f c){ev:(X:Type)->(aa Pt->ah X)->ah X}(Z:cE ev){k:S->ah X}(h:vm N σ d c (ev X) k=some r):∃ C D,qp σ d C some=some D/\k D=some r/\
  ∀E O (I:(X:Type)->(aa Pt->ah X)->ah X),(∀(X:Type) (k:aa Pt->ah X),I X k=ev X k)->qp E d C some=some O->oM (λX k=>vm (X:=X) N E d c (I X) k) O:=by
 unfold vm at h;cases T:Nat.blt d N with
 |false=>rw[T]at h;cases h
 | true=>
  rw[T,av]at h;obtain⟨ps,h2,hd⟩:=Z.nZ h;obtain⟨C,h3,TK⟩:=(Y.1 ps).nZ h2;obtain⟨D,h4,hd3⟩:=NL.nZ h3
  refine⟨C,D,hd3 _ _,h4,λE O I ha jz X k=>?_⟩
  obtain⟨τ2,U,F6⟩:=NL.nZ jz;injection U with U;subst U;show vm N E d c (I X) k=_;unfold vm;rw[T,av,ha,hd X];exact(TK X _).trans (F6 X k)
/-! Keys that do not end in certain names. -/
def ri(p:Nat->Bool)(k:aa Nat):Bool:=!jX p k
def xl(p pb:Nat->Bool):qg:=⟨jX p,jX p,pb⟩
def Lf.nr(p:Nat->Bool):Lf->Bool:=Lf.fr (jX p)
def A.nr(p:Nat->Bool):A->Bool:=A.fr (xl p p)
def JE{p:Nat->Bool}{n:Nat}(C:p n=true)(k:aa Nat)(h:cV n k=true):jX p k=true:=by
 unfold jX;rw[show k.getLast?=some n by simpa [cV]using h];exact C
def abp{p:Nat->Bool}{k:aa Nat}{n:Nat}(h:ri p k=true)(C:p n=true):cV n k=false:=by
 cases hl:cV n k with
 |false=>rfl
 |true=>unfold ri at h;rw[JE C k hl]at h;cases h
def alM{p:Nat->Bool}{n:Nat}(C:p n=true)(r:Nat)(h:Nat.beq r n=true):p r=true:=by rw[c8 h];exact C
def Lf.BY{p:Nat->Bool}{x:Lf}{n:Nat}(h:x.nr p=true)(C:p n=true):x.drop n=x:=Lf.rS (Lf.uY (JE C) h)
def tY.BY{p:Nat->Bool}{xs:aa Lf}{n:Nat}(h:xs.all (Lf.nr p)=true)(C:p n=true):xs.map (Lf.drop n)=xs:=tY.rS (cm.2 λc D=>Lf.uY (JE C) (cm.1 h c D))
def A.DK{p pb:Nat->Bool}{x:A}{n:Nat}(h:x.fr (xl p pb)=true)(C:p n=true)(hb:pb n=true):x.drop n=x:=A.rS (A.uY (K:=zU n) (J:=xl p pb) (JE C) (JE C) (alM hb) h)
def A.BY{p:Nat->Bool}{x:A}{n:Nat}(h:x.nr p=true)(C:p n=true):x.drop n=x:=A.DK h C C
def S.ext'{σ C:S}(D:∀ k,σ.t k=C.t k)(E:∀ r,σ.m r=C.m r):σ=C:=by
 cases σ;cases C;simp
 grind
def S.set_set{e d:Nat}(h:e≠d)(v u:A):(σ.set d v).set e u=(σ.set e u).set d v:=by
 refine S.ext' (λk=>?_) λ_=>rfl
 show bK (bK σ.t d v) e u k=bK (bK σ.t e u) d v k;by_cases C:k=e
 ·subst C;rw[bT,cz _ _ _ h,bT]
 ·by_cases D:k=d
  ·subst D;rw[cz _ _ _ C,bT,bT]
  ·rw[cz _ _ _ C,cz _ _ _ D,cz _ _ _ D,cz _ _ _ C]
def S.drop_set(n:Nat){v:A}(C:v.drop n=v):(σ.set d v).drop n=(σ.drop n).set d v:=by
 refine S.ext' (λk=>?_) λ_=>rfl
 show (bK σ.t d v k).drop n=bK (λk=>(σ.t k).drop n) d v k;by_cases h:k=d
 ·subst h;rw[bT,bT,C]
 ·rw[cz _ _ _ h,cz _ _ _ h]
def Uz(v:A):∀ (xs:aa V) (c:Nat) (σ:S),(∀ n,c <= n -> v.drop n=v) -> oQ c (σ.set d v) xs=(oQ c σ xs).set d v
 |[],c,σ,h=>rfl
 | x :: xs,c,σ,h=>by
  simp[oQ];cases D:x.aI with
  | true=>
   exact Uz v xs _ σ (λn C=>h n (by omega))
  | false=>
   rw[S.drop_set c (h c (dg _))];exact Uz v xs _ ((σ.drop c).root c _) (λn C=>h n (by omega))
def UA(v:A):∀ (ps:aa Pt) (c:Nat) (σ:S),(∀ n,c <= n -> v.drop n=v) -> qX c (σ.set d v) ps=(qX c σ ps).set d v
 |[],c,σ,h=>rfl
 | p :: ps,c,σ,h=>by
  simp[qX];rw[Uz v p.2 c σ h];exact UA v ps _ _ (λn C=>h n (by omega))
end
def BZ{X:Type}(N:Nat)(σ:S)(d:Nat)(x:A)(k:S->ah X):ah X:=
 match x.Br with
 |some xs=>bif xs.all Lf.live then iU N σ d (.aD (xs.map (Lf.drop d))) (.aL d 0) k else none
 |none=>none
def NN{X:Type}(x:A)(k:A->ah X):ah X:=
 match x with
 |.aL r j=>k (.aL r j)
 |.ptr q=>k (.ptr q)
 |.kG cs=>k (.kG cs)
 |_=>none
section
variable {P:Program} {w w':World} {w0:Wd} {B N:Nat} {af aC:bB} {ρ ρ':Nat->Loc} {σ:S} {a:Act} {X:Type} {d:Nat} {r:X} {o:Oper}
def alN{e:TypeId}{x:A}{k:S -> ah X}(h:BZ N σ d x k=some r):∃ D,k D=some r /\ ∀ af ρ a w,Rl w0 N af ρ σ a w -> ∀ u,RA w w0.heap.size af ρ x u ->
  ∃w' aC ρ' v,(Instr.box e u).run P w = .ok v w'/\Rl w0 N aC ρ' D (a.put (some d) v) w':=by
 unfold BZ at h;split at h
 ·rename_i xs U;cases E:xs.all Lf.live with
  |false=>grind
  | true=>
   rw[E,av]at h;obtain⟨I,h⟩:=qj h
   refine⟨_,h,λaf ρ a w hR u Y=>?_⟩
   obtain⟨hl,_⟩:=IU U E Y;have Z:(Instr.box e u).run P w = .ok (.pointer (some ⟨w.heap.size,0,none⟩)) (w.alloc (.cells u.cells e)):=by
    simp[Instr.box,newVar,newRow]
   refine⟨_,bK af w.heap.size (some [d]),bK ρ d (.aD w.heap.size 0),_,Z,(hR.Dl (hR.cT d (.inl I)) (λr C=>cz _ _ _ C) ?_).set ⟨w.heap.size,0,bT _ _ _,rfl⟩ I⟩
   have h1:fG (w.alloc (.cells u.cells e)) w0.heap.size (bK af w.heap.size (some [d])) ρ xs u.cells:=
    hl.kF (by simp) (λb hb=>⟨Below.heap_alloc w _ b hb,cz _ _ _ (by omega)⟩) (λb k hb=>(hR.dj b k hb).2.1)
   have O:=h1.fY (ρ':=bK ρ d (.aD w.heap.size 0)) (d:=d) (λr C=>cz _ _ _ C)
   refine .aD w.heap.size 0 u.cells e _ (λj=>u.cells.getD j undef) (bT _ _ _) (bT _ _ _) (heap_alloc_new w _) (by rw[O.1];omega) λj y hy=>?_
   obtain⟨v,T,C⟩:=O.2 j y hy;have hg:u.cells.getD j undef=v:=by rw[jt,T];rfl
   rw[hg,gy];exact⟨T,C⟩
 ·cases h
def alO{x:A}{k:S -> ah X}(h:BZ N σ d x k=some r):∃ y u,k (((σ.drop d).root d y).set d u)=some r/\(∀ (C:S),oM (λX k=>BZ (X:=X) N C d x k) (((C.drop d).root d y).set d u)):=by
 unfold BZ at h;split at h
 ·rename_i xs E;cases D:xs.all Lf.live with
  |false=>simp_all
  | true=>
   rw[D]at h;obtain⟨I,_⟩:=DJ h
   refine⟨_,_,I,λC X k=>?_⟩
   obtain⟨O,_⟩:=qj h;have hb:Nat.blt d N=true:=jI O;simp[BZ,E,D,iU,hb,av]
 ·cases h
def alP{x:A}{k:A->ah X}(h:NN x k=some r):k x=some r/\∀ u,RA w B af ρ x u->∃ ad,u = .pointer (some ad):=by
 unfold NN at h;split at h
 ·exact⟨h,λu C=>by obtain⟨b,off,_,rfl⟩:=C;exact⟨_,rfl⟩⟩
 ·exact⟨h,λu C=>by obtain⟨ad,rfl,_⟩:=C;exact⟨_,rfl⟩⟩
 ·exact⟨h,λu C=>by obtain⟨b,off,rfl,_⟩:=C;exact⟨_,rfl⟩⟩
 ·cases h
end
def tu(t:TypeId):Bool:=[999999,999999,49,999999,56,999999,999999,999999,999999,999999,39,999999,999999,999999,999999,999999].any (Nat.beq t)
def V.lit:V->Bool
 |.sl _ _ _ _=>false
 |_=>true
def UB(tc:TC)(len:Nat)(cs:aa Lf):ah (aa (T tc)):=
 bif Nat.ble 2 len then (match wR cs with
  |some C=>bif C.all V.lit then Ds tc (full tc) len C else none
  |none=>none)else none
def yQ{X:Type}(P:Program)(N:Nat)(σ:S)(d:Nat)(t:TypeId)(len:Nat)(parts:aa (Nat×Operand))(k:S->ah X):ah X:=
 match yC P t with
 | some (e,tc)=>match zeroOf P e with
  | some z=>bif Nat.beq z.cells.size (aF tc)&&Nat.blt (len*aF tc) 16777217 then (match BA (λi=>some (i*aF tc,aF tc)) (List.replicate len (z.cells.toList.map qT)).flatten (parts.map λp=>(p.1,aJ σ p.2))with
   | some cs=>bif Nat.beq len 0 then iU N σ d (.sl (.sl tc (full tc+2) true [])) (.lf (.own [d])) k else (match UB tc len cs with
    |some l=>iU N σ d (.sl (.sl tc (full tc+2) true l)) (.lf (.own [d])) k
    |none=>iU N σ d (.aD (cs.map (Lf.drop d))) (.pk d len) k)
   |none=>none)else none
  |none=>none
 |none=>none
def DL{X:Type}(N:Nat)(σ:S)(d r C:Nat)(tc:TC)(n:Nat)(k:S->ah X):ah X:=
 match σ.m C,σ.m r with
 | some (.aD cs),some (.sl (.sl D (o+2) q l))=>if h:D=tc then (match jo r (λj=>(j % aF tc) :: (l.length+j / aF tc) :: aF tc :: [r]) cs.length 0 cs σ with
  | some (E,I)=>(match Ds tc o n E with
   |some l2=>bif Nat.blt d N&&cB (l.length+l2.length)then k (((I.drop r).root r (.sl (.sl tc (o+2) false ((h ▸ l)++l2)))).set d (.lf (.own [r])))else none
   |none=>none)
  |none=>none)else none
 |_,_=>none
def JF{X:Type}(P:Program)(N:Nat)(σ:S)(d:Nat)(t:TypeId)(x y:A)(k:S->ah X):ah X:=
 match yC P t,y with
 | some (e,tc),.pk C n=>bif (zeroOf P e).any (λz=>Nat.beq z.cells.size (aF tc))&&(Nat.blt d N&&Nat.blt n tX)then (match x with
  |.lf (.v .nil)=>DL N ((σ.drop d).root d (.sl (.sl tc (full tc+2) false []))) d d C tc n k
  |.lf (.own [r])=>bif Nat.blt r N ||Nat.ble 60000 r then DL N σ d r C tc n k else none
  |_=>none)else none
 |_,_=>none
def xm{X:Type}(P:Program)(σ:S)(t:TypeId)(x y:A)(k:S->ah X):ah X:=
 match kO P t,y.Br,x with
 | some n,some xs,.ptr [j,i,s,r]=>if xs.length=n then (bif xs.all Lf.live then (match jo r (λm=>(j+m) :: i :: s :: [r]) xs.length 0 xs σ with
  | some (E,D)=>(match D.m r with
   | some (.sl (.sl C (o+2) I l))=>if s=aF C then (if h:i<l.length then (if j+n<=aF C then (match dec C o (splice (enc C o l[i]) j E)with
    |some e=>k (D.dD [r] [] [(r,.sl (.sl C (o+2) I (l.set i e)))])
    |none=>none)else none)else none)else none
   |_=>none)
  |none=>none)else none)else none
 |_,_,_=>none
def Av(x y:A):Bool:=match x,y.Br with
 |.ptr _,some xs=>(uc xs).isNone
 |_,_=>false
section
variable {P:Program} {w w':World} {w0:Wd} {B N:Nat} {af aC:bB} {ρ ρ':Nat->Loc} {σ:S} {a:Act} {X:Type} {d:Nat} {r:X} {o:Oper}
def abq{place:Nat -> ah (Nat×Nat)}:∀ (parts:aa (Nat×A)) (cells out:aa Lf),BA place cells parts=some out -> out.length=cells.length
 |[],cells,out,h=>by injection h with h;rw[h]
 | (i,x) :: rest,cells,out,h=>by
  unfold BA at h;split at h
  ·rename_i off n xs C D;split at h
   ·rename_i E;cases hl:xs.all _ with
    | true=>
     rw[hl]at h;rw[abq rest _ _ h,wG _ _ _ (by omega)]
    |false=>simp_all
   ·cases h
  ·cases h
def RV.alQ{q C:aa Nat}{x:V}{v:Value}{B':Nat}{aC:bB}(h:RV w B af q x v)(D:x.lit=true):RV w' B' aC C x v:=by
 cases h<;>first|exact .int _ _ _|exact .bool _ _|exact .str _ _|exact .nil _|cases D
def alR{tc:TC}{len:Nat}{cs:aa Lf}{l:aa (T tc)}(h:UB tc len cs=some l):∃ C,cs=C.map .v/\(∀ x∈C,V.lit x=true)/\Ds tc (full tc) len C=some l:=by
 unfold UB at h;cases E:Nat.ble 2 len with
 |false=>rw[E]at h;cases h
 | true=>
  rw[E,av]at h;split at h
  ·rename_i C I;cases D:C.all V.lit with
   |false=>rw[D]at h;cases h
   | true=>
    rw[D,av]at h;exact⟨C,Ja cs C I,λx O=>cm.1 D x O,h⟩
  ·cases h
def alS{t:TypeId}{len:Nat}{parts:Array (Nat×Operand)}{k:S->ah X}(h:yQ P N σ d t len parts.toList k=some r):∃ di,k di=some r/\∀ af ρ a w,Rl w0 N af ρ σ a w->
  ∃w' aC ρ' v,(Instr.buildSlice t len (parts.map λ(i,x)=>(i,a.eval x))).run P w = .ok v w'/\Rl w0 N aC ρ' di (a.put (some d) v) w':=by
 unfold yQ at h;split at h
 ·rename_i e tc r3;obtain⟨iN,ht,i,hi,iI,kD⟩:=By r3;split at h
  ·rename_i z hz;cases hc:(Nat.beq z.cells.size (aF tc)&&Nat.blt (len*aF tc) 16777217)with
   |false=>rw[hc]at h;cases h
   | true=>
    rw[hc,av]at h;rw[aH]at hc;have qa:=c8 hc.1;have hsm:len*aF tc<16777217:=by have:=cH hc.2;omega
    have r4:i.zero=some z:=by unfold zeroOf at hz;simpa [hi]using hz
    split at h
    ·rename_i cs jn;have key:∀ af ρ (a:Act) w,Rl w0 N af ρ σ a w->∃ C,(Instr.buildSlice t len (parts.map λ(i,x)=>(i,a.eval x))).run P w = .ok (.slice (some ⟨w.heap.size,0,none⟩) len len) (w.alloc (.cells C e))/\fG w w0.heap.size af ρ cs C/\C.size=cs.length:=λaf ρ a w hR=>by
      have Tv:fG w w0.heap.size af ρ (List.replicate len (z.cells.toList.map qT)).flatten (madeCells z.cells (len*aF tc)):=by
       have e1:(List.replicate len (z.cells.toList.map qT)).flatten=((List.replicate len z.cells.toList).flatten).map qT:=by
        rw[List.map_flatten,List.map_replicate]
       rw[e1,<-aaC z.cells (aF tc) len qa (qP tc)]
       refine⟨by simp,λj x D=>?_⟩
       rw[fz]at D;cases I:(madeCells z.cells (len*aF tc)).toList[j]? with
       |none=>rw[I]at D;cases D
       | some v=>
        rw[I]at D;injection D with D;subst D;exact⟨v,by simpa using I,Nf v⟩
      obtain⟨C,Ag,hl⟩:=Nk (w:=w) (B:=w0.heap.size) (af:=af) (ρ:=ρ) _ _ _ (parts.toList.map λp=>(p.1,a.eval p.2)) cs jn Tv (by simp) (λj p q Y hq=>by
       rw[fz]at Y hq;cases D:parts.toList[j]? with
       |none=>rw[D]at Y;cases Y
       | some x=>
        rw[D]at Y hq;injection Y with Y;injection hq with hq;subst Y hq;exact⟨rfl,hR.aJ x.2⟩)
      have Z:(Instr.buildSlice t len (parts.map λ(i,x)=>(i,a.eval x))).run P w = .ok (.slice (some ⟨w.heap.size,0,none⟩) len len) (w.alloc (.cells C e)):=by
       have I9:(parts.map λ(i,x)=>(i,a.eval x)).toList=parts.toList.map λp=>(p.1,a.eval p.2):=by simp
       by_cases h0:len*aF tc=0
       ·have hm:madeCells z.cells (len*aF tc) = #[]:=by rw[h0];simp[madeCells]
        rw[hm]at Ag;have Tx:len*i.size=0:=by rw[iI];exact h0
        rw[<-iI]at Ag;have e0:∀f:Nat->Value,Array.map f (Array.range 0) = #[]:=λf=>by simp
        simp only[Instr.buildSlice,gW,iY iN,nQ,sizeOf,typeInfo];simp[hi,Tx];rw[e0,Ag];simp[newRow]
       ·exact run_buildSlice (P:=P) w t e len _ C i z iN hi r4 (by rw[iI];omega) (by rw[iI];exact h0) (by rw[iI,I9];exact Ag)
      exact⟨C,Z,hl,hl.1⟩
     cases qS:Nat.beq len 0 with
     | true=>
      rw[qS,av]at h;have NO:=c8 qS;subst NO;obtain⟨U,h⟩:=qj h
      refine⟨_,h,λaf ρ a w hR=>?_⟩
      obtain⟨C,Z,hl,hcz⟩:=key af ρ a w hR;have oR:cs.length=0:=by
       have h1:=abq _ _ _ jn;rw[h1];simp
      refine⟨_,bK af w.heap.size (some [d]),bK ρ d (.dP (.slice (some ⟨w.heap.size,0,none⟩) 0 0)),_,Z,(hR.Dl (hR.cT d (.inl U)) (λr E=>cz _ _ _ E) (.sl _ _ (bT _ _ _) ?_)).set ⟨rfl,by simp[de,bT]⟩ U⟩
      exact RV.own (w:=w.alloc (.cells C e)) (B:=w0.heap.size) (af:=bK af w.heap.size (some [d])) [d] tc (full tc) true [] w.heap.size 0 C (λ_ _=>undef)
       (bT _ _ _) (by rw[ht];exact heap_alloc_new w _) (by omega) (dg _) ⟨by unfold maxLen;omega,λ_=>rfl⟩ (λO T=>absurd T (by simp)) (λO T=>absurd T (by simp))
     |false=>
     rw[qS,ax]at h;split at h
     ·rename_i l JG;obtain⟨vs,Je,alT,UC⟩:=alR JG;obtain⟨U,h⟩:=qj h
      refine⟨_,h,λaf ρ a w hR=>?_⟩
      obtain⟨C,Z,hl,_⟩:=key af ρ a w hR;obtain⟨Dt,z0,jq⟩:=Nl tc (full tc) len vs l UC;have Tw:C.size=len*aF tc:=by rw[hl.1,Je,fN,z0]
      refine⟨_,bK af w.heap.size (some [d]),bK ρ d (.dP (.slice (some ⟨w.heap.size,0,none⟩) len len)),_,Z,(hR.Dl (hR.cT d (.inl U)) (λr E=>cz _ _ _ E) (.sl _ _ (bT _ _ _) ?_)).set ⟨rfl,by simp[de,bT]⟩ U⟩
      have qi:∀ O (T:O<l.length) j x,(enc tc (full tc) l[O])[j]?=some x->∃ v,C[O*aF tc+j]?=some v/\∀ (w':World) (B':Nat) (aC:bB) (q':aa Nat),RV w' B' aC q' x v:=by
       intro O T j x D;obtain⟨y,hy,hw⟩:=jq O T j x D;obtain⟨v,I,E⟩:=hl.2 (O*aF tc+j) (.v y) (by rw[Je,fz,hy];rfl);exact⟨v,I,λw' B' aC q'=>(E.2.alQ (alT y (iR hy))).wk hw⟩
      have:=RV.own (w:=w.alloc (.cells C e)) (B:=w0.heap.size) (af:=bK af w.heap.size (some [d])) [d] tc (full tc) true l w.heap.size len C (λi j=>(C[i*aF tc+j]?).getD undef)
       (bT _ _ _) (by rw[ht];exact heap_alloc_new w _) Tw (by omega) ⟨by have:=Nat.le_mul_of_pos_right len (qP tc);unfold maxLen;omega,λ_=>Dt.symm⟩ (λO T j x D=>?_) (λO T j x D=>?_)
      ·rw[Dt]at this;exact this
      ·obtain⟨v,I,_⟩:=qi O T j x D;rw[I];rfl
      ·obtain⟨v,I,E⟩:=qi O T j x D;rw[I];exact E _ _ _ _
     obtain⟨U,h⟩:=qj h
     refine⟨_,h,λaf ρ a w hR=>?_⟩
     obtain⟨C,Z,hl,_⟩:=key af ρ a w hR
     refine⟨_,bK af w.heap.size (some [d]),bK ρ d (.aD w.heap.size 0),_,Z,(hR.Dl (hR.cT d (.inl U)) (λr E=>cz _ _ _ E) ?_).set ⟨w.heap.size,bT _ _ _,(SZ (by have:=Nat.le_mul_of_pos_right len (qP tc);unfold tX;omega)).symm⟩ U⟩
     have h1:fG (w.alloc (.cells C e)) w0.heap.size (bK af w.heap.size (some [d])) ρ cs C:=
      hl.kF (by simp) (λb hb=>⟨Below.heap_alloc w _ b hb,cz _ _ _ (by omega)⟩) (λb k hb=>(hR.dj b k hb).2.1)
     have h2:=h1.fY (ρ':=bK ρ d (.aD w.heap.size 0)) (d:=d) (λr E=>cz _ _ _ E)
     refine .aD w.heap.size 0 C e _ (λj=>C.getD j undef) (bT _ _ _) (bT _ _ _) (heap_alloc_new w _) (by rw[h2.1];omega) λj y hy=>?_
     obtain⟨v,I,E⟩:=h2.2 j y hy;have hg:C.getD j undef=v:=by rw[jt,I];rfl
     rw[hg,gy];exact⟨I,E⟩
    ·cases h
  ·cases h
 ·cases h
def alU{t:TypeId}{len:Nat}{parts:aa (Nat×Operand)}{k:S->ah X}(h:yQ P N σ d t len parts k=some r):∃ y u,k (((σ.drop d).root d y).set d u)=some r/\
  (∀(C:S),(∀p∈parts,aJ C p.2=aJ σ p.2)->oM (λX k=>yQ (X:=X) P N C d t len parts k) (((C.drop d).root d y).set d u)):=by
 unfold yQ at h;split at h
 ·rename_i e tc Z;split at h
  ·rename_i z hz;cases D:(Nat.beq z.cells.size (aF tc)&&Nat.blt (len*aF tc) 16777217)with
   |false=>rw[D]at h;cases h
   | true=>
    rw[D,av]at h;split at h
    ·rename_i cs jn;cases E:Nat.beq len 0 with
     | true=>
      rw[E,av]at h;obtain⟨I,_⟩:=DJ h
      refine⟨_,_,I,λC O X k=>?_⟩
      obtain⟨T,_⟩:=qj h;have U:Nat.blt d N=true:=jI T;have e:(parts.map λp=>(p.1,aJ C p.2))=parts.map λp=>(p.1,aJ σ p.2):=rP λp Y=>by rw[O p Y]
      simp only[yQ,Z,hz,D,av,e,jn,iU,U,E]
     | false=>
      rw[E,ax]at h;split at h
      ·rename_i l JG;obtain⟨I,_⟩:=DJ h
       refine⟨_,_,I,λC O X k=>?_⟩
       obtain⟨T,_⟩:=qj h;have U:Nat.blt d N=true:=jI T;have e:(parts.map λp=>(p.1,aJ C p.2))=parts.map λp=>(p.1,aJ σ p.2):=rP λp Y=>by rw[O p Y]
       simp only[yQ,Z,hz,D,av,e,jn,iU,U,E,ax,JG]
      ·rename_i JG;obtain⟨I,_⟩:=DJ h
       refine⟨_,_,I,λC O X k=>?_⟩
       obtain⟨T,_⟩:=qj h;have U:Nat.blt d N=true:=jI T;have e:(parts.map λp=>(p.1,aJ C p.2))=parts.map λp=>(p.1,aJ σ p.2):=rP λp Y=>by rw[O p Y]
       simp only[yQ,Z,hz,D,av,e,jn,iU,U,E,ax,JG]
    ·cases h
  ·cases h
 ·cases h
def abr{t e ty:TypeId}{tc:TC}{i:TypeInfo}{z:Value}{rr ry n:Nat}{k:S -> ah X}(iN:P.underlying t=some (.slice e))(ht:tid tc=e)(hi:P.info? e=some i)(hz:i.zero=some z)
  (iI:i.size=aF tc) (kD:i.bytes <= 65536) (qa:z.cells.size=aF tc) (h:DL N σ d rr ry tc n k=some r):∃di,k di=some r /\ ∀af ρ a w,Rl w0 N af ρ σ a w -> w0.F rr=none -> ∀u v b,ρ rr = .dP u -> ρ ry = .aD b 0 -> v = .slice (some ⟨b,0,none⟩) n n ->
  ∃w' aC ρ' z,(Builtin.append_ #[t,t] ty #[u,v]).run P w = .ok z w'/\Rl w0 N aC ρ' di (a.put (some d) z) w':=by
 unfold DL at h;split at h
 ·rename_i cs E o q l F7 hr;split at h
  ·rename_i qk;subst qk;split at h
   ·rename_i vs τ UD;split at h
    ·rename_i l2 lT;cases U:(Nat.blt d N&&cB (l.length+l2.length))with
     |false=>rw[U]at h;cases h
     | true=>
      rw[U,av]at h;rw[aH]at U;have I3:l.length+l2.length<1073741824:=by simpa [cB]using U.2
      have hd:d<N:=by have:=cH U.1;omega
      refine⟨_,h,λaf ρ a w hR hF u v b alV alW O=>?_⟩
      subst O;have Y:=hR.root ry _ F7;generalize C:aU.aD cs=x at Y;cases Y with
      |sl=>cases C
      |mp=>cases C
      |gh=>cases C
      | aD b' off cells e' fW us cv rY hh hs hc=>
       injection C with C;subst C;rw[alW]at cv;injection cv with e1 e2;subst e1 e2;have oK:fG w w0.heap.size af ρ cs ((List.range cs.length).map us).toArray:=by
        refine⟨by simp,λj x I=>?_⟩
        have D:j<cs.length:=(dW.1 I).1;exact⟨us j,by simp[D],(hc j x I).2⟩
       obtain⟨aC,dK,z0,NP,_,qh,ng,_,_⟩:=Na (w0:=w0) (N:=N) (λj=>by simp[cV]) _ _ _ _ _ _ UD af ρ a w hR _ oK;obtain⟨Dt,alX,jq⟩:=Nl E o n vs l2 lT;have Ae:cs.length=n*aF E:=by rw[<- z0,alX]
       have r5:∀ j,j<cs.length -> (us j).oneCell'=true:=by
        intro j D;have I:=bL (by rw[z0];exact D);obtain⟨u',yB,T⟩:=NP j _ I;have:u'=us j:=by simpa [D]using yB.symm
        rw[<- this];exact T.one
       have UE:b<w.heap.size:=(jH.1 hh).1;have oO:Reads w w.heap.size (aF E) (some ⟨b,0,none⟩) n ((List.range cs.length).map us):=by
        refine⟨by simp[Ae],λhn=>⟨b,0,rfl,UE,λj v O=>?_⟩⟩
        have D:j<cs.length:=by have:=(dW.1 O).1;simpa using this
        have:v=us j:=by simpa [D]using O.symm
        subst this;rw[cell_of_row w b _ cells _ _ hh];simp_all
       have iu:wU w w0.heap.size aC rr l.length E o l2 ((List.range cs.length).map us):=by
        intro Z JD j x I;have D:j<aF E:=by have:=(dW.1 I).1;rwa [mz]at this
        obtain⟨y,Y,hw⟩:=jq Z JD j x I;obtain⟨u',yB,T⟩:=NP _ _ Y;refine⟨u',yB,?_⟩;have e1:(0+(Z*aF E+j)) % aF E=j:=by rw[gy,Nat.add_comm,Nat.add_mul_mod_self_right,Nat.mod_eq_of_lt D]
        have e2:(0+(Z*aF E+j)) / aF E=Z:=by rw[gy,Nat.add_comm,Nat.add_mul_div_right _ _ (qP E),Nat.div_eq_of_lt D,gy]
        simp only[e1,e2]at T;exact T.wk hw
       have DM:=dK.root rr _ (qh _ hr);generalize C:aU.sl (.sl E (o+2) q l)=x at DM;cases DM with
       |aD=>cases C
       |mp=>cases C
       |gh=>cases C
       | sl uu y jY T=>
        injection C with C;subst C;rw[alV]at jY;injection jY with jY;subst jY;obtain⟨v',w',dQ,fJ,mB,gX⟩:=dK.akx (ty:=ty) (c:=n) hF iN ht hi hz iI kD qa T oO (λv O=>by
         obtain⟨j,D⟩:=List.mem_iff_getElem?.1 O;have I6:j<cs.length:=by have:=(dW.1 D).1;simpa using this
         have:v=us j:=by simpa [I6]using D.symm
         rw[this];exact r5 j I6) Dt.symm iu I3
        exact⟨w',dQ,_,v',fJ,mB.set ⟨gX,by simp[de,bT]⟩ hd⟩
    ·cases h
   ·cases h
  ·cases h
 ·cases h
def alY{rr C n:Nat}{tc:TC}:cE λX k=>DL (X:=X) N σ d rr C tc n k:=λX Y k g=>by
 unfold DL
 repeat' first|rfl|refine dB ?_ ?_|split
def alZ{t ty:TypeId}{x y:A}{k:S -> ah X}(h:JF P N σ d t x y k=some r):∃ C,k C=some r /\ ∀ af ρ a w,Rl w0 N af ρ σ a w -> ∀ u v,RA w w0.heap.size af ρ x u -> RA w w0.heap.size af ρ y v ->
  ∃w' aC ρ' z,(Builtin.append_ #[t,t] ty #[u,v]).run P w = .ok z w'/\Rl w0 N aC ρ' C (a.put (some d) z) w':=by
 unfold JF at h;split at h
 ·rename_i e tc ry n r3;obtain⟨iN,ht,i,hi,iI,kD⟩:=By r3;cases E:((zeroOf P e).any (λz=>Nat.beq z.cells.size (aF tc))&&(Nat.blt d N&&Nat.blt n tX))with
  |false=>simp_all
  | true=>
   rw[E,av]at h;rw[aH]at E;obtain⟨z,hz,I⟩:=(Option.any_eq_true _ _).1 E.1;have I:=c8 I;have r4:i.zero=some z:=by unfold zeroOf at hz;simpa [hi]using hz
   have O:=E.2;rw[aH]at O;have hd:d<N:=by have:=cH O.1;omega
   have oa:n<tX:=by have:=cH O.2;omega
   split at h
   ·obtain⟨C,T,U⟩:=abr (w0:=w0) (ty:=ty) iN ht hi r4 iI kD I h
    refine⟨C,T,λaf ρ a w hR u v D Y=>?_⟩
    have D:u = .slice none 0 0:=by cases D.2;rfl
    subst D;obtain⟨b,hb,rfl⟩:=Y;have F7:ry≠d:=by
     rintro rfl;unfold DL at h;split at h
     ·simp_all
     ·cases h
    have hR0:=hR.new (d:=d) (x:=.sl (.sl tc (full tc+2) false [])) (.dP (.slice none 0 0)) (.sl _ _ (bT _ _ _) (.fC _ _ _)) (hR.cT d (.inl hd));exact U _ _ a w hR0 (hR.cT d (.inl hd)) _ _ b (bT _ _ _) ((cz _ _ _ F7).trans hb) (SZ oa)
   ·rename_i rr;cases Z:(Nat.blt rr N || Nat.ble 60000 rr)with
    |false=>simp_all
    | true=>
     rw[Z,av]at h;rw[eZ]at Z;have qh:rr<N \/ 60000 <= rr:=Z.imp (λh=>by have:=cH h;omega) (λh=>cH h);obtain⟨C,T,U⟩:=abr (w0:=w0) (ty:=ty) iN ht hi r4 iI kD I h
     refine⟨C,T,λaf ρ a w hR u v D Y=>?_⟩
     obtain⟨b,hb,rfl⟩:=Y;have cv:ρ rr = .dP u:=by
      have h4:=D.2;simp only[de]at h4;cases hl:ρ rr with
      |aD b o=>simp_all
      |bJ us=>simp_all
      |dP v=>simp_all
     exact U af ρ a w hR (hR.cT rr qh) _ _ b cv hb (SZ oa)
   ·cases h
 ·cases h
def al0{t:TypeId}{x y:A}:cE λX k=>JF (X:=X) P N σ d t x y k:=λX Y k g=>by
 unfold JF
 repeat' first|rfl|exact alY _ _ _ _|refine dB ?_ ?_|split
def al1{t:TypeId}{x y:A}{k:S -> ah X}(h:xm P σ t x y k=some r):∃ di,k di=some r /\ ∀ af ρ a w,Rl w0 N af ρ σ a w -> ∀ u v,RA w w0.heap.size af ρ x u -> RA w w0.heap.size af ρ y v ->
  ∃w' aC,(Instr.storeAt t u v).run P w = .ok () w'/\Rl w0 N aC ρ di a w':=by
 unfold xm at h;split at h
 ·rename_i n xs j i s rr hn rZ;split at h
  ·rename_i hlen;cases UF:xs.all Lf.live with
   |false=>rw[UF]at h;cases h
   | true=>
    rw[UF,av]at h;split at h
    ·rename_i vs τ UD;split at h
     ·rename_i C o' qn l jz;split at h
      ·rename_i rW;split at h
       ·rename_i hi;split at h
        ·rename_i hj;split at h
         ·rename_i e he
          refine⟨_,h,λaf ρ a w hR u v hu hv=>?_⟩
          obtain⟨ad,rfl,E⟩:=hu;obtain⟨hl,r5⟩:=IU rZ UF hv;have oK:fG w w0.heap.size af ρ xs v.cells.toList.toArray:=by simpa using hl
          obtain⟨aC,dK,z0,NP,_,qh,ng,ays,_⟩:=Na (w0:=w0) (N:=N) (λm=>by simp[cV]) _ _ _ _ _ _ UD af ρ a w hR _ oK;simp only[addrAt]at E;split at E
          ·rename_i b n0 c0 cv;split at E
           ·rename_i rY;injection E with E;subst E;have DM:=dK.root rr _ jz;generalize D:aU.sl (.sl C (o'+2) qn l)=x at DM;cases DM with
            |aD=>cases D
            |mp=>cases D
            |gh=>cases D
            | sl uu y jY fP=>
             injection D with D;subst D;rw[cv]at jY;injection jY with jY;subst jY;cases fP with
             |aI _ _ _ _ _ _ _ _ _ ho=>omega
             |gF=>simp at hi
             |gO=>simp at hi
             | own _ _ _ _ _ _ cap cs us NQ hh hs yz hm hc hr=>
              subst rW;have UG:v.cells.size=n:=by rw[hl.1,hlen]
              have zW:i*aF C+aF C <= c0*aF C:=by
               have:(i+1)*aF C <= c0*aF C:=ju _ (by omega);rw[jv]at this;exact this
              have oJ:i*aF C+j+v.cells.toList.length <= cs.size:=by rw[nO,UG,hs];omega
              have O:=M3 w b (i*aF C+j) v.cells.toList;obtain⟨Y,iu,qQ⟩:=IC b (tid C) v.cells.toList (i*aF C+j) w cs hh oJ;have wL:∀ m,Y[m]?=if m<i*aF C+j then cs[m]? else if m<i*aF C+j+n then v.cells[m-(i*aF C+j)]? else cs[m]?:=by
               intro m;have e2:Y[m]?=(splice cs.toList (i*aF C+j) v.cells.toList)[m]?:=by
                rw[show Y[m]?=Y.toList[m]? by simp,qQ];rfl
               rw[e2,zV _ _ _ (by simpa using oJ),nO,UG];simp
              have IN:Y.size=cs.size:=by
               rw[<- nO,qQ];have:=wG cs.toList (i*aF C+j) v.cells.toList (by simpa using oJ);simp only[splice]at this;simp_all
              have UE:b<w.heap.size:=(jH.1 hh).1;have hz:w.heap.size <= (w.setCells b (i*aF C+j) v.cells.toList).heap.size:=Nat.le_of_eq O.size.symm;have UH:∀b',b'<w.heap.size -> aC b'≠some [rr] -> (w.setCells b (i*aF C+j) v.cells.toList).heap[b']?=w.heap[b']?:=λb' _ bQ=>O.block b' (by rintro rfl;exact bQ NQ)
              have IV:w.there b (i*aF C+j) v.cells.size:=by
               intro m s7;refine⟨?_,frozen_of_row w b _ cs _ hh⟩;rw[cell_of_row w b _ cs _ _ hh];simp;omega
              have lS:vs.length=n:=by rw[z0,hlen]
              refine⟨_,aC,S9 w b _ t v IV (by rw[UG];exact hn) r5,dK.xd (ns:=[rr]) (cn:=[]) (fZ:=ρ) (dQ:=aC) ⟨hz,λb' s8 T=>⟨O.block b' ?_,rfl⟩,λ_ _=>rfl,λb' k T=>(dK.dj b' k T).2⟩
               ⟨O.os,O.tape,O.output,hz,λk T hL=>O.block k ?_⟩ (λb' k T=>?_) (λr hr=>by cases hr) (λr0 x D=>?_)⟩
              ·rintro rfl;have:=T _ NQ;simp[gP,dm]at this
              ·rintro rfl;rcases(dK.dj k _ NQ).1 with h1 | h1
               ·exact absurd T (Nat.not_lt.2 h1)
               ·exact h1 hL
              ·have:=dK.dj b' k T;exact⟨this.1,Nat.lt_of_lt_of_le this.2.1 hz,this.2.2⟩
              ·have jw:r0=rr/\x = .sl (.sl C (o'+2) qn (l.set i e)):=by
                simp only[List.lookup]at D;split at D
                next s8=>injection D with D;exact⟨by simpa using s8,D.symm⟩
                ·cases D
               obtain⟨rfl,rfl⟩:=jw;refine .sl _ _ cv ?_
               refine RV.M4 (u:=us) (us:=λ_ m=>v.cells.getD (m-j) undef) (cs:=cs) (xs:=vs) NQ iu (IN.trans hs) yz hm hi (by rw[lS];exact hj) he (λI h' Z x U FA=>?_) (λm x U=>?_)
               ·have va:Z<aF C:=by have:=(dW.1 U).1;rwa [mz]at this
                refine⟨?_,(hr I h' Z x U).under (n:=r0) (.inl (by simp)) hz UH (λ_ _=>rfl)⟩
                rw[wL];have Dg:¬ (¬ I*aF C+Z<i*aF C+j/\I*aF C+Z<i*aF C+j+n):=by
                 rintro⟨h1,h2⟩;rcases Nat.lt_trichotomy I i with dA|heq|FB
                 ·have:(I+1)*aF C <= i*aF C:=ju _ dA;rw[jv]at this;omega
                 ·subst heq;exact FA ⟨rfl,by omega,by omega⟩
                 ·have:(i+1)*aF C <= I*aF C:=ju _ FB;rw[jv]at this;omega
                split
                ·exact hc I h' Z x U
                ·rw[aX];exact hc I h' Z x U
               ·obtain⟨v0,Ad,ua⟩:=NP m x U;have s7:m<n:=by rw[<- lS];exact(dW.1 U).1
                have Ni:v.cells[m]?=some v0:=by simpa using Ad
                have FC:v.cells.getD (j+m-j) undef=v0:=by rw[show j+m-j=m by omega,jt,Ni];rfl
                show Y[_]?=some (v.cells.getD (j+m-j) undef)/\RV _ _ _ _ _ (v.cells.getD (j+m-j) undef);rw[FC,wL,aX,aV];rw[gy]at ua
                refine⟨?_,ua.under (n:=r0) (.inl (by simp)) hz UH (λ_ _=>rfl)⟩
                rw[show i*aF C+(j+m)-(i*aF C+j)=m by omega];exact Ni
           ·cases E
          ·cases E
         ·cases h
        ·cases h
       ·cases h
      ·cases h
     ·cases h
    ·cases h
  ·cases h
 ·cases h
def al2{t:TypeId}{x y:A}:cE λX k=>xm (X:=X) P σ t x y k:=λX Y k g=>by
 unfold xm
 repeat' first|rfl|refine dB ?_ ?_|split
end
def NR(P:Program)(f:Nat)(F:aa Int->ah Int):Prop:=
 ∀ (w:World) (l:aa (T .u8)) (h:Int) (v:Value),F l=some h->RV w w.heap.size (λ_=>none) [] (.sl .u8 0 false l) v->Hd w (λ_=>none)->Calls P f #[v] w λe w'=>
  ∃b off cells t,e = .returned (.pointer (some ⟨b,off,none⟩))/\Below w.heap.size w w'/\w.heap.size<=b/\w'.heap[b]?=some (.cells cells t (0,0))/\cells[off]?=some v/\cells[off+1]?=some (.int .i64 0)/\cells[off+2]?=some (.int .i64 h)
def JH{X:Type}(N:Nat)(σ:S)(d:Nat)(F:aa Int->ah Int)(x:A)(k:S->ah X):ah X:=
 match x with
 | .lf (.v (.sl .u8 0 q l))=>bif Nat.blt d N then (match F l with
  |some h=>k (((σ.drop (1000000000100000+1000*d)).root (1000000000100000+1000*d) (.aD [.v (.sl .u8 0 q l),.v (.int .i64 0),.v (.int .i64 h)])).set d (.aL (1000000000100000+1000*d) 0))
  |none=>none)else none
 |_=>none
structure DN where
 a:Nat
 j:Nat
 t:TC
 run:List Pt->Option (Nat×Nat)
def xo(bJ:Array Value)(a j:Nat):ah Value:=match bJ[a]? with
 |some (.agg us)=>us[j]?
 |some u=>bif Nat.beq j 0 then some u else none
 |none=>none
def NS(P:Program)(f:Nat)(c:DN):Prop:=
 ∀ (args:aa Pt) (p:Nat×Nat),c.run args=some p->∀ (w:World) (bJ:Array Value),r8 w args bJ->Hd w (λ_=>none)->Calls P f bJ w λe w'=>
  ∃A n cap,xo bJ c.a c.j=some (.slice A n cap)/\p.1<=p.2/\p.2<=n/\e = .returned (sliced A p.1 p.2 cap (aF c.t))/\Below w.heap.size w w'
def abt(σ:S)(args:aa Operand)(a j:Nat):ah Lf:=match args[a]? with
 | some x=>(match aJ σ x with
  |.agg cs=>cs[j]?
  |.lf l=>bif Nat.beq j 0 then some l else none
  |_=>none)
 |none=>none
def JI{X:Type}(N:Nat)(σ:S)(d:Nat)(c:DN)(args:aa Operand)(k:S->ah X):ah X:=
 bif Nat.blt d N then vk σ args λps=>(match c.run ps with
  | some p=>(match abt σ args c.a c.j with
   |some (.v (.sl t g _ l))=>if t=c.t then (bif Nat.blt g 2&&Nat.ble p.1 p.2&&Nat.ble p.2 l.length then k (σ.set d (.lf (.v (.sl t g false ((l.take p.2).drop p.1)))))else none)else none
   |_=>none)
  |none=>none)else none
structure xq where
 run:(X:Type)->Nat->S->List A->(S->A->Option X)->Option X
def F8{α β:Type}(f:(X:Type)->(α->β->ah X)->ah X):Prop:=∀(X Y:Type) (k:α->β->ah X) (g:X->ah Y),(f X k).bind g=f Y λa b=>(k a b).bind g
def F8.nZ{α β:Type}{f:(X:Type)->(α->β->ah X)->ah X}(n:F8 f){X:Type}{k:α->β->ah X}{r:X}(h:f X k=some r):∃ a b,k a b=some r/\∀ (X:Type) (k:α->β->ah X),f X k=k a b:=by
 obtain⟨⟨a,b⟩,C,D⟩:=cE.nZ (f:=λX (k:α×β->ah X)=>f X λa b=>k (a,b)) (λX Y k g=>n X Y _ g) (k:=λp=>k p.1 p.2) h;exact⟨a,b,C,λX k=>D X λp=>k p.1 p.2⟩
def uo(P:Program)(f:Nat)(c:xq):Prop:=(∀ N σ xs,F8 λX k=>c.run X N σ xs k)/\
 ∀ [Inhabited Wd] (N:Nat) (σ:S) (xs:aa A) (C:S) (y:A),c.run (S×A) N σ xs (λσ y=>some (σ,y))=some (C,y)->
  ∀ (w0:Wd) (af:bB) (ρ:Nat->Loc) (a:Act) (w:World) (bJ:Array Value),Rl w0 N af ρ σ a w->bJ.size=xs.length->(∀ i,RA w w0.heap.size af ρ ((xs[i]?).getD .undef) (bJ.getD i undef))->
   Calls P f bJ w λe w'=>∃v aC ρ',e = .returned v/\Rl w0 N aC ρ' C a w'/\RA w' w0.heap.size aC ρ' y v
inductive tv where
 |p (c:kP)
 |m (c:qt)
 |n (F:List Int->Option Int)
 |v (c:DN)
 |i (c:xq)
 |d (c:qt)
 |q (c:kP)
 |c (c:qt)
def UI(P:Program)(f:Nat):tv->Prop
 |.p c=>jZ P f c
 |.m c=>yJ P f c
 |.n F=>NR P f F
 |.v c=>NS P f c
 |.i c=>uo P f c
 |.d c=>yJ P f c
 |.q c=>jZ P f c
 |.c c=>yJ P f c
section
variable {P:Program} {w w':World} {w0:Wd} {B N:Nat} {af dQ aC:bB} {ρ fZ ρ':Nat->Loc} {σ:S} {a:Act} {X:Type} {d:Nat} {r:X} {ns cn:aa Nat} {o:Oper}
def abu:∀ (xs:aa Lf),cE λX k=>vo (X:=X) σ ns xs k
 |[]=>λ_ _ _ _=>rfl
 |x::xs=>λX Y k g=>dB ((F3.comp λy=>(abu xs).comp (b:=λX k ys=>k (y.ir::ys)) λ_ _ _ _ _=>rfl) X Y k g) rfl
def abv{x:A}:cE λX k=>um (X:=X) σ ns x k:=λX Y k g=>by
 unfold um
 repeat' first|rfl|exact abu _ _ _ _ _|refine dB ?_ ?_|split
def NT:∀ (ps:aa PK) (xs:aa Operand) (C:aa Mu),cE λX k=>kR (X:=X) σ ns ps xs C k:=λps=>by
 induction ps with
 |nil=>intro xs C X Y k g;cases xs<;>cases C<;>rfl
 | cons p ps D=>
  intro xs C X Y k g;cases xs with
  |nil=>cases p<;>cases C<;>rfl
  | cons x xs=>
   cases p with
   | v b t=>
    refine(abv _ _ _ _).trans (bE _ (funext λp=>dB ?_ rfl))
    split
    ·exact D _ _ _ _ _ _
    ·rfl
   | p t E o=>
    cases C with
    |nil=>rfl
    | cons m C=>cases m with
     |sl=>rfl
     | aD=>
      simp only[kR];split
      ·exact D _ _ _ _ _ _
      ·rfl
   | s t E=>
    cases C with
    |nil=>rfl
    | cons m C=>cases m with
     |aD=>rfl
     | sl=>
      simp only[kR];split
      ·exact D _ _ _ _ _ _
      ·rfl
def al3{C:ah Tmp}{D:gU}:cE λX k=>th (X:=X) N σ C D k:=λX Y k g=>by
 unfold th
 repeat' first|rfl|exact NL _ _ _ _|refine dB ?_ ?_|split
def UJ{C:ah Tmp}{c:qt}{args:aa Operand}:cE λX k=>q9 (X:=X) N σ C c args k:=λX Y k g=>by
 unfold q9;split
 ·refine dB ((NT _ _ _ _ _ _ _).trans (bE _ (funext λx=>?_))) rfl
  split
  ·exact dB (al3 _ _ _ _) rfl
  ·rfl
 ·rfl
def al4{F:aa Int->ah Int}{x:A}:cE λX k=>JH (X:=X) N σ d F x k:=λX Y k g=>by
 unfold JH
 repeat' first|rfl|refine dB ?_ ?_|split
def al5{f:Nat}{x:Operand}{args:Array Operand}{U:Array TypeId}{F:aa Int -> ah Int}{k:S -> ah X}(ho:o.op = .call { callee:=.value (.func f),args,argTypes:=U })(hx:args.toList=[x])(hd:o.dst=some d)(he:enters P f)(hc:NR P f F)(h:JH N σ d F (aJ σ x) k=some r):
  ∃Y,k Y=some r/\nc P w0 N o σ Y:=by
 unfold JH at h;split at h
 ·rename_i q l hq;cases E:Nat.blt d N with
  |false=>rw[E]at h;cases h
  | true=>
   rw[E,av]at h;have Aj:d<N:=cH E;split at h
   ·rename_i Z hhz
    refine⟨_,h,λa w K Q hR hK=>?_⟩
    obtain⟨af,ρ,hR⟩:=hR;have I:=hR.aJ x;rw[hq]at I;have Ad:RV w w.heap.size (λ_=>none) [] (.sl .u8 0 false l) (a.eval x):=by
     have h0:RV w w.heap.size (λ_=>none) [] (.sl .u8 0 q l) (a.eval x):=I.2.ir;cases q with
     |false=>exact h0
     |true=>exact h0.wk (.q _ _ _)
    unfold Oper.wp;rw[Nu w o a f args U ho he,Oper.upon_enter];have Ak:(args.map a.eval) = #[a.eval x]:=by apply Array.ext';rw[Array.toList_map,hx];rfl
    rw[Ak]
    refine(hc w l _ _ hhz Ad (w0.on hR.below (λ_ _ h=>by cases h))).mono λe w' uf=>?_
    obtain⟨b,off,cells,t,rfl,O,hb,hh,oR,DO,qQ⟩:=uf;have hB:=hR.below.size;have iw:b<w'.heap.size:=(jH.1 hh).1;have vu:Rl w0 N (bK af b (some [1000000000100000+1000*d])) ρ σ a w':=by
     refine hR.grow O (λc T=>cz _ _ _ (by omega)) (λc k T D=>?_)
     by_cases e:c=b
     ·subst e;rw[bT]at D;injection D with D
      grind
     ·rw[cz _ _ _ e]at D;have:=(hR.dj c k D).2.1;omega
    have mB:=vu.new (d:=1000000000100000+1000*d) (x:=.aD [.v (.sl .u8 0 q l),.v (.int .i64 0),.v (.int .i64 Z)]) (.aD b off) (by
     refine .aD b off cells t _ (λj=>(#[a.eval x,.int .i64 0,.int .i64 Z]:Array Value).getD j undef) (bT _ _ _) (bT _ _ _) hh (by
      have:=(jH.1 qQ).1;simp;omega) (λj y C=>?_)
     have Jg:eE w' w0.heap.size (bK af b (some [1000000000100000+1000*d])) (bK ρ (1000000000100000+1000*d) (.aD b off)) (.v (.sl .u8 0 q l)) (a.eval x):=by
      refine⟨rfl,I.2.kF O.size (λc T=>⟨O.block c T,cz _ _ _ (by omega)⟩)⟩
     match j,C with
     |0,C=>simp at C;subst C;exact⟨oR,Jg⟩
     |1,C=>simp at C;subst C;exact⟨DO,rfl,.int _ _ _⟩
     |2,C=>simp at C;subst C;exact⟨qQ,rfl,.int _ _ _⟩
     |j+3,C=>simp at C) (hR.cT _ (.inr (by omega)))
    rw[hd];exact hK _ _ ⟨_,_,mB.set ⟨b,off,bT _ _ _,rfl⟩ Aj⟩
   ·cases h
 ·cases h
def al6{f:Nat}{args:Array Operand}{T:Array TypeId}{c:DN}{k:S -> ah X}(ho:o.op = .call { callee:=.value (.func f),args,argTypes:=T })(hd:o.dst=some d)(he:enters P f)(hc:NS P f c)(h:JI N σ d c args.toList k=some r):∃ U,k U=some r/\nc P w0 N o σ U:=by
 unfold JI at h;cases Y:Nat.blt d N with
 |false=>grind
 | true=>
  rw[Y,av]at h;have Aj:d<N:=by have:=cH Y;omega
  obtain⟨ps,E,n8⟩:=aaM (w0:=w0) (N:=N) _ _ h;split at E
  ·rename_i p hp;split at E
   ·rename_i t g q l hl;split at E
    ·rename_i qk;cases hb:(Nat.blt g 2&&Nat.ble p.1 p.2&&Nat.ble p.2 l.length)with
     |false=>grind
     | true=>
      rw[hb,av]at E;rw[aH,aH]at hb;have Z:g<2:=by have:=cH hb.1.1;omega
      have sj:=cH hb.1.2;have h2l:=cH hb.2
      refine⟨_,E,λa w K Q hR hK=>?_⟩
      obtain⟨af,ρ,hR⟩:=hR;unfold Oper.wp;rw[Nu w o a f args T ho he,Oper.upon_enter];have Ak:(args.map a.eval)=(args.toList.map a.eval).toArray:=by apply Array.ext';rw[Array.toList_map]
      rw[Ak]
      refine(hc ps p hp w _ (n8 af ρ a w hR) (w0.on hR.below (λ_ _ h=>by cases h))).mono λe w' uf=>?_
      obtain⟨A,n,cap,C,hle,hn,rfl,O⟩:=uf;have lR:RV w w0.heap.size af [] (.sl t g q l) (.slice A n cap):=by
       unfold abt at hl;split at hl
       ·rename_i x hx;have UK:((args.toList.map a.eval).toArray)[c.a]?=some (a.eval x):=by
         rw[List.getElem?_toArray,fz,hx];rfl
        unfold xo at C;rw[UK]at C;have D:=hR.aJ x;split at hl
        next cs jn=>rw[jn]at D;obtain⟨us,oK,UL⟩:=D;rw[oK]at C;obtain⟨u,I,hr⟩:=UL.2 _ _ hl;simp only at C;rw[C]at I;injection I with I;subst I;exact hr.2
        ·rename_i lf Ai;rw[Ai]at D;cases hj:Nat.beq c.j 0 with
         |false=>grind
         | true=>
          rw[hj]at hl C;injection hl with hl;subst hl;have D:eE w w0.heap.size af ρ (.v (.sl t g q l)) (a.eval x):=D;have lW:∀ us,a.eval x ≠ .agg us:=by
           intro us e;rw[e]at D;cases D.2
          generalize a.eval x=z at C D lW;cases z<;>first|exact absurd rfl (lW _)|(simp only[av,jJ]at C;cases C;exact D.2)|(simp only[av,jJ]at C;cases C)
        ·cases hl
       ·cases hl
      obtain⟨UM,FQ,TB⟩:=lR.part (a:=p.1) (h:=p.2) Z sj h2l;subst qk;rw[hd];have dK:=hR.grow O (aC:=af) (λ_ _=>rfl) (λb k hb hk=>absurd (hR.dj b k hk).2.1 (Nat.not_lt.2 hb));refine hK _ _ ⟨af,ρ,dK.set ⟨by simp[V.aI,Z],?_⟩ Aj⟩;exact UM.kF O.size λb hb=>⟨O.block b hb,rfl⟩
    ·cases E
   ·cases E
  ·cases E
def al7{c:DN}{args:aa Operand}:cE λX k=>JI (X:=X) N σ d c args k:=λX Y k g=>by
 unfold JI
 refine dB ((F5 _ _ _ _).trans (bE _ (funext λps=>?_))) rfl
 repeat' first|rfl|refine dB ?_ ?_|split
/-! Calls of functions that are run in the state of their caller. -/
def JJ{X:Type}(N:Nat)(σ:S)(C:ah Tmp)(c:xq)(xs:aa A)(k:S->ah X):ah X:=c.run X N σ xs λD y=>jm N D C y k
def al8(p:Nat×Nat):A:=.aL p.1 p.2
def JK(σ:S):aa Operand->ah (aa (Nat×Nat))
 |[]=>some []
 | x :: xs=>match aJ σ x,JK σ xs with
  |.aL r j,some ps=>some ((r,j)::ps)
  |_,_=>none
def al9(w:World)(o:Oper)(a:Act)(f:Nat)(cl:Operand)(C:Array Value)(args:Array Operand)(E:Array TypeId)(I:o.op = .call { callee:=.value cl,args,argTypes:=E })(O:a.eval cl = .func (.func f) #[] C)(T:enters P f):
  (execOp a.eval o).run P w = .ok (.enter f (args.map a.eval++C)) w:=by
 obtain⟨fn,U,Y,D⟩:=T;have Z:¬ fn.name = "runtime.NumGoroutine":=by simpa using Y
 have h3':¬ fn.body=none:=by intro e;rw[e]at D;cases D
 simp[execOp,I,resolve,O,Deferred.ofValue,invoke,callFunc,Sem.run,U,Z,h3']
def NU:A->ah (Nat×aa A)
 |.fn f cap=>some (f,cap.map al8)
 |.qf f cs=>some (f,[.kG cs])
 |_=>none
def ama{x:A}{f:Nat}{ex:aa A}{u:Value}(h:NU x=some (f,ex))(T:RA w B af ρ x u):∃ D:Array Value,u = .func (.func f) #[] D/\D.size=ex.length /\ ∀ (j:Nat) y,ex[j]?=some y -> RA w B af ρ y (D.getD j undef):=by
 unfold NU at h;split at h
 ·rename_i f' cap;injection h with h;injection h with E I;subst E I;obtain⟨D,U,Y,Z⟩:=T
  refine⟨D,U,by simp[Y],λj y C=>?_⟩
  rw[fz]at C;cases O:cap[j]? with
  |none=>simp_all
  | some p=>
   rw[O]at C;injection C with C;subst C;obtain⟨b,off,E,I⟩:=Z _ p O;rw[jt,I];exact⟨b,off,E,rfl⟩
 ·injection h with h;injection h with E I;subst E I;obtain⟨pv,e,O⟩:=T
  refine⟨#[pv],e,rfl,λj y C=>?_⟩
  rcases j with _|j
  ·injection C with C;subst C;exact O
  ·cases C
 ·cases h
def abw{f:Nat}{cl:Operand}{ex:aa A}{args:Array Operand}{Z:Array TypeId}{c:xq}{k:S->ah X}(ho:o.op = .call { callee:=.value cl,args,argTypes:=Z })(Ae:NU (aJ σ cl)=some (f,ex))(he:enters P f)(hc:uo P f c)
  (h:JJ N σ o.dst c (args.toList.map (aJ σ)++ex) k=some r):∃di,k di=some r/\nc P w0 N o σ di:=by
 unfold JJ at h
 haveI:Inhabited Wd:=⟨w0⟩
 obtain⟨tq,y,C,D⟩:=(hc.1 _ _ _).nZ h;have Jm:=hc.2 _ _ _ _ _ (D _ _);have step:∀ a w K Q,R w0 N σ a w->(∀ v w' aC ρ',Rl w0 N aC ρ' tq a w'->RA w' w0.heap.size aC ρ' y v->K (a.put o.dst v) w')->o.wp P a w K Q:=by
  intro a w K Q hR E;obtain⟨af,ρ,hR⟩:=hR;obtain⟨O,hv,hs,lS⟩:=ama Ae (hR.aJ cl);unfold Oper.wp;rw[al9 w o a f cl O args Z ho hv he,Oper.upon_enter]
  refine(Jm w0 af ρ a w _ hR (by simp[hs]) λi=>?_).mono λe w' uf=>?_
  ·by_cases hi:i<args.size
   ·have e1:(args.toList.map (aJ σ)++ex)[i]?=some (aJ σ args[i]):=by
     rw[List.getElem?_append_left (by simpa using hi),fz,Array.getElem?_toList,Array.getElem?_eq_getElem hi];rfl
    have T:(args.map a.eval++O).getD i undef=a.eval args[i]:=by
     rw[jt,Array.getElem?_append_left (by simpa using hi)];simp[hi]
    rw[e1,T];exact hR.aJ _
   ·have e0:(args.toList.map (aJ σ)++ex)[i]?=ex[i-args.size]?:=by
     rw[List.getElem?_append_right (by simp;omega)];simp
    rw[e0];cases hp:ex[i-args.size]? with
    |none=>trivial
    | some p=>
     have T:(args.map a.eval++O).getD i undef=O.getD (i-args.size) undef:=by
      rw[jt,Array.getElem?_append_right (by simp;omega),jt];simp
     rw[T];exact lS _ p hp
  ·obtain⟨v,aC,ρ',rfl,I,U⟩:=uf;exact E v w' aC ρ' I U
 unfold jm at C;split at C
 ·rename_i D
  refine⟨tq,C,λa w K Q hR E=>step a w K Q hR λv w' aC ρ' I _=>?_⟩
  rw[D];exact E _ _ ⟨aC,ρ',I⟩
 ·rename_i d D;cases Y:Nat.blt d N with
  |false=>rw[Y]at C;cases C
  | true=>
   rw[Y,av]at C
   refine⟨_,C,λa w K Q hR E=>step a w K Q hR λv w' aC ρ' I U=>?_⟩
   rw[D];exact E _ _ ⟨aC,ρ',I.set U (by have:=cH Y;omega)⟩
def abx:∀ (xs:aa Operand) (ps:aa (Nat×Nat)),JK σ xs=some ps -> ps.length=xs.length /\ ∀ af ρ a w,Rl w0 N af ρ σ a w -> ∀ (j:Nat) p,ps[j]?=some p -> ∃ b off,ρ p.1 = .aD b off/\(xs.map a.eval)[j]?=some (.pointer (some ⟨b,off+p.2,none⟩))
 | [],ps,h=>by
  simp only[JK,jJ]at h;simp_all
 | x :: xs,ps,h=>by
  unfold JK at h;split at h
  ·rename_i rr j I O T;injection h with h;subst h;obtain⟨U,Y⟩:=abx xs I T
   refine⟨by simp[U],λaf ρ a w hR C p D=>?_⟩
   cases C with
   | zero=>
    simp at D;subst D;have E:=hR.aJ x;rw[O]at E;obtain⟨b,off,Z,e2⟩:=E;simp_all
   |succ C =>grind
  ·cases h
end
def A.B0(q s n:Nat):A->A
 |.lf (.own [C])=>bif Nat.beq C q then .view [q] s 0 n else .lf (.own [C])
 |x=>x
def S.B0(σ:S)(p:Nat×Nat×Nat):S:=⟨λk=>(σ.t k).B0 p.1 p.2.1 p.2.2,σ.m⟩
def UO:aa (Nat×Nat×Nat)->S->S
 |[],σ=>σ
 |p::l,σ=>UO l (σ.B0 p)
def UP(c0 g:Nat):Mu->aa (Nat×Nat×Nat)
 |.sl q (.sl t _ _ l)=>bif Nat.ble 1000000 g&&Nat.blt q c0 then [(q,aF t,l.length)]else []
 |_=>[]
def JL(c0:Nat):aa PK->aa Mu->aa (Nat×Nat×Nat)
 |.v _ _::ps,C=>JL c0 ps C
 |.p _ _ _::ps,_::C=>JL c0 ps C
 |.s _ g::ps,D::C=>UP c0 g D++JL c0 ps C
 |_,_=>[]
def JM{X:Type}(N:Nat)(σ:S)(C:ah Tmp)(c:qt)(args:aa Operand)(k:S->ah X):ah X:=
 match kQ σ c.ps args with
 |some D=>q9 N σ C c args λE=>k (UO (JL (jy C) c.ps D) E)
 |none=>none
section
variable {P:Program} {w w':World} {w0:Wd} {B N:Nat} {af dQ aC:bB} {ρ fZ ρ':Nat->Loc} {σ:S} {a:Act} {X:Type} {d:Nat} {r:X} {o:Oper}
def Rl.B0{p:Nat×Nat×Nat}{ad:ah Addr}{c:Nat}(h:Rl w0 N af ρ σ a w)(E:ρ p.1 = .dP (.slice ad p.2.2 c)):Rl w0 N af ρ (σ.B0 p) a w:=by
 refine⟨h.below,h.dj,h.root,λk=>?_,h.size,h.defers,h.fix,h.cT⟩
 have C:=h.tmp k;show RA _ _ _ _ ((σ.t k).B0 p.1 p.2.1 p.2.2) _;generalize σ.t k=x at C;unfold A.B0;split
 ·rename_i I;cases hb:Nat.beq I p.1 with
  |false=>exact C
  | true=>
   obtain rfl:=c8 hb;have D:=C.2;simp only[de,E]at D;injection D with D;refine⟨ad,p.2.2,c,by simp[de,E],Nat.zero_le _,dg _,?_⟩;rw[<- D];cases ad<;>simp[sliced,Addr.add]
 ·exact C
def aby:∀ (l:aa (Nat×Nat×Nat)) (σ:S),Rl w0 N af ρ σ a w->(∀ p∈l,∃ A c,ρ p.1 = .dP (.slice A p.2.2 c))->Rl w0 N af ρ (UO l σ) a w
 |[],σ,h,_=>h
 | p :: l,σ,h,hl=>by
  obtain⟨A,c,C⟩:=hl p (.head _);exact aby l _ (h.B0 C) λp C=>hl p (.tail _ C)
def amb{c0 g:Nat}{D:Mu}{p:Nat×Nat×Nat}(h:p∈UP c0 g D):∃ q t o C l,D = .sl q (.sl t o C l)/\p=(q,aF t,l.length)/\q<c0:=by
 unfold UP at h;split at h
 ·rename_i q t o C l;cases hb:(Nat.ble 1000000 g&&Nat.blt q c0)with
  |false=>simp_all
  | true=>
   rw[hb]at h;rw[aH]at hb;exact⟨q,t,o,C,l,rfl,gz.1 h,cH hb.2⟩
 ·cases h
def NV{c0:Nat}{p:Nat×Nat×Nat}:∀ (ps:aa PK) (C:aa Mu),p∈JL c0 ps C -> ∃ q t o D l,Mu.sl q (.sl t o D l)∈C/\p=(q,aF t,l.length)/\q<c0
 |.v _ _::ps,C,h=>NV ps C h
 |.p _ _ _::ps,O::C,h=>let ⟨q,t,o,D,l,I,E⟩:=NV ps C h;⟨q,t,o,D,l,.tail _ I,E⟩
 | .s _ g :: ps,O :: C,h=>by
  rcases gE.1 h with h|h
  ·obtain⟨q,t,o,D,l,rfl,E⟩:=amb h;exact⟨q,t,o,D,l,.head _,E⟩
  ·obtain⟨q,t,o,D,l,I,E⟩:=NV ps C h;exact⟨q,t,o,D,l,.tail _ I,E⟩
def RV.amc{q:aa Nat}{t:TC}{g:Nat}{C:Bool}{l:aa (T t)}{v:Value}(h:RV w B af q (.sl t g C l) v):∃ A c,v = .slice A l.length c:=by
 cases h<;>exact⟨_,_,rfl⟩
def amd{f:Nat}{args:Array Operand}{U:Array TypeId}{c:qt}{k:S->ah X}(Y:o.op = .call { callee:=.value (.func f),args,argTypes:=U })(Z:enters P f)(hc:yJ P f c)(h:JM N σ o.dst c args.toList k=some r):∃ E,k E=some r/\nc P w0 N o σ E:=by
 unfold JM at h;split at h
 ·rename_i Un I;obtain⟨tq,NW,cn,h1,D,_,h4,h5⟩:=Uk (w0:=w0) Y Z hc h;rw[I]at D;injection D with D;subst D
  refine⟨_,h1,λa w K Q hR hK=>?_⟩
  obtain⟨af,ρ,hR⟩:=hR
  refine h5 a w K Q af ρ hR λv w' dQ fZ yP dK hv _ cv=>hK _ _ ⟨dQ,yP,aby _ _ dK λp hp=>?_⟩
  obtain⟨q,t,oo,qn,l,O,rfl,hq⟩:=NV _ _ hp;have lD:=(Nz _ _ _ I _ O).1;have T:=hR.root q _ lD;generalize C:aU.sl _=z at T;cases T with
  |aD=>cases C
  |mp=>cases C
  |gh=>cases C
  | sl u y TJ hr=>
   injection C with C;subst C;obtain⟨A,c,rfl⟩:=hr.amc;exact⟨A,c,(cv q hq).trans ((hv.fY q (h4 _ O)).trans TJ)⟩
 ·cases h
def ame{C:ah Tmp}{c:qt}{args:aa Operand}:cE λX k=>JM (X:=X) N σ C c args k:=λX Y k g=>by
 unfold JM;split
 ·exact UJ _ _ _ _
 ·rfl
end
def bB.un(af:bB)(q:Nat):bB:=λb=>match af b with
 |some k=>bif cV q k then none else some k
 |none=>none
def JN{X:Type}(P:Program)(σ:S)(q s i j:Nat)(t:TypeId)(x:A)(k:S->ah X):ah X:=
 match σ.m q with
 |some (.sl (.sl tc (o+2) C l))=>bif Nat.beq s (aF tc)&&Nat.beq (full tc) 0 then sZ P (σ.drop q) t (x.drop q) (.lf (.v (.sl tc 0 false ((l.take j).drop i)))) k else none
 |_=>none
section
variable {P:Program} {w w':World} {w0:Wd} {B N:Nat} {af aC:bB} {ρ ρ':Nat->Loc} {σ:S} {a:Act} {X:Type} {d q:Nat} {r:X} {o:Oper} {y:V}
def amf(C:∀ b,af b≠some []):Rel q af (af.un q):=
 ⟨C,λb h=>by simp[bB.un,h],λb k h D=>by simp[bB.un,h,D]⟩
def RV.ice{tc:TC}{g:Nat}{U:Bool}{l:aa (T tc)}{A:ah Addr}{n c:Nat}(D:RV w B af [q] (.sl tc (g+2) U l) (.slice A n c))(hf:full tc=0):RV w B (af.un q) [] (.sl tc 0 false l) (.slice A n c)/\n=l.length:=by
 cases D with
 |fC=>exact⟨.fC _ _ _,rfl⟩
 |gF=>grind
 |gO=>grind
 |aI _ _ _ _ _ _ _ _ _ ho=>omega
 | own=>
  rename_i b cs u hl I hc D hs Y hm;have O:∀ (i:Nat) (h:i<l.length) (j:Nat) (x:V),(enc tc 0 l[i])[j]?=some x -> (enc tc g l[i])[j]?=some x/\x.plain=true:=by
   intro i h j x C;obtain⟨y,E,rfl⟩:=zR tc g l[i] j x C;have Z:=MW tc g l[i] y (iR E);cases y with
   | sl t' o' q' l'=>
    have:=cH (show Nat.ble _ _=true from Z);omega
   | nil=>
    have:=SX tc g l[i] _ (iR E);cases this
   |_=>exact⟨E,rfl⟩
  refine⟨.aI _ _ _ _ _ b 0 c u (by omega) (by simp[bB.un,hl,cV]) (jH.1 I).1 (by omega) Y (λi h j x C=>?_) (λi h j x C=>?_),rfl⟩
  ·rw[gy,cell_of_row w b _ cs _ _ I];simp_all
  ·exact(D i h j x (O i h j x C).1).wK (O i h j x C).2
def amg{s i j:Nat}{t:TypeId}{x:A}{k:S -> ah X}(h:JN P σ q s i j t x k=some r):∃ E,k E=some r /\ ∀ af ρ a w,Rl w0 N af ρ σ a w -> ∀ u v,RA w w0.heap.size af ρ x u -> RA w w0.heap.size af ρ (.view [q] s i j) v ->
  ∃w' aC,(Instr.storeAt t u v).run P w = .ok () w'/\Rl w0 N aC ρ E a w':=by
 unfold JN at h;split at h
 ·rename_i tc g Z l hm;cases hb:(Nat.beq s (aF tc)&&Nat.beq (full tc) 0)with
  |false=>rw[hb]at h;cases h
  | true=>
   rw[hb,av]at h;rw[aH]at hb;obtain rfl:=c8 hb.1;have hf:=c8 hb.2;obtain⟨E,h1,hs⟩:=aal (w0:=w0) (N:=N) h
   refine⟨E,h1,λaf ρ a w hR u v hu hv=>?_⟩
   have I:Rel q af (af.un q):=amf hR.Aa;have vu:=hR.rel I (λb k C=>by
    unfold bB.un at C;cases hl:af b with
    |none=>rw[hl]at C;cases C
    | some O=>
     rw[hl]at C;simp only at C;cases T:cV q O with
     |true=>rw[T]at C;cases C
     | false=>
      rw[T]at C;injection C with C;subst C;exact⟨⟨_,rfl⟩,(hR.dj b O hl).2.2⟩)
   obtain⟨A,n,c,U,h3,h4,rfl⟩:=hv;have Y:=hR.root q _ hm;generalize D:aU.sl (.sl tc (g+2) Z l)=z at Y;cases Y with
   |aD=>cases D
   |mp=>cases D
   |gh=>cases D
   | sl vq y cv hr=>
    injection D with D;subst D;have hvq:vq = .slice A n c:=by
     simp only[de,cv]at U;injection U
    subst hvq;obtain⟨h5,h6⟩:=hr.ice hf;have h7:=(h5.part (by omega) h3 (by omega)).1;obtain⟨w',fJ,mB⟩:=hs _ _ _ _ vu u _ (hu.rel I) (show RA _ _ _ _ (.lf (.v _)) _ from ⟨rfl,h7⟩);exact⟨w',_,fJ,mB⟩
 ·cases h
def amh{q s i j:Nat}{t:TypeId}{x:A}:cE λX k=>JN (X:=X) P σ q s i j t x k:=λX Y k g=>by
 unfold JN
 repeat' first|rfl|exact abk _ _ _ _|refine dB ?_ ?_|split
def F9{X:Type}(P:Program)(σ:S)(t:TypeId)(x lo hi C:A)(k:ah X):ah X:=
 match x,lo,hi,C with
 | .lf (.own q),.lf (.v (.int _ a)),.lf (.v (.int _ b)),.lf (.v (.int _ c))=>(match sY P t with
  | some e=>(match kO P e with
   | some _=>kI σ.m q λy=>(match y with
    |.sl _ _ _ l=>if 0<=a/\a<=b/\b<=c/\c<=(l.length:Int)then k else none
    |_=>none)
   |none=>none)
  |none=>none)
 |_,_,_,_=>none
def ami{t:TypeId}{x lo hi Y:A}{k:ah X}(h:F9 P σ t x lo hi Y k=some r):k=some r /\
  ∀af ρ a w,Rl w0 N af ρ σ a w -> ∀u I O T,RA w w0.heap.size af ρ x u -> RA w w0.heap.size af ρ lo I -> RA w w0.heap.size af ρ hi O -> RA w w0.heap.size af ρ Y T -> ∃v,(Instr.sliceAt t u (some I) (some O) (some T)).run P w = .ok v w:=by
 unfold F9 at h;split at h
 ·rename_i q kl a kh b km c;split at h
  ·rename_i e U;split at h
   ·rename_i n Z;obtain⟨y0,TD,C⟩:=vc q _ h;split at C
    ·rename_i tc g qn xs;split at C
     ·rename_i hb
      refine⟨C,λaf ρ ac w hR u I O T hu hl hh hm=>?_⟩
      rw[hl.2.iS,hh.2.iS,hm.2.iS];have iN:P.underlying t=some (.slice e):=by
       unfold sY at U;split at U
       ·grind
       ·cases U
      have jq:P.elem t=e:=by simp[Program.elem,iN]
      have abz:P.underlying t=some (.slice (P.elem t)):=by rw[jq];exact iN
      have hss:(sizeOf (P.elem t)).run P w = .ok n w:=by
       unfold kO at Z;cases hi:P.info? e with
       |none=>grind
       | some i=>
        have:i.size=n:=by simpa [hi]using Z
        simp[sizeOf,typeInfo,jq,hi,this]
      obtain⟨v0,Ad,jw⟩:=TD.ok hR.root;have gX:∃ D n c,u = .slice D n c:=by
       have:=hu.1;cases u<;>first|cases this;done|exact⟨_,_,_,rfl⟩
      obtain⟨D,n',c',rfl⟩:=gX;have E:=hu.2;rw[Ad]at E;injection E with E;subst E;have hf:RV w 0 (λ_=>none) [] (.sl tc 0 qn xs) (.slice D n' c'):=jw.ir;obtain⟨_,FQ,TB⟩:=RV.part (w:=w) hf (a:=0) (h:=xs.length) (by omega) (by omega) (by omega);refine⟨sliced D a.toNat b.toNat c.toNat n,?_⟩;rw[run_sliceAt_slice w t _ _ _ _ abz,run_slice_lhm w t D n' c' abz kl kh km a b c hb.1 hb.2.1 hb.2.2.1 (by omega),hss];rfl
     ·cases C
    ·cases C
   ·cases h
  ·cases h
 ·cases h
end
section
variable {P:Program} (w:World)
end
section
variable {P:Program} {w w':World} {w0:Wd} {B N:Nat} {af aC:bB} {ρ ρ':Nat->Loc} {σ:S} {a:Act} {X:Type} {d:Nat} {r:X}
end
def nt(l:aa (Int×Bool))(k:Int):Bool:=match l with
 |[]=>false
 |p::ps=>bif k==p.1 then p.2 else nt ps k
def mC(l:aa (Int×Bool))(k:Int)(v:Bool):aa (Int×Bool):=match l with
 |[]=>[(k,v)]
 |p::ps=>bif k==p.1 then (k,v)::ps else p::mC ps k v
def Ga(P:Program)(t:TypeId):Bool:=match P.underlying t with
 | some (.map k e)=>(match P.underlying k with
  |some (.int .i64)=>true
  |_=>false)&&(match zeroOf P e with
  |some (.bool false)=>true
  |_=>false)
 |_=>false
def UQ{X:Type}(N:Nat)(σ:S)(d:Nat)(k:S->ah X):ah X:=iU N σ d (.mp []) (.pk d tX) k
def DP{X:Type}(P:Program)(σ:S)(t:TypeId)(x i:A)(k:A->ah X):ah X:=
 match x,i with
 | .pk r n,.lf (.v (.int .i64 key))=>bif Nat.beq n tX&&Ga P t then (match σ.m r with
  |some (.mp l)=>k (.lf (.v (.bool (nt l key))))
  |_=>none)else none
 |_,_=>none
def DR{X:Type}(P:Program)(σ:S)(t:TypeId)(x i v:A)(k:S->ah X):ah X:=
 match x,i,v with
 | .pk r n,.lf (.v (.int .i64 key)),.lf (.v (.bool b))=>bif Nat.beq n tX&&Ga P t then (match σ.m r with
  |some (.mp l)=>k ⟨σ.t,bK σ.m r (some (.mp (mC l key b)))⟩
  |_=>none)else none
 |_,_,_=>none
section
variable {P:Program} {w w':World} {w0:Wd} {B N:Nat} {af aC:bB} {ρ ρ':Nat->Loc} {σ:S} {a:Act} {X:Type} {d:Nat} {r:X} {o:Oper}
def abA{t:TypeId}(h:Ga P t=true):∃ k e i,P.underlying t=some (.map k e)/\P.underlying k=some (.int .i64)/\P.info? e=some i/\i.zero=some (.bool false):=by
 unfold Ga at h;split at h
 ·rename_i k e D;rw[aH]at h;obtain⟨E,I⟩:=h;have O:P.underlying k=some (.int .i64):=by
   grind
  have C:zeroOf P e=some (.bool false):=by
   grind
  unfold zeroOf at C;cases hi:P.info? e with
  |none=>simp_all
  |some i =>grind
 ·cases h
def Rl.newObj{ob:Obj}{x:aU}{ρ':Nat -> Loc}(h:Rl w0 N af ρ σ a w)(D:w0.F d=none)(E:∀ r,r≠d -> ρ' r=ρ r)
  (I:eV (w.alloc ob) w0.heap.size (bK af w.heap.size (some [d])) ρ' d x):Rl w0 N (bK af w.heap.size (some [d])) ρ' ((σ.drop d).root d x) a (w.alloc ob):=by
 refine h.Bv D (kH.aas w0 w _ h.below.size) ⟨by simp,λb hb _=>Below.heap_alloc w _ b hb,λb hb=>cz _ _ _ (by omega),λb hb=>(h.dj b [] hb).2.2 rfl⟩ (λb k hb C=>?_) E I
 by_cases e:b=w.heap.size
 ·subst e;rw[bT]at C;injection C with C;subst C;simp_all
 ·rw[cz _ _ _ e]at C;have:=(h.dj b k C).2.1;omega
def amj{t:TypeId}{k:S -> ah X}(h:UQ N σ d k=some r):∃ C,k C=some r /\ ∀ af ρ a w,Rl w0 N af ρ σ a w -> ∃ w' aC ρ' v,(Instr.makeMap t none).run P w = .ok v w'/\Rl w0 N aC ρ' C (a.put (some d) v) w':=by
 obtain⟨D,h⟩:=qj h
 refine⟨_,h,λaf ρ a w hR=>?_⟩
 have E:(Instr.makeMap t none).run P w = .ok _ _:=rfl
 refine⟨_,bK af _ _,bK ρ d _,_,E,(hR.newObj (hR.cT d (.inl D)) (λr I=>cz _ _ _ I) ?_).set ⟨w.heap.size,bT _ _ _,(S0 _).symm⟩ D⟩
 exact .mp _ 0 #[] [] (bT _ _ _) (bT _ _ _) (heap_alloc_new w _) rfl
def amk:cE λX k=>UQ (X:=X) N σ d k:=NK
def aml{t:TypeId}{x i:A}:cE λX k=>DP (X:=X) P σ t x i k:=λX Y k g=>by
 unfold DP
 repeat' first|rfl|refine dB ?_ ?_|split
def amm{t:TypeId}{x i v:A}:cE λX k=>DR (X:=X) P σ t x i v k:=λX Y k g=>by
 unfold DR
 repeat' first|rfl|refine dB ?_ ?_|split
def DS(l:aa (Int×Bool)):aa (Value×Value):=l.map λp=>(.int .i64 p.1,.bool p.2)
def UR:∀ (C:aa MapEntry) (l:aa (Int×Bool)) (k:Int) (n:Nat),C.map (λe=>(e.key,e.val))=DS l ->
  (Instr.findNow (.int .i64) (.int .i64 k) C n=some none/\nt l k=false /\ ∀v,mC l k v=l++[(k,v)]) \/
  (∃i b,Instr.findNow (.int .i64) (.int .i64 k) C n=some (some (n+i,.bool b))/\nt l k=b /\ ∃h:i<C.length,C[i].key = .int .i64 k /\ ∀v,DS (mC l k v)=(C.modify i λe=>{ e with key:=.int .i64 k,val:=.bool v }).map (λe=>(e.key,e.val)))
 |[],[],k,n,_=>.inl ⟨rfl,rfl,λv=>rfl⟩
 |[],_::_,k,n,h=>by cases h
 |_::_,[],k,n,h=>by cases h
 | e :: C,p :: l,k,n,h=>by
  have h:(e.key,e.val) :: C.map (λe=>(e.key,e.val))=(.int .i64 p.1,.bool p.2) :: DS l:=h;injection h with O E;injection O with I T;have D:Instr.sameNow (.int .i64) (.int .i64 k) e.key=some (k==p.1):=by
   rw[I];simp[Instr.sameNow]
  cases hb:(k==p.1)with
  | true=>
   have U:k=p.1:=by simpa using hb
   refine .inr ⟨0,p.2,?_,by simp only[nt,hb,av],by simp,by simp[I,U],λv=>?_⟩
   ·simp only[Instr.findNow,D,hb,T];rfl
   ·simp only[mC,hb];simp;show _::DS l=_;rw[E]
  | false=>
   rcases UR C l k (n+1) E with ⟨a1,a2,a3⟩|⟨i,b,a1,a2,hi,a3,a4⟩
   ·refine .inl ⟨?_,by simp[nt,hb,ax,a2],λv=>by simp only[mC,hb,a3];rfl⟩
    simp[Instr.findNow,D,hb];exact a1
   ·refine .inr ⟨i+1,b,?_,by simp only[nt,hb,ax,a2],by simpa using hi,by simpa using a3,λv=>?_⟩
    ·simp[Instr.findNow,D,hb]
     grind
    ·simp only[mC,hb];simp;show _ :: DS _=_
     grind
def NX{kt:TypeId}{k:Int}{C:aa MapEntry}{z:ah (Nat×Value)}(D:P.underlying kt=some (.int .i64))(h:Instr.findNow (.int .i64) (.int .i64 k) C 0=some z):(Instr.findKey kt (.int .i64 k) C).run P w = .ok z w:=by
 unfold Instr.findKey;simp only[gW,iY D,nQ,h];rfl
def amn{t:TypeId}{x i:A}{k:A -> ah X}(h:DP P σ t x i k=some r):∃ v,k v=some r/\oM (λX k=>DP (X:=X) P σ t x i k) v /\ ∀ af ρ a w,Rl w0 N af ρ σ a w -> ∀ u z,RA w w0.heap.size af ρ x u -> RA w w0.heap.size af ρ i z ->
  ∃y,(Instr.lookup t u z false).run P w = .ok y w/\RA w w0.heap.size af ρ v y:=by
 unfold DP at h;split at h
 ·rename_i rr n key;cases hb:(Nat.beq n tX&&Ga P t)with
  |false=>grind
  | true=>
   rw[hb,av]at h;split at h
   ·rename_i l I
    refine⟨_,h,λX k=>by simp only[DP,hb,av,I],λaf ρ a w hR u z U D=>?_⟩
    rw[aH]at hb;obtain⟨kt,Y,ti,Z,E,hi,Gb⟩:=abA hb.2;have hn:=c8 hb.1;subst hn;obtain⟨b,cv,rfl⟩:=U;have D:z = .int .i64 key:=by
     have h2:=D.2;cases h2;rfl
    subst D;have O:=hR.root rr _ I;generalize C:aU.mp l=y at O;cases O with
    |aD=>cases C
    |sl=>cases C
    |gh=>cases C
    | mp b' c es l' T hl hh NY=>
     injection C with C;subst C;rw[cv]at T;injection T with e1 _;subst e1;refine⟨.bool (nt l key),?_,rfl,.bool _ _⟩;rw[S0];unfold Instr.lookup;simp only[gW,iY Z,nQ,MapKept.run_getObj_map hh,Sem.run_pure];rw[MapKept.run_checkKey (k:=.int .i64 key) E rfl];simp only[nQ];rcases UR es.toList l key 0 NY with ⟨a1,a2,_⟩|⟨i,v,a1,a2,_⟩
     ·rw[NX E a1];have FI:(zeroValue Y).run P w = .ok (.bool false) w:=by simp[zeroValue,typeInfo,hi,Gb]
      simp_all
     ·rw[NX E a1];simp only[ a2,gW];rfl
   ·cases h
 ·cases h
def amo{t:TypeId}{x i v:A}{k:S -> ah X}(h:DR P σ t x i v k=some r):∃ T,k T=some r/\oM (λX k=>DR (X:=X) P σ t x i v k) T /\ ∀ af ρ a w,Rl w0 N af ρ σ a w -> ∀ u z y,RA w w0.heap.size af ρ x u -> RA w w0.heap.size af ρ i z -> RA w w0.heap.size af ρ v y ->
  ∃w',(Instr.mapUpdate t u z y).run P w = .ok () w'/\Rl w0 N af ρ T a w':=by
 unfold DR at h;split at h
 ·rename_i rr n key U;cases hb:(Nat.beq n tX&&Ga P t)with
  |false=>grind
  | true=>
   rw[hb,av]at h;split at h
   ·rename_i l hm
    refine⟨_,h,λX k=>by simp only[DR,hb,av,hm],λaf ρ a w hR u z y hu Y C=>?_⟩
    rw[aH]at hb;obtain⟨kt,et,ti,ht,Z,hi,Gb⟩:=abA hb.2;have hn:=c8 hb.1;subst hn;obtain⟨b,cv,rfl⟩:=hu;have Y:z = .int .i64 key:=by
     have h2:=Y.2;cases h2;rfl
    subst Y;have C:y = .bool U:=by
     have h2:=C.2;cases h2;rfl
    subst C;have fk:=hR.root rr _ hm;generalize D:aU.mp l=y at fk;cases fk with
    |aD=>cases D
    |sl=>cases D
    |gh=>cases D
    | mp b' c es l' jY hl O NY=>
     injection D with D;subst D;rw[cv]at jY;injection jY with e1 _;subst e1;have UE:b<w.heap.size:=(jH.1 O).1;have xk:∀ (E:Array MapEntry) (I:Nat),E.toList.map (λe=>(e.key,e.val))=DS (mC l key U) -> Rl w0 N af ρ ⟨σ.t,bK σ.m rr (some (.mp (mC l key U)))⟩ a { w with heap:=w.heap.setIfInBounds b (.map E I) }:=by
      intro E I amp;have hW:yw w { w with heap:=w.heap.setIfInBounds b (.map E I) } b:=by
       refine⟨by simp,rfl,rfl,rfl,λk hk=>?_⟩
       show _[k]?=_;rw[Array.getElem?_setIfInBounds_ne (Ne.symm hk)]
      have hC:tZ w { w with heap:=w.heap.setIfInBounds b (.map E I) } af ρ:=by
       intro k ad v ha hv gX;obtain⟨j',i',s',q,rfl,hq,_,_,hh'⟩:=De k ad ha;have bQ:ad.block≠b:=by
        grind
       exact(World.cell?_of_block (hW.block _ bQ)).trans hv
      refine hR.wrote hW hl hC λr' y C=>?_
      by_cases qh:r'=rr
      ·subst qh;rw[bT]at C;injection C with C;subst C;refine .mp b I E _ cv hl ?_ amp;simp_all
      ·rw[cz _ _ _ qh]at C;exact(hR.root r' y C).wrote hW hl hC (aad qh)
     rw[S0];unfold Instr.mapUpdate;simp only[gW,iY ht,nQ,MapKept.run_getObj_map O,Sem.run_pure];rw[MapKept.run_checkKey (k:=.int .i64 key) Z rfl];simp only[nQ];rcases UR es.toList l key 0 NY with ⟨a1,a2,a3⟩|⟨i,v,a1,a2,JD,a3,a4⟩
     ·rw[NX Z a1];simp;rw[MapKept.run_setObj_map _ O];refine⟨_,rfl,xk _ _ ?_⟩;rw[a3];simp only[Array.toList_push,mZ,NY,DS];rfl
     ·rw[NX Z a1];simp only[nQ,gy];have Uu:(es[i]?.map (·.key)).getD (.int .i64 key) = .int .i64 key:=by
       grind
      rw[Uu];have iK:(Instr.keyThatStays (.int .i64 key) (.int .i64 key)).run P w = .ok (.int .i64 key) w:=by
       unfold Instr.keyThatStays;simp[Instr.sameBits]
      simp only[gW];rw[iK];simp only[nQ];rw[MapKept.run_setObj_map _ O];refine⟨_,rfl,xk _ _ ?_⟩;rw[a4];simp
   ·cases h
 ·cases h
end
def NZ(t:TypeId)(d:Nat)(x:Operand):Bool:=[(58,26,22)].any λ(p:Nat×Nat×Nat)=>Nat.beq p.1 t&&Nat.beq p.2.1 d&&(match x with
 |.tmp n=>Nat.beq n p.2.2 ||Nat.beq p.2.2 1000000
 |_=>false)
def DT(C:ah Tmp)(t:TypeId)(x:Operand):Bool:=match C with
 |some d=>NZ t d x
 |none=>false
def JO{X:Type}(P:Program)(N:Nat)(σ:S)(d:Nat)(t:TypeId)(x y:A)(k:S->ah X):ah X:=
 match yC P t with
 | some (e,tc)=>bif Nat.beq (full tc) 0&&(zeroOf P e).any (λz=>Nat.beq z.cells.size (aF tc))then ve σ y λC=>(match C.Nd tc with
  |none=>none
  | some l2=>match x with
   | .lf (.own [r])=>(match σ.m r with
    |some (.sl (.sl D (o+2) true l))=>if h:D=tc then (bif !lz l2&&cB (l.length+l2.length)then iU N σ d (.sl (.sl tc (o+2) false ((h ▸ l)++l2))) (.lf (.own [d])) k else none)else none
    |_=>none)
   |_=>none)else none
 |none=>none
section
variable {P:Program} {w w':World} {w0:Wd} {B N:Nat} {af aC:bB} {ρ ρ':Nat->Loc} {σ:S} {a:Act} {X:Type} {d:Nat} {r:X}
def Rl.amq{t e ty:TypeId}{tc:TC}{i:TypeInfo}{z:Value}{rr o g:Nat}{qn:Bool}{l l2:aa (T tc)}{u v:Value}{q':aa Nat}{Bx:Nat}{To:bB}(h:Rl w0 N af ρ σ a w)(hF:w0.F d=none)(Z:P.underlying t=some (.slice e))(ht:tid tc=e)(hi:P.info? e=some i)(hz:i.zero=some z)
  (U:i.size=aF tc) (kD:i.bytes <= 65536) (qa:z.cells.size=aF tc) (hf:full tc=0) (hd:RV w w0.heap.size af [rr] (.sl tc (o+2) true l) u) (hs:RV w Bx To q' (.sl tc g qn l2) v) (bQ:l2≠[]) (hlen:l.length+l2.length<1073741824):
  ∃D w' aC,(Builtin.append_ #[t,t] ty #[u,v]).run P w = .ok D w'/\Rl w0 N aC (bK ρ d (.dP D)) ((σ.drop d).root d (.sl (.sl tc (o+2) false (l++l2)))) a w'/\oI D=true:=by
 subst ht;obtain⟨xs,E,ayt,IZ,jq⟩:=hd.aav hf (B':=0) (λb _=>Nat.zero_le b);obtain⟨A,c,news,rfl,Y,r5,I0⟩:=hs.reads hf;have iu:(l.length+l2.length)*i.bytes <= 140737488355328:=by
  have h1:(l.length+l2.length)*i.bytes <= 1073741824*65536:=Nat.mul_le_mul (by omega) kD;omega
 have r6:0<l2.length:=List.length_pos_iff.2 bQ;obtain⟨D,w',fJ,abC,hgr,iw⟩:=SK (P:=P) w 0 t ty (tid tc) i z (aF tc) i.bytes Z hi hz U rfl qa (qP tc) u l.length xs E _ A l2.length c news Y r5 (by unfold maxLen;omega) iu (Nat.zero_le _);have I1:(l++l2).length=l.length+l2.length:=jh;have hex:∃ b,u = .slice (some ⟨b,0,none⟩) l.length l.length:=by
  cases hd with
  |aI _ _ _ _ _ _ _ _ _ ho=>omega
  |gO _ _ _ _ _ ho=>omega
  |own _ _ _ _ _ b cap cs us hl hh hs hn hm hc hr=>exact⟨b,by rw[hm.2 rfl]⟩
 obtain⟨b,rfl⟩:=hex;obtain⟨b',I,rfl,_,jn⟩:=Y.2 r6;have amr:∀ j x,news[j]?=some x -> w.cell? ((⟨b',I,none⟩:Addr).add j)=some x:=by
  intro j x hx;have MU:(⟨b',I,none⟩:Addr).add j=⟨b',I+j,none⟩:=by unfold Addr.add;split<;>simp_all
  grind
 have abD:=run_append_grow (P:=P) w t ty (tid tc) i z Z hi hz ⟨b,0,none⟩ l.length l.length xs (by rw[U];exact E.1) (E.cells (g:=b) rfl) ⟨b',I,none⟩ l2.length c news (by rw[U];exact Y.1) amr (by omega) (by omega) (growslice_fits (by omega) iu);rw[fJ]at abD;injection abD with e1 e2;have hold:∀ k,k<w.heap.size -> w'.heap[k]?=w.heap[k]?:=by
  intro k C;rw[e2];exact heap_alloc_old _ _ C
 have hvb:D.ownBlock=some w.heap.size:=by rw[e1];rfl
 have dA:w.heap.size<w'.heap.size:=by rw[e2];simp
 rw[<- I1]at abC;have Dp:=jq.append I0 E.1;have gX:oI D=true:=by rw[e1];rfl
 have O:Below 0 w w':=(Below.refl 0 w).grown hgr (Nat.zero_le _) (λ_ _=>Nat.zero_le _);have vh:kH w0 w w':=⟨O.os,O.tape,O.output,O.size,λk C hL=>hold k (Nat.lt_of_lt_of_le C h.below.size)⟩
 refine⟨D,w',bK af w.heap.size (some [d]),fJ,h.Bv hF vh ⟨hgr.size,λb hb _=>hold b hb,λb hb=>cz _ _ _ (by omega),λb hb=>(h.dj b [] hb).2.2 rfl⟩ (λb k hb C=>?_) (λr hr=>cz _ _ _ hr) (.sl D _ (bT _ _ _) (Tn abC Dp (λb hb=>?_))),gX⟩
 ·by_cases e:b=w.heap.size
  ·subst e;rw[bT]at C;injection C with C
   grind
  ·rw[cz _ _ _ e]at C;have:=(h.dj b k C).2.1;omega
 ·rw[hvb]at hb;injection hb with hb;subst hb;exact bT _ _ _
def ams{t ty:TypeId}{x y:A}{k:S -> ah X}(h:JO P N σ d t x y k=some r):∃ U,k U=some r /\ ∀ af ρ a w,Rl w0 N af ρ σ a w -> ∀ u v,RA w w0.heap.size af ρ x u -> RA w w0.heap.size af ρ y v ->
  ∃w' aC ρ' z,(Builtin.append_ #[t,t] ty #[u,v]).run P w = .ok z w'/\Rl w0 N aC ρ' U (a.put (some d) z) w':=by
 unfold JO at h;split at h
 ·rename_i e tc r3;obtain⟨iN,ht,i,hi,iI,kD⟩:=By r3;cases E:(Nat.beq (full tc) 0&&(zeroOf P e).any (λz=>Nat.beq z.cells.size (aF tc)))with
  |false=>grind
  | true=>
   rw[E,av]at h;rw[aH]at E;have hf:=c8 E.1;obtain⟨z,Y,O⟩:=(Option.any_eq_true _ _).1 E.2;have O:=c8 O;have r4:i.zero=some z:=by unfold zeroOf at Y;simpa [hi]using Y
   obtain⟨yv,Nh,C⟩:=aaw (w0:=w0) (N:=N) h;clear h;split at C
   ·cases C
   ·rename_i l2 lT;split at C
    ·rename_i rr;split at C
     ·rename_i t' o l hm;split at C
      ·rename_i qk;subst qk;cases I:(!lz l2&&cB (l.length+l2.length))with
       |false=>grind
       | true=>
        rw[I,av]at C;rw[aH]at I;have bQ:l2≠[]:=by rintro rfl;cases I.1
        have I3:l.length+l2.length<1073741824:=by simpa [cB]using I.2
        obtain⟨Z,h3⟩:=qj C
        refine⟨_,h3,λaf ρ a w hR u v hu hv=>?_⟩
        obtain⟨q',_,_,T⟩:=Nh af ρ a w hR v hv;obtain⟨g,qn,T⟩:=Tp lT T;have fk:=hR.root rr _ hm;generalize D:aU.sl (.sl t' (o+2) true l)=x at fk;cases fk with
        |aD=>cases D
        |mp=>cases D
        |gh=>cases D
        | sl uu y cv hr=>
         injection D with D;subst D;have IX:uu=u:=by
          have h4:=hu.2;simp only[de,cv]at h4;simp_all
         subst IX;obtain⟨v',w',aC,fJ,dK,gX⟩:=hR.amq (ty:=ty) (d:=d) (hR.cT d (.inl Z)) iN ht hi r4 iI kD O hf hr T bQ I3;exact⟨w',aC,_,v',fJ,dK.set ⟨gX,by simp[de,bT]⟩ Z⟩
      ·cases C
     ·cases C
    ·cases C
 ·cases h
def amt{t:TypeId}{x y:A}:cE λX k=>JO (X:=X) P N σ d t x y k:=λX Y k g=>by
 unfold JO;split
 ·refine dB ((Uv _ _ _ _).trans (bE _ (funext λC=>?_))) rfl
  repeat' first|rfl|exact NK _ _ _ _|refine dB ?_ ?_|split
 ·rfl
def JP{X:Type}(P:Program)(N:Nat)(σ:S)(d:Nat)(t:TypeId)(x y:A)(k:S->ah X):ah X:=
 match x with
 |.view q s i j=>I4 P N σ d t (.view q s i j) y k
 |x=>JO P N σ d t x y k
def amu{t ty:TypeId}{x y:A}{k:S->ah X}(h:JP P N σ d t x y k=some r):∃ C,k C=some r/\∀ af ρ a w,Rl w0 N af ρ σ a w->∀ u v,RA w w0.heap.size af ρ x u->RA w w0.heap.size af ρ y v->
  ∃w' aC ρ' z,(Builtin.append_ #[t,t] ty #[u,v]).run P w = .ok z w'/\Rl w0 N aC ρ' C (a.put (some d) z) w':=by
 unfold JP at h;split at h
 ·exact akp h
 ·exact ams h
def amv{t:TypeId}{x y:A}:cE λX k=>JP (X:=X) P N σ d t x y k:=λX Y k g=>by
 unfold JP;split
 ·exact akq _ _ _ _
 ·exact amt _ _ _ _
end
abbrev fo:=Nat->ah tv
def gL(P:Program)(Φ:fo):Prop:=∀f c,Φ f=some c->enters P f/\UI P f c
def iO{X:Type}(o:Oper)(k:Nat->ah X):ah X:=
 match o.dst with
 |some d=>k d
 |none=>none
def gM:Op->Bool
 |.move _|.assign _|.pick .. |.build .. |.load .. |.binOp .. |.unOp .. |.convert .. |.fieldAddr .. |.field .. |.indexAddr .. |.index .. |.extract .. |.nilCheck _=>true
 |.call ⟨.builtin .len,_,_⟩|.call ⟨.builtin .max,_,_⟩|.call ⟨.builtin .min,_,_⟩=>true
 |.slice _ _ _ _ none=>true
 |_=>false
def oT{X:Type}(P:Program)(σ:S)(C:Op)(k:A->ah X):ah X:=
 match C with
 |.move x=>k (aJ σ x)
 |.assign x=>k (aJ σ x)
 | .pick c x y=>(match aJ σ c with
  |.lf (.v (.bool b))=>bif b then k (aJ σ x)else k (aJ σ y)
  |_=>none)
 |.build t parts=>FL P σ t parts.toList k
 |.load t x=>qR P σ t (aJ σ x) k
 |.binOp C t x y _=>BG P σ C t (aJ σ x) (aJ σ y) k
 |.unOp C _ x=>vK (aJ σ x) λa=>IQ C a λz=>k (.lf (.v z))
 |.convert s d x=>BE P σ s d (aJ σ x) k
 |.fieldAddr s x f=>FG P s (aJ σ x) f k
 |.field s x f=>Jc P s (aJ σ x) f k
 |.indexAddr t x i=>Bt P σ t (aJ σ x) (aJ σ i) k
 |.index t x i=>Jd P t (aJ σ x) (aJ σ i) k
 |.extract x i=>Dj (aJ σ x) i k
 |.nilCheck x=>NN (aJ σ x) k
 |.call ⟨.builtin .len,⟨[x]⟩,⟨[t]⟩⟩=>Di P σ t (aJ σ x) k
 |.call ⟨.builtin .max,⟨[x,y]⟩,⟨[_,_]⟩⟩=>FM true (aJ σ x) (aJ σ y) k
 |.call ⟨.builtin .min,⟨[x,y]⟩,⟨[_,_]⟩⟩=>FM false (aJ σ x) (aJ σ y) k
 |.slice t x lo hi none=>BI P σ t (aJ σ x) (lo.map (aJ σ)) (hi.map (aJ σ)) k
 |_=>none
def jA{X:Type}(P:Program)(N:Nat)(Φ:fo)(σ:S)(o:Oper)(k:S->ah X):ah X:=
 match o.op with
 |.alloc e=>iO o λd=>ud P N σ d e k
 |.box e x=>iO o λd=>BZ N σ d (aJ σ x) k
 |.buildSlice t len parts=>iO o λd=>bif tu t then yQ P N σ d t len parts.toList k else BB P N σ d t len parts.toList k
 | .store t x y=>(match o.dst with
  |none=>bif Av (aJ σ x) (aJ σ y)then xm P σ t (aJ σ x) (aJ σ y) k else sZ P σ t (aJ σ x) (aJ σ y) k
  |some _=>none)
 |.makeSlice t l c=>iO o λd=>Bw P N σ d t (aJ σ l) (aJ σ c) k
 | .call ⟨.value (.func f),args,_⟩=>(match Φ f with
  |some (.p c)=>iO o λd=>akM N σ d c args.toList k
  |some (.m c)=>q9 N σ o.dst c args.toList k
  |some (.v c)=>iO o λd=>JI N σ d c args.toList k
  | some (.n F)=>iO o λd=>(match args.toList with
   |[x]=>JH N σ d F (aJ σ x) k
   |_=>none)
  |some (.i c)=>JJ N σ o.dst c (args.toList.map (aJ σ)++[]) k
  |some (.d c)=>JC N σ o.dst c args.toList k
  |some (.q c)=>iO o λd=>akL N σ d c args.toList k
  |some (.c c)=>JM N σ o.dst c args.toList k
  |none=>none)
 |.call ⟨.builtin .append,⟨[x,y]⟩,⟨[t,C]⟩⟩=>bif Nat.beq t C then iO o λd=>bif tu t then JF P N σ d t (aJ σ x) (aJ σ y) k else bif NZ t d x then JP P N σ d t (aJ σ x) (aJ σ y) k else wO P N σ d t (aJ σ x) (aJ σ y) k else none
 |.makeMap _ none=>iO o λd=>UQ N σ d k
 |.lookup t x i false=>DP P σ t (aJ σ x) (aJ σ i) λv=>jm N σ o.dst v k
 | .mapUpdate t x i v=>(match o.dst with
  |none=>DR P σ t (aJ σ x) (aJ σ i) (aJ σ v) k
  |some _=>none)
 | .call ⟨.value (.tmp t),args,_⟩=>(match NU (aJ σ (.tmp t))with
  | some (f,ex)=>(match Φ f with
   |some (.i c)=>JJ N σ o.dst c (args.toList.map (aJ σ)++ex) k
   |_=>none)
  |none=>none)
 | .makeFunc (.func f) ⟨[]⟩ D=>(match JK σ D.toList with
  |some ps=>jm N σ o.dst (.fn f ps) k
  |none=>none)
 |.call ⟨.builtin .clear,⟨[x]⟩,⟨[t]⟩⟩=>I5 P σ t (aJ σ x) λE=>jm N E o.dst .undef k
 |_=>none
def dR{X:Type}(P:Program)(N:Nat)(Φ:fo)(σ:S)(o:Oper)(k:S->ah X):ah X:=
 bif gM o.op then oT P σ o.op λv=>jm N σ o.dst v k else jA P N Φ σ o k
def JQ{X:Type}(P:Program)(N:Nat)(Φ:fo)(σ:S)(o:Oper)(k:S->ah X):ah X:=
 match o.op,o.dst with
 | .store t x y,none=>(match aJ σ y with
  |.view [q] s i j=>JN P σ q s i j t (aJ σ x) k
  |_=>dR P N Φ σ o k)
 |.slice t x (some lo) (some hi) (some C),some d=>F9 P σ t (aJ σ x) (aJ σ lo) (aJ σ hi) (aJ σ C) (bif Nat.blt d N then k (σ.set d .undef)else none)
 |_,_=>dR P N Φ σ o k
def gQ(σ:S)(ops:Array Oper)(o:Oper):ah Bool:=
 match o.guard with
 |none=>some true
 | some (j,want)=>match (ops[j]?).bind (·.dst)with
  | some t=>(match σ.t t with
   |.lf (.v (.bool b))=>some (b==want)
   |.skip=>some false
   |_=>none)
  |none=>none
def JR(ops:Array Oper)(j:Nat):Bool:=ops.toList.any λo=>match o.guard with
 |some (i,_)=>Nat.beq i j
 |none=>false
def vw{X:Type}(σ:S)(C:ah Tmp)(g:Bool)(k:S->ah X):ah X:=
 bif g then (match C with
  | some d=>(match σ.t d with
   |.lf (.v (.bool b))=>bif b then k (σ.set d (.lf (.v (.bool true))))else k (σ.set d (.lf (.v (.bool false))))
   |_=>k σ)
  |none=>k σ)else k σ
def DU{X:Type}(P:Program)(N:Nat)(Φ:fo)(ops:Array Oper):Nat->aa Oper->S->(S->ah X)->ah X
 |_,[],σ,k=>k σ
 | j,o :: rest,σ,k=>match gQ σ ops o with
  |some true=>JQ P N Φ σ o λC=>vw C o.dst (JR ops j) λD=>DU P N Φ ops (j+1) rest D k
  |some false=>jm N σ o.dst .skip λC=>DU P N Φ ops (j+1) rest C k
  |none=>none
/-! Regions whose order is open: what is listed is a set of bits. -/
def dL{X:Type}(P:Program)(N:Nat)(Φ:fo)(ops:Array Oper)(σ:S)(o:Oper)(k:S->ah X):ah X:=
 match gQ σ ops o with
 |some true=>dR P N Φ σ o k
 |some false=>jm N σ o.dst .skip k
 |none=>none
def oc(ops:Array Oper)(L j:Nat):Bool:=!L.testBit j&&(match ops[j]? with
 |some o=>o.after.toList.all λe=>!Region.binds .any e ||L.testBit e.on
 |none=>false)
def JS(ops:Array Oper)(i W j:Nat):Bool:=(match ops[j]? with
 |some o=>o.after.toList.any λe=>Region.binds .any e&&(Nat.beq e.on i ||W.testBit e.on)
 |none=>false)
def waits(ops:Array Oper)(i:Nat):Nat->Nat->Nat->Nat
 |0,_,W=>W
 |n+1,j,W=>waits ops i n (j+1) (bif JS ops i W j then W |||2 ^ j else W)
def fK(o:Oper)(n:Nat):Bool:=match o.dst with
 | some d=>(match o.op with
  |.alloc _|.box .. |.buildSlice .. |.makeSlice ..=>Nat.beq n d
  |.call ⟨.value (.func _),_,_⟩=>Nat.ble (1000000000100000+1000*d) n
  |.call ⟨.builtin .append,_,_⟩=>Nat.beq n d
  |_=>false)
 |none=>false
def N0(Φ:fo)(C:Op):Bool:=gM C || (match C with
 |.alloc _|.box .. |.buildSlice .. |.makeSlice ..=>true
 | .call ⟨.value (.func f),_,_⟩=>(match Φ f with
  |some (.p _)=>true
  |some (.q _)=>true
  |_=>false)
 |_=>false)
def jr(g:Oper->Bool)(ops:Array Oper)(i L W:Nat):Nat->Nat->Bool
 |0,_=>false
 | f+1,j=>(!(Nat.beq j i || L.testBit j || W.testBit j)&&(match ops[j]? with
  |some C=>g C
  |none=>false)) ||jr g ops i L W f (j+1)
def JT(g:Oper->Bool)(ops:Array Oper)(C:Oper)(i L W:Nat):Nat->Nat->Bool
 |0,_=>true
 | n+1,j=>(Nat.beq j i || L.testBit j || (bif W.testBit j then JS ops i W j else (match ops[j]? with
  |some D=>g D&&C.apart ops D
  |none=>true)))&&JT g ops C i L W n (j+1)
def N1(c:qt):Bool:=c.ps.all λp=>match p with
 |.v _ _=>true
 |.p _ g _=>Nat.beq g 0
 |.s _ _=>false
def vz(ok:Nat->Nat->Bool)(σ:S):aa PK->aa Operand->Bool
 | .p _ _ _ :: ps,.tmp t :: xs=>(match σ.t t with
  |.aL r _=>ok t r
  |_=>false)&&vz ok σ ps xs
 |.v _ _::ps,_::xs=>vz ok σ ps xs
 |[],[]=>true
 |_,_=>false
def jO(σ:S):aa PK->aa Operand->aa Nat
 | .p _ _ _ :: ps,x :: xs=>(match aJ σ x with
  |.aL r _=>r::jO σ ps xs
  |_=>jO σ ps xs)
 |_::ps,_::xs=>jO σ ps xs
 |_,_=>[]
def sk(Φ:fo)(σ:S)(o:Oper):aa Nat:=match o.op with
 | .call ⟨.value (.func f),args,_⟩=>(match Φ f with
  |some (.m c)=>jO σ c.ps args.toList
  |_=>[])
 |_=>[]
def lX(t:Nat)(o:Oper):Bool:=match o.dst with
 |some d=>Nat.beq d t
 |none=>false
def yR(o:Oper):Bool:=(match o.op with
 |.alloc _=>true
 |_=>false)&&o.guard.isNone&&(match o.dst with
 |some d=>Nat.blt d 20000
 |none=>false)
def rj(o:Oper):Bool:=(match o.op with
 |.alloc _=>true
 |.buildSlice t _ _=>!tu t
 |.makeSlice ..=>true
 |_=>false)&&(match o.dst with
 |some d=>Nat.blt d 20000
 |none=>false)
def isApp(o:Oper):Bool:=match o.op with
 |.call ⟨.builtin .append,⟨[x,_]⟩,⟨[t,C]⟩⟩=>!tu t&&Nat.beq t C && !DT o.dst t x
 |_=>false
def US(Φ:fo)(ops:Array Oper)(i L W:Nat)(σ:S)(o:Oper):Bool:=match o.op with
 | .call ⟨.value (.func f),args,_⟩=>(match Φ f with
  |some (.m c)=>N1 c&&vz (λt r=>!jr (lX t) ops i L W ops.size 0 && !jr (λok=>fK ok r) ops i L W ops.size 0 && !jr isApp ops i L W ops.size 0) σ c.ps args.toList
  |_=>false)
 |_=>false
def A.rm(p pb:Nat->Bool):A->Bool:=A.fr (xl p pb)
def B1(σ:S)(o:Oper):aa Nat:=match o.op with
 | .store _ (.tmp t) _=>(match σ.t t with
  |.aL r _=>[r]
  |_=>[])
 | .call ⟨.builtin .append,⟨[.tmp t,_]⟩,⟨[_,_]⟩⟩=>(match σ.t t with
  |.lf (.own [r])=>[r]
  |_=>[])
 |_=>[]
def N2(σ:S)(o:Oper):aa Nat:=match o.op with
 | .call ⟨.builtin .append,⟨[.tmp t,_]⟩,⟨[_,_]⟩⟩=>(match σ.t t with
  |.lf (.own [r])=>[r]
  |_=>[])
 |_=>[]
def amw(t:Nat)(o:Oper):Bool:=match o.op with
 |.store _ (.tmp C) _=>Nat.beq C t
 |_=>false
def faR(ops:Array Oper)(i L W:Nat)(σ:S)(o:Oper):aa Nat:=match o.op,o.dst with
 | .fieldAddr _ (.tmp x) _,some t=>bif jr (amw t) ops i L W ops.size 0 then (match σ.t x with
  |.aL r _=>[r]
  |_=>[])else []
 |_,_=>[]
def B2(Φ:fo)(ops:Array Oper)(i L W:Nat)(σ:S)(n:Nat):Bool:=
 jr (λo=>fK o n) ops i L W ops.size 0 ||jr (λo=>dm n (sk Φ σ o) ||dm n (B1 σ o)) ops i L W ops.size 0
def B3(Φ:fo)(ops:Array Oper)(i L W:Nat)(σ:S)(n:Nat):Bool:=
 B2 Φ ops i L W σ n ||jr (λo=>dm n (faR ops i L W σ o)) ops i L W ops.size 0
def DV(σ:S)(ops:Array Oper)(i L W n:Nat):Bool:=jr (λo=>fK o n) ops i L W ops.size 0 ||jr (λo=>dm n (N2 σ o)) ops i L W ops.size 0
def B4(Φ:fo)(o:Oper):Bool:=match o.op with
 | .call ⟨.value (.func f),_,_⟩=>(match Φ f with
  |some (.p _)=>true
  |_=>false)
 |_=>false
def oU(Φ:fo)(ops:Array Oper)(i L W t:Nat):Bool:=!jr (λok=>lX t ok && !(rj ok ||isApp ok ||B4 Φ ok)) ops i L W ops.size 0
def UT(Φ:fo)(ops:Array Oper)(i L W:Nat)(o:Oper):Bool:=match o.op with
 |.call ⟨.builtin .append,⟨[.tmp t,_]⟩,⟨[ty,C]⟩⟩=>oU Φ ops i L W t&&(!tu ty&&Nat.beq ty C && !DT o.dst ty (.tmp t))
 |_=>false
def oV(Φ:fo)(ops:Array Oper)(i L W:Nat)(σ:S)(x:Nat):Bool:=!jr (lX x) ops i L W ops.size 0&&(match σ.t x with
 |.aL r _=>B3 Φ ops i L W σ r
 |.kG _=>true
 |_=>false)
def N3(Φ:fo)(ops:Array Oper)(i L W:Nat)(σ:S)(o:Oper):Bool:=match o.op with
 |.fieldAddr _ (.tmp x) _=>oV Φ ops i L W σ x
 |_=>false
def N4(Φ:fo)(ops:Array Oper)(i L W:Nat)(σ:S)(t:Nat):Bool:=!jr (λok=>lX t ok && !(yR ok ||N3 Φ ops i L W σ ok)) ops i L W ops.size 0
def IM(Φ:fo)(ops:Array Oper)(i L W:Nat)(σ:S)(o:Oper):Bool:=match o.op with
 | .store _ (.tmp t) _=>o.dst.isNone&&N4 Φ ops i L W σ t&&(match σ.t t with
  |.ptr _=>false
  |_=>true)
 |_=>false
def UU(σ:S)(p:Nat->Bool)(o:Oper):Bool:=o.op.operands.toList.all λx=>(aJ σ x).nr p
def UW(σ:S)(p pb:Nat->Bool)(o:Oper):Bool:=(o.op.operands.toList.all λx=>(aJ σ x).rm p pb)&&(match o.op with
 | .load _ x=>(match aJ σ x with
  |.aL r _=>!p r
  |_=>true)
 |_=>true)
def abE(Φ:fo)(ops:Array Oper)(L:Nat)(σ:S)(i:Nat):Bool:=match ops[i]? with
 | some C=>(gM C.op || (match gQ σ ops C with
  |some b=>!b
  |none=>false))&&Nat.beq ((L |||2 ^ i) &&& waits ops i ops.size 0 0) 0&&JT (λD=>N0 Φ D.op ||US Φ ops i L (waits ops i ops.size 0 0) σ D ||IM Φ ops i L (waits ops i ops.size 0 0) σ D ||UT Φ ops i L (waits ops i ops.size 0 0) D) ops C i L (waits ops i ops.size 0 0) ops.size 0&&UW σ (B3 Φ ops i L (waits ops i ops.size 0 0) σ) (DV σ ops i L (waits ops i ops.size 0 0)) C
 |none=>false
def JU{X:Type}(P:Program)(N:Nat)(Φ:fo)(ops:Array Oper)(L i:Nat)(σ:S)(o:Oper)(k:S->ah X):ah X:=
 match gQ σ ops o with
 |some true=>oT P σ o.op λv=>bif v.rm (B3 Φ ops i L (waits ops i ops.size 0 0) σ) (DV σ ops i L (waits ops i ops.size 0 0))then jm N σ o.dst v k else none
 |some false=>jm N σ o.dst .skip k
 |none=>none
/-! A call may be taken first where all that is free beside it are new blocks. -/
def A.gM:A->Bool
 |.lf (.v _)=>true
 | .agg cs=>cs.all λl=>match l with
  |.v _=>true
  |_=>false
 |_=>false
def UX(ops:Array Oper)(i L W:Nat)(σ:S)(o:Oper):Bool:=rj o&&(match gQ σ ops o with
 |some b=>b
 | none=>false)&&(o.op.operands.toList.all λx=>(aJ σ x).gM&&(match x with
  |.tmp t=>!jr (lX t) ops i L W ops.size 0
  |_=>true))&&(match o.guard with
 | some (g,_)=>(match (ops[g]?).bind (·.dst)with
  |some t=>!jr (lX t) ops i L W ops.size 0
  |none=>true)
 |none=>true)
def qw(Φ:fo)(o:Oper):Bool:=match o.op with
 | .call ⟨.value (.func f),_,_⟩=>(match Φ f with
  |some (.p _)=>true
  |some (.m _)=>true
  |_=>false)
 |_=>false
def JV(o:Oper):Bool:=(match o.op with
 |.store _ (.tmp _) _=>true
 |_=>false)&&o.dst.isNone
def Aw(σ:S)(o:Oper):Bool:=match o.op with
 | .store _ (.tmp t) _=>(match σ.t t with
  |.aL _ _=>true
  |_=>false)
 |_=>true
def JW(Φ:fo)(o:Oper):Bool:=qw Φ o ||rj o ||isApp o ||JV o
def Ax(σ:S)(p:Nat->Bool)(r:Nat):Bool:=match σ.m r with
 |some (.aD cs)=>cs.all (Lf.nr p)
 |_=>true
def Gc(o:Oper)(n:Nat):Bool:=lX n o
def abF(Φ:fo)(ops:Array Oper)(L:Nat)(σ:S)(i:Nat):Bool:=match ops[i]? with
 | some C=>JW Φ C&&Nat.beq ((L ||| 2 ^ i) &&& waits ops i ops.size 0 0) 0&&JT (UX ops i L (waits ops i ops.size 0 0) σ) ops C i L (waits ops i ops.size 0 0) ops.size 0 &&
   UU σ (λn=>jr (λo=>Gc o n) ops i L (waits ops i ops.size 0 0) ops.size 0) C&&(sk Φ σ C).all (Ax σ (λn=>jr (λo=>Gc o n) ops i L (waits ops i ops.size 0 0) ops.size 0))&&Aw σ C
 |none=>false
def uq(x:A)(n:Nat):ah V:=match x with
 | .fX xs=>(match xs[n]? with
  |some (false,[.v z])=>some z
  |_=>none)
 |_=>none
def UY(ops:Array Oper)(L:Nat)(σ:S)(i:Nat):Bool:=match ops[i]?,(List.range ops.size).filter (λj=>!(Nat.beq j i || L.testBit j))with
 | some C,[E]=>(match C.op,C.dst,C.guard,ops[E]? with
  | .extract (.tmp x) n,some _,none,some D=>(match D.op,D.dst,D.guard with
   |.store _ a b,none,none=>(uq (σ.t x) n).isSome&&Av (aJ σ a) (aJ σ b)&&C.apart ops D
   |_,_,_=>false)
  |_,_,_,_=>false)
 |_,_=>false
def ur{X:Type}(P:Program)(N:Nat)(Φ:fo)(ops:Array Oper):Nat->Nat->S->(S->ah X)->ah X
 | 0,L,σ,k=>(match (List.range ops.size).filter (oc ops L)with
  |[]=>k σ
  |_=>none)
 | f+1,L,σ,k=>(match (List.range ops.size).filter (oc ops L)with
  |[]=>k σ
  | [i]=>(match ops[i]? with
   |some o=>dL P N Φ ops σ o λC=>vw C o.dst (JR ops i) λD=>ur P N Φ ops f (L |||2 ^ i) D k
   |none=>none)
  | rs=>(match rs.find? (abE Φ ops L σ)with
   | some i=>(match ops[i]? with
    |some o=>JU P N Φ ops L i σ o λC=>vw C o.dst (JR ops i) λD=>ur P N Φ ops f (L |||2 ^ i) D k
    |none=>none)
   | none=>(match rs.find? (abF Φ ops L σ)with
    | some i=>(match ops[i]? with
     |some o=>dL P N Φ ops σ o λC=>vw C o.dst (JR ops i) λD=>ur P N Φ ops f (L |||2 ^ i) D k
     |none=>none)
    | none=>(match rs.find? (UY ops L σ)with
     | some i=>(match ops[i]? with
      |some o=>dL P N Φ ops σ o λC=>vw C o.dst (JR ops i) λD=>ur P N Φ ops f (L |||2 ^ i) D k
      |none=>none)
     |none=>none))))
/-! A new slice of constants may come first,beside values and calls of contents. -/
structure vA where
 run:(X:Type)->S->(Exit->S->Option X)->Option X
abbrev oW:=Nat->ah vA
def ny{X:Type}(P:Program)(N:Nat)(Φ:fo)(Λ:oW):Code->S->(Exit->S->ah X)->ah X
 |.skip,σ,k=>k .normal σ
 |.label _,σ,k=>k .normal σ
 |.ret,σ,k=>k .ret σ
 |.exit id,σ,k=>k (.exit id) σ
 |.region _ ops false,σ,k=>DU P N Φ ops 0 ops.toList σ λC=>k .normal C
 |.region _ ops true,σ,k=>bif P.follows .mixedOrders then ur P N Φ ops ops.size 0 σ λC=>k .normal C else none
 | .seq x y,σ,k=>ny P N Φ Λ x σ λe C=>match e with
  |.normal=>ny P N Φ Λ y C k
  |e=>k e C
 | .cond c x y,σ,k=>match aJ σ c with
  |.lf (.v (.bool b))=>bif b then ny P N Φ Λ x σ k else ny P N Φ Λ y σ k
  |_=>none
 | .block id c,σ,k=>match Λ id with
  |some b=>b.run X σ k
  | none=>ny P N Φ Λ c σ λe C=>match e with
   |.exit D=>if D=id then k .normal C else k (.exit D) C
   |e=>k e C
 |_,_,_=>none
def AW(P:Program)(w0:Wd)(N:Nat)(c:Code)(σ:S)(K:Exit->S->Prop):Prop:=
 ∀a w,R w0 N σ a w->c.wp P (λe D w'=>∃C,K e C/\R w0 N C D w') a w
def occs:Code->aa (Nat×Code)
 |.seq x y=>occs x++occs y
 |.cond _ x y=>occs x++occs y
 |.block id c=>(id,c)::occs c
 |_=>[]
def DW(P:Program)(N:Nat)(c:Code)(b:vA):Prop:=∀(X:Type) σ k (r:X) w0,b.run X σ k=some r->AW P w0 N c σ λe C=>k e C=some r
def sn(P:Program)(N:Nat)(Λ:oW)(l:aa (Nat×Code)):Prop:=∀p∈l,∀b,Λ p.1=some b->DW P N (.block p.1 p.2) b
section
variable {P:Program} {w w':World} {w0:Wd} {B N:Nat} {af aC:bB} {ρ ρ':Nat->Loc} {σ:S} {a:Act} {X:Type} {d:Nat} {r:X} {o:Oper} {Φ:fo} {Λ:oW}
def nc.mem{C:S}(D:o.dst=some d)(h:∀ af ρ a w,Rl w0 N af ρ σ a w->∃ w' aC ρ' v,(execOp a.eval o).run P w = .ok (.value v) w'/\Rl w0 N aC ρ' C (a.put (some d) v) w'):nc P w0 N o σ C:=by
 intro a w K Q hR E;obtain⟨af,ρ,hR⟩:=hR;obtain⟨w',aC,ρ',v,I,O⟩:=h af ρ a w hR;unfold Oper.wp;rw[I,Oper.upon_value,D];exact E _ _ ⟨aC,ρ',O⟩
def lE{k:Nat -> ah X}(h:iO o k=some r):∃ d,o.dst=some d/\k d=some r:=by
 unfold iO at h
 grind
def kT{s:Sem Value}{v:Value}(h:s.run P w = .ok v w'):(do pure (.value (<-s)):Sem Next).run P w = .ok (.value v) w':=by
 rw[gW,h];rfl
def abG{b:Go.Builtin}{x:Operand}{t:TypeId}{v:Value}(C:o.op = .call ⟨.builtin b,⟨[x]⟩,⟨[t]⟩⟩)(h:∀ cs,(builtin b #[t] o.type cs #[a.eval x]).run P w = .ok (.value v) w'):(execOp a.eval o).run P w = .ok (.value v) w':=by
 simp only[execOp,C,resolve,gW,Sem.run_pure,nQ,invoke,List.map_toArray,List.map_cons,List.map_nil];exact h _
def UZ{b:Go.Builtin}{x y:Operand}{t C:TypeId}{v:Value}(D:o.op = .call ⟨.builtin b,⟨[x,y]⟩,⟨[t,C]⟩⟩)(h:∀ cs,(builtin b #[t,C] o.type cs #[a.eval x,a.eval y]).run P w = .ok (.value v) w'):(execOp a.eval o).run P w = .ok (.value v) w':=by
 simp only[execOp,D,resolve,gW,Sem.run_pure,nQ,invoke,List.map_toArray,List.map_cons,List.map_nil];exact h _
def U0{C:Op}:cE λX k=>oT (X:=X) P σ C k:=λX Y k g=>by
 unfold oT;split
 ·rfl
 ·rfl
 ·repeat' first|rfl|refine dB ?_ ?_|split
 ·exact alE _ _ _ _
 ·exact abe _ _ _ _
 ·exact aly _ _ _ _
 ·exact(Uw.comp λa=>alz.comp (b:=λX k z=>k (.lf (.v z))) λz _ _ _ _=>rfl) X Y k g
 ·exact alH _ _ _ _
 ·exact alA _ _ _ _
 ·exact alF _ _ _ _
 ·exact alB _ _ _ _
 ·exact alG _ _ _ _
 ·exact alD _ _ _ _
 ·unfold NN;split<;>rfl
 ·exact alC _ _ _ _
 ·exact abf _ _ _ _
 ·exact abf _ _ _ _
 ·exact alI _ _ _ _
 ·rfl
def U1{op:Op}{k:A->ah X}(h:oT P σ op k=some r):∃ v,k v=some r/\oM (λX k=>oT (X:=X) P σ op k) v/\∀ af ρ a w (o:Oper),o.op=op->Rl w0 N af ρ σ a w->∃ u,(execOp a.eval o).run P w = .ok (.value u) w/\RA w w0.heap.size af ρ v u:=by
 obtain⟨z,O,U⟩:=U0.nZ h
 refine⟨z,O,U,λaf ρ a w o I hR=>?_⟩
 replace h:oT P σ op some=some z:=U A some;clear U O;unfold oT at h;split at h
 ·cases h;exact⟨_,by simp[execOp,I],hR.aJ _⟩
 ·cases h;exact⟨_,by simp[execOp,I],hR.aJ _⟩
 ·rename_i c x y;split at h
  ·rename_i b hb;have Z:=hR.aJ c;rw[hb]at Z;have hv:=Z.2.Bp;cases b with
   |true=>cases h;exact⟨a.eval x,by simp[execOp,I,hv,asBool],hR.aJ x⟩
   |false=>cases h;exact⟨a.eval y,by simp[execOp,I,hv,asBool],hR.aJ y⟩
  ·cases h
 next t parts=>obtain⟨_,⟨⟩,C⟩:=akv (w0:=w0) (N:=N) h;obtain⟨v,D,E⟩:=C af ρ a w hR;exact⟨v,by simp only[execOp,I];exact kT D,E⟩
 next t x=>obtain⟨_,⟨⟩,C⟩:=aaj (w0:=w0) (N:=N) h;obtain⟨v,D,E⟩:=C af ρ a w hR _ (hR.aJ x);exact⟨v,by simp only[execOp,I];exact kT D,E⟩
 next op t x y yt=>obtain⟨_,⟨⟩,C⟩:=akF (w0:=w0) (N:=N) h;obtain⟨v,D,E⟩:=C af ρ a w hR x y _ _ (hR.aJ x) (hR.aJ y);exact⟨v,by simp only[execOp,I];exact kT D,E⟩
 next op t x=>obtain⟨u,hx,h⟩:=S7 h;obtain⟨_,⟨⟩,hp,C⟩:=aka (P:=P) h;have O:=hR.aJ x;rw[hx]at O;obtain⟨T,D,Y⟩:=C w _ af [] _ O.2;exact⟨T,by simp only[execOp,I];exact kT D,V.IS hp,Y⟩
 next s d' x=>obtain⟨_,⟨⟩,C⟩:=akB (w0:=w0) (N:=N) h;obtain⟨v,D,E⟩:=C af ρ a w hR _ (hR.aJ x);exact⟨v,by simp only[execOp,I];exact kT D,E⟩
 next s x f=>obtain⟨_,⟨⟩,C⟩:=akd h;obtain⟨v,D,E⟩:=C w _ af ρ _ (hR.aJ x);exact⟨v,by simp only[execOp,I];exact kT D,E⟩
 next s x f=>obtain⟨_,⟨⟩,C⟩:=akC h;obtain⟨v,D,E⟩:=C w _ af ρ _ (hR.aJ x);exact⟨v,by simp only[execOp,I];exact kT D,E⟩
 next t x i=>obtain⟨_,⟨⟩,C⟩:=ake (w0:=w0) (N:=N) h;obtain⟨v,D,E⟩:=C af ρ a w hR _ _ (hR.aJ x) (hR.aJ i);exact⟨v,by simp only[execOp,I];exact kT D,E⟩
 next t x i=>obtain⟨_,⟨⟩,C⟩:=akA h;obtain⟨v,D,E⟩:=C w _ af ρ _ _ (hR.aJ x) (hR.aJ i);exact⟨v,by simp only[execOp,I];exact kT D,E⟩
 next x i=>obtain⟨_,⟨⟩,C⟩:=akg (P:=P) h;obtain⟨v,D,E⟩:=C w _ af ρ _ (hR.aJ x);exact⟨v,by simp only[execOp,I];exact kT D,E⟩
 next x=>obtain⟨h,C⟩:=alP (w:=w) (B:=w0.heap.size) (af:=af) (ρ:=ρ) h;cases h;obtain⟨ad,hu⟩:=C _ (hR.aJ x);refine⟨a.eval x,?_,hR.aJ x⟩;simp only[execOp,I,hu];rfl
 next x t=>obtain⟨_,⟨⟩,C⟩:=akf (w0:=w0) (N:=N) (ty:=o.type) h;obtain⟨v,D,E⟩:=C af ρ a w hR _ (hR.aJ x);exact⟨v,abG I λ_=>kT D,E⟩
 next x y t T=>obtain⟨_,⟨⟩,C⟩:=aaD (P:=P) h;obtain⟨v,D,E⟩:=C w _ af ρ t o.type _ _ (hR.aJ x) (hR.aJ y);exact⟨v,UZ I λ_=>kT (s:=Builtin.max_ #[t,T] o.type #[a.eval x,a.eval y]) D,E⟩
 next x y t T=>obtain⟨_,⟨⟩,C⟩:=aaD (P:=P) h;obtain⟨v,D,E⟩:=C w _ af ρ t o.type _ _ (hR.aJ x) (hR.aJ y);exact⟨v,UZ I λ_=>kT (s:=Builtin.min_ #[t,T] o.type #[a.eval x,a.eval y]) D,E⟩
 ·rename_i t x lo hi;obtain⟨_,⟨⟩,C⟩:=akK (w0:=w0) (N:=N) h;have ob:∀ z:ah Operand,(∀ b,z.map (aJ σ)=some b->∃ v,z.map a.eval=some v/\RA w w0.heap.size af ρ b v)/\(z.map (aJ σ)=none->z.map a.eval=none):=by
   intro z;cases z with
   |none=>exact⟨λb hb=>(by cases hb),λ_=>rfl⟩
   |some z=>exact⟨λb hb=>(by cases hb;exact⟨_,rfl,hR.aJ z⟩),λhb=>(by cases hb)⟩
  obtain⟨v,D,Y⟩:=C af ρ a w hR _ _ _ (hR.aJ x) (ob lo).1 (ob lo).2 (ob hi).1 (ob hi).2;exact⟨v,by simp only[execOp,I];exact kT D,Y⟩
 ·cases h
def nc.skip{C:S}(D:o.dst=none)(h:∀ af ρ a w,Rl w0 N af ρ σ a w->∃ w' aC,(execOp a.eval o).run P w = .ok .skip w'/\Rl w0 N aC ρ C a w'):nc P w0 N o σ C:=by
 intro a w K Q hR E;obtain⟨af,ρ,hR⟩:=hR;obtain⟨w',aC,I,O⟩:=h af ρ a w hR;unfold Oper.wp;rw[I,Oper.upon_skip,D];exact E _ _ ⟨aC,ρ,O⟩
def N5{s:Sem aj}(h:s.run P w = .ok () w'):(do s;pure .skip:Sem Next).run P w = .ok .skip w':=by
 rw[gW,h];rfl
def amx{k:S->ah X}(eF:gL P Φ)(h:jA P N Φ σ o k=some r):∃ O,k O=some r/\nc P w0 N o σ O:=by
 unfold jA at h;split at h
 ·rename_i e C;obtain⟨d,D,h⟩:=lE h;obtain⟨O,h,T⟩:=akm (w0:=w0) h
  refine⟨O,h,.mem D λaf ρ a w hR=>?_⟩
  obtain⟨w',aC,ρ',v,E,I⟩:=T af ρ a w hR;exact⟨w',aC,ρ',v,by simp only[execOp,C];exact kT E,I⟩
 ·rename_i e x C;obtain⟨d,D,h⟩:=lE h;obtain⟨O,h,T⟩:=alN (w0:=w0) (e:=e) h
  refine⟨O,h,.mem D λaf ρ a w hR=>?_⟩
  obtain⟨w',aC,ρ',v,E,I⟩:=T af ρ a w hR _ (hR.aJ x);exact⟨w',aC,ρ',v,by simp only[execOp,C];exact kT E,I⟩
 ·rename_i t len parts C;obtain⟨d,D,h⟩:=lE h;cases hn:tu t with
  | true=>
   rw[hn,av]at h;obtain⟨O,h,T⟩:=alS (w0:=w0) h
   refine⟨O,h,.mem D λaf ρ a w hR=>?_⟩
   obtain⟨w',aC,ρ',v,E,I⟩:=T af ρ a w hR;exact⟨w',aC,ρ',v,by simp only[execOp,C];exact kT E,I⟩
  | false=>
   rw[hn,ax]at h;obtain⟨O,h,T⟩:=akz (w0:=w0) h
   refine⟨O,h,.mem D λaf ρ a w hR=>?_⟩
   obtain⟨w',aC,ρ',v,E,I⟩:=T af ρ a w hR;exact⟨w',aC,ρ',v,by simp only[execOp,C];exact kT E,I⟩
 ·rename_i t x y C;split at h
  ·rename_i D;cases hn:Av (aJ σ x) (aJ σ y)with
   | true=>
    rw[hn,av]at h;obtain⟨O,h,T⟩:=al1 (w0:=w0) (N:=N) h
    refine⟨O,h,.skip D λaf ρ a w hR=>?_⟩
    obtain⟨w',aC,E,I⟩:=T af ρ a w hR _ _ (hR.aJ x) (hR.aJ y);exact⟨w',aC,by simp only[execOp,C];exact N5 E,I⟩
   | false=>
    rw[hn,ax]at h;obtain⟨O,h,T⟩:=aal (w0:=w0) (N:=N) h
    refine⟨O,h,.skip D λaf ρ a w hR=>?_⟩
    obtain⟨w',E,I⟩:=T af ρ a w hR _ _ (hR.aJ x) (hR.aJ y);exact⟨w',af,by simp only[execOp,C];exact N5 E,I⟩
  ·cases h
 ·rename_i t l c C;obtain⟨d,D,h⟩:=lE h;obtain⟨O,h,T⟩:=akn (w0:=w0) h
  refine⟨O,h,.mem D λaf ρ a w hR=>?_⟩
  obtain⟨w',aC,ρ',v,E,I⟩:=T af ρ a w hR _ _ (hR.aJ l) (hR.aJ c);exact⟨w',aC,ρ',v,by simp only[execOp,C];exact kT E,I⟩
 ·rename_i f args lC C;split at h
  next c U=>obtain⟨d,D,h⟩:=lE h;obtain⟨Y,Z⟩:=eF f _ U;exact aaO C D Y Z (aaM (w0:=w0) (N:=N) _) h
  next c U=>obtain⟨Y,Z⟩:=eF f _ U;exact alc C Y Z h
  next c U=>obtain⟨d,D,h⟩:=lE h;obtain⟨Y,Z⟩:=eF f _ U;exact al6 C D Y Z h
  ·rename_i F U;obtain⟨d,D,h⟩:=lE h;obtain⟨Y,Z⟩:=eF f _ U;split at h
   next x hx=>exact al5 C hx D Y Z h
   ·cases h
  next c U=>obtain⟨Y,Z⟩:=eF f _ U;exact abw (ex:=[]) C rfl Y Z h
  next c U=>obtain⟨Y,Z⟩:=eF f _ U;exact ali C Y Z h
  next c U=>obtain⟨d,D,h⟩:=lE h;obtain⟨Y,Z⟩:=eF f _ U;exact aaO C D Y Z (akP (w0:=w0) (N:=N) _) h
  next c U=>obtain⟨Y,Z⟩:=eF f _ U;exact amd C Y Z h
  ·cases h
 ·rename_i x y t t' C;cases qk:Nat.beq t t' with
  |false=>rw[qk]at h;cases h
  | true=>
   rw[qk,av]at h;obtain rfl:=c8 qk;obtain⟨d,D,h⟩:=lE h;have hh:∃ O,k O=some r/\∀ af ρ a w,Rl w0 N af ρ σ a w->∀ u v,RA w w0.heap.size af ρ (aJ σ x) u->RA w w0.heap.size af ρ (aJ σ y) v->
     ∃w' aC ρ' z,(Builtin.append_ #[t,t] o.type #[u,v]).run P w = .ok z w'/\Rl w0 N aC ρ' O (a.put (some d) z) w':=by
    cases hn:tu t with
    |true=>rw[hn,av]at h;exact alZ h
    | false=>
     rw[hn,ax]at h;cases hk:NZ t d x with
     |true=>rw[hk,av]at h;exact amu h
     |false=>rw[hk,ax]at h;exact ako h
   obtain⟨O,h,T⟩:=hh
   refine⟨O,h,.mem D λaf ρ a w hR=>?_⟩
   obtain⟨w',aC,ρ',v,E,I⟩:=T af ρ a w hR _ _ (hR.aJ x) (hR.aJ y);exact⟨w',aC,ρ',v,UZ C λ_=>kT E,I⟩
 ·rename_i t C;obtain⟨d,D,h⟩:=lE h;obtain⟨O,h,T⟩:=amj (w0:=w0) (t:=t) (P:=P) h
  refine⟨O,h,.mem D λaf ρ a w hR=>?_⟩
  obtain⟨w',aC,ρ',v,E,I⟩:=T af ρ a w hR;exact⟨w',aC,ρ',v,by simp only[execOp,C];exact kT E,I⟩
 ·rename_i t x i C;obtain⟨v,h1,_,T⟩:=amn (w0:=w0) (N:=N) h
  refine nc.val h1 λaf ρ a w hR=>?_
  obtain⟨y,E,I⟩:=T af ρ a w hR _ _ (hR.aJ x) (hR.aJ i);exact⟨y,by simp only[execOp,C];exact kT E,I⟩
 ·rename_i t x i v C;split at h
  ·rename_i D;obtain⟨O,h,_,T⟩:=amo (w0:=w0) (N:=N) h
   refine⟨O,h,.skip D λaf ρ a w hR=>?_⟩
   obtain⟨w',E,I⟩:=T af ρ a w hR _ _ _ (hR.aJ x) (hR.aJ i) (hR.aJ v);exact⟨w',af,by simp only[execOp,C];exact N5 E,I⟩
  ·cases h
 ·rename_i t args lC C;split at h
  ·rename_i f cap Ae;split at h
   next c U=>obtain⟨Y,Z⟩:=eF f _ U;exact abw C Ae Y Z h
   ·cases h
  ·cases h
 ·rename_i f abH C;split at h
  ·rename_i ps qZ;obtain⟨h1,h2⟩:=abx (w0:=w0) (N:=N) _ _ qZ
   refine nc.val h λaf ρ a w hR=>⟨.func (.func f) #[] (abH.map a.eval),by simp[execOp,C,Instr.makeFunc],_,rfl,by simp[h1],λj p hp=>?_⟩
   obtain⟨b,off,e1,e2⟩:=h2 af ρ a w hR j p hp;exact⟨b,off,e1,by simpa using e2⟩
  ·cases h
 ·rename_i x t C;obtain⟨tq,h1,T⟩:=akr (w0:=w0) (N:=N) (ty:=o.type) h;have run:∀ af ρ a w,Rl w0 N af ρ σ a w->∃ w',(execOp a.eval o).run P w = .ok (.value (.tuple #[])) w'/\Rl w0 N af ρ tq a w':=by
   intro af ρ a w hR;obtain⟨w',E,I⟩:=T af ρ a w hR _ (hR.aJ x);exact⟨w',abG C λ_=>kT E,I⟩
  unfold jm at h1;split at h1
  ·rename_i D
   refine⟨_,h1,λa w K Q hR hK=>?_⟩
   obtain⟨af,ρ,hR⟩:=hR;obtain⟨w',E,I⟩:=run af ρ a w hR;unfold Oper.wp;rw[E,Oper.upon_value,D];exact hK _ _ ⟨af,ρ,I⟩
  ·rename_i d D;cases hN:Nat.blt d N with
   |false=>rw[hN]at h1;cases h1
   | true=>
    rw[hN,av]at h1
    refine⟨_,h1,.mem D λaf ρ a w hR=>?_⟩
    obtain⟨w',E,I⟩:=run af ρ a w hR;exact⟨w',af,ρ,_,E,I.set trivial (by have:=cH hN;omega)⟩
 ·cases h
def U2{k:S -> ah X}(E:gL P Φ)(h:dR P N Φ σ o k=some r):∃ C,k C=some r/\nc P w0 N o σ C:=by
 unfold dR at h;cases D:gM o.op with
 | true=>
  rw[D,av]at h;obtain⟨v,I,_,O⟩:=U1 h;exact nc.val I λaf ρ a w hR=>O af ρ a w o rfl hR
 | false=>
  rw[D]at h;exact amx E h
def amy{k:S->ah X}(Y:gL P Φ)(h:JQ P N Φ σ o k=some r):∃ D,k D=some r/\nc P w0 N o σ D:=by
 unfold JQ at h;split at h
 ·rename_i t x y E I;split at h
  ·rename_i q s i j hy;obtain⟨D,C,O⟩:=amg (w0:=w0) (N:=N) h
   refine⟨D,C,.skip I λaf ρ a w hR=>?_⟩
   have Z:=hR.aJ y;rw[hy]at Z;obtain⟨w',aC,T,dK⟩:=O af ρ a w hR _ _ (hR.aJ x) Z;exact⟨w',aC,by simp only[execOp,E];exact N5 T,dK⟩
  ·exact U2 Y h
 ·rename_i t x lo hi mx d E I;obtain⟨C,O⟩:=ami (w0:=w0) (N:=N) h;cases U:Nat.blt d N with
  |false=>rw[U]at C;cases C
  | true=>
   rw[U,av]at C
   refine⟨_,C,.mem I λaf ρ a w hR=>?_⟩
   obtain⟨v,T⟩:=O af ρ a w hR _ _ _ _ (hR.aJ x) (hR.aJ lo) (hR.aJ hi) (hR.aJ mx);refine⟨w,af,ρ,v,?_,hR.set trivial (by have:=cH U;omega)⟩;simp only[execOp,E,Option.map_some];exact kT T
 ·exact U2 Y h
/-! What an operation gives hangs on its operands and on the roots that they name. -/
def A.key:A->ah (aa Nat)
 |.lf (.own q)=>some q
 |.view q _ _ _=>some q
 |.ptr (_::_::_::q)=>some q
 |_=>none
def Sm(σ2 σ:S)(x:A):Prop:=∀q,x.key=some q->∀(X:Type) (k:V->ah X),kI σ2.m q k=kI σ.m q k
def Sm.eq{σ2:S}(C:σ2.m=σ.m)(x:A):Sm σ2 σ x:=λq _ X k=>by rw[C]
def Sm.lf{σ2:S}{l:Lf}(h:Sm σ2 σ (.lf l))(k:V->ah X):rX σ2 l k=rX σ l k:=by
 cases l with
 |own q=>exact h q rfl X k
 |_=>rfl
def Sm.bin{σ2:S}{C:BinOp}{t:TypeId}{x y:A}(h:Sm σ2 σ x)(k:A->ah X):BG P σ2 C t x y k=BG P σ C t x y k:=by
 unfold BG;split
 ·rfl
 ·split
  ·exact h.lf _
  ·rfl
 ·rfl
def Sm.conv{σ2:S}{t C:TypeId}{x:A}(h:Sm σ2 σ x)(k:A->ah X):BE P σ2 t C x k=BE P σ t C x k:=by
 unfold BE;split
 ·rfl
 ·exact h.lf _
 ·rfl
def Sm.idx{σ2:S}{t:TypeId}{x i:A}(h:Sm σ2 σ x)(k:A->ah X):Bt P σ2 t x i k=Bt P σ t x i k:=by
 unfold Bt;split
 ·rfl
 ·split
  ·split
   ·rfl
   ·exact h _ rfl _ _
   ·rfl
  ·rfl
def Sm.len{σ2:S}{t:TypeId}{x:A}(h:Sm σ2 σ x)(k:A->ah X):Di P σ2 t x k=Di P σ t x k:=by
 cases x with
 |lf l=>exact h.lf _
 |_=>rfl
def Sm.slc{σ2:S}{t:TypeId}{x:A}{lo hi:ah A}(h:Sm σ2 σ x)(k:A->ah X):BI P σ2 t x lo hi k=BI P σ t x lo hi k:=by
 unfold BI DA;split
 ·simp only[h _ rfl]
 ·simp only[h _ rfl]
 ·rfl
def Sm.load{σ2:S}{t:TypeId}{x:A}(h:Sm σ2 σ x)(hb:∀ r j,x = .aL r j->σ2.m r=σ.m r)(k:A->ah X):qR P σ2 t x k=qR P σ t x k:=by
 unfold qR;split
 ·rfl
 ·split
  ·rw[hb _ _ rfl]
  ·rfl
  ·exact h _ rfl _ _
  ·rfl
def abI{σ2:S}(C:Op)(h:∀ x∈C.operands,aJ σ2 x=aJ σ x/\Sm σ2 σ (aJ σ x))(hl:∀ t x,C = .load t x->∀ k:A->ah X,qR P σ2 t (aJ σ x) k=qR P σ t (aJ σ x) k)(k:A->ah X):oT P σ2 C k=oT P σ C k:=by
 unfold oT;split
 case h_4 t parts=>
  have e:(parts.toList.map λp=>(p.1,aJ σ2 p.2))=parts.toList.map λp=>(p.1,aJ σ p.2):=rP λp I=>by rw[(h p.2 (by simp only[Op.operands];exact List.mem_toArray.2 (List.mem_map_of_mem (f:=(·.2)) I))).1]
  simp only[FL,e]
 case h_18 t x lo hi=>
  have e:∀ z:ah Operand,(∀ y,z=some y->aJ σ2 y=aJ σ y)->z.map (aJ σ2)=z.map (aJ σ):=by
   intro z O;cases z with
   |none=>rfl
   |some z=>exact bE some (O z rfl)
  have E:=h x (by simp[Op.operands]);rw[E.1,e lo (λy D=>(h y (by subst D;simp[Op.operands])).1),e hi (λy D=>(h y (by subst D;simp[Op.operands])).1)];exact E.2.slc k
 all_goals simp[Op.operands,Call.operands]at h
 case h_5=>rw[h.1];exact hl _ _ rfl k
 case h_6=>rw[h.1.1,h.2.1];exact h.1.2.bin k
 case h_8=>rw[h.1];exact h.2.conv k
 case h_11=>rw[h.1.1,h.2.1];exact h.1.2.idx k
 case h_15=>rw[h.1];exact h.2.len k
 all_goals first|rfl|simp only[h]
def abJ{σ2:S}(C:Op)(D:σ2.m=σ.m)(h:∀ x∈C.operands,aJ σ2 x=aJ σ x)(k:A->ah X):oT P σ2 C k=oT P σ C k:=
 abI C (λx E=>⟨h x E,.eq D _⟩) (λt x _ k=>(Sm.eq D _).load (λr _ _=>by rw[D]) k) k
def abK{σ2:S}(C:σ2.m=σ.m)(q:aa Nat)(s i j:Nat)(k:V->ah X):yA σ2 q s i j k=yA σ q s i j k:=by
 simp only[yA,C]
def U3{σ2:S}(C:σ2.m=σ.m)(x:Lf)(k:V->ah X):rX σ2 x k=rX σ x k:=(Sm.eq C _).lf k
def amz{σ2:S}(C:σ2.m=σ.m)(x:A)(k:V->ah X):ve σ2 x k=ve σ x k:=by
 cases x<;>simp only[ve,U3 C,abK C]
def U4{σ2:S}(C:σ2.m=σ.m):∀ (xs:aa Lf) (k:aa V->ah X),ue σ2 xs k=ue σ xs k
 |[],k=>rfl
 | x :: xs,k=>by
  simp only[ue,U3 C,U4 C xs]
def abL{σ2:S}(C:σ2.m=σ.m)(x:A)(k:Pt->ah X):qV σ2 x k=qV σ x k:=by
 unfold qV;simp only[U4 C,abK C]
def U5{σ2:S}{f:A->(Pt->ah X)->ah X}:∀ (xs:aa Operand) (k:aa Pt->ah X),(∀ x∈xs,aJ σ2 x=aJ σ x)->yH f σ2 xs k=yH f σ xs k
 |[],k,_=>rfl
 | x :: xs,k,h=>by
  simp only[yH,h x (.head _),U5 xs _ λy C=>h y (.tail _ C)]
def amA{σ2:S}(C:σ2.m=σ.m)(xs:aa Operand)(k:aa Pt->ah X)(h:∀ x∈xs,aJ σ2 x=aJ σ x):vk σ2 xs k=vk σ xs k:=by
 unfold vk;rw[show qV σ2=qV σ from funext λx=>funext λk=>abL C x k,U5 xs k h]
def amB{σ2:S}(C:σ2.m=σ.m)(x:A)(k:Pt->ah X):yG σ2 x k=yG σ x k:=by
 unfold yG;simp only[abL C,U4 C,C]
def amC{σ2:S}(C:σ2.m=σ.m)(xs:aa Operand)(k:aa Pt->ah X)(h:∀ x∈xs,aJ σ2 x=aJ σ x):DB σ2 xs k=DB σ xs k:=by
 unfold DB;rw[show yG σ2=yG σ from funext λx=>funext λk=>amB C x k,U5 xs k h]
/-! .. and a root that it does not name is of no account. -/
def JX(n:Nat)(x:aU)(m:Nat->ah aU):Nat->ah aU:=bK (λr=>bif Nat.beq r n then none else (m r).map (aU.drop n)) n (some x)
def abM{n:Nat}{x:aU}{m:Nat->ah aU}{q:Nat}(h:q≠n):JX n x m q=(m q).map (aU.drop n):=by
 unfold JX;rw[cz _ _ _ h,rU h];rfl
def N6{m m':Nat->ah aU}{p:Nat->Bool}(D:∀ r,p r=false->∀ y,m' r=some (.sl y) ↔ m r=some (.sl y)):∀ (q:aa Nat) (k:V->ah X),ri p q=true->kI m' q k=kI m q k
 |[],_,_=>rfl
 | [r],k,h=>by
  have E:=D r (by simpa [ri,jX]using h);simp only[kI];split
  next y C=>rw[(E y).1 C]
  ·rename_i I;split
   next y C=>exact absurd ((E y).2 C) (I y)
   ·rfl
 |[_,_],_,_=>rfl
 |[j,i,s],k,h=>rfl
 | j :: i :: s :: O :: q,k,h=>by
  simp only[kI];exact N6 D (O::q) _ (by simpa [ri,M0]using h)
def amD{n:Nat}{q:aa Nat}(h:cV n q=false):ri (λr=>Nat.beq r n) q=true:=by
 unfold ri jX;unfold cV at h;split
 next r C=>rw[C]at h;show (!Nat.beq r n)=true;rw[rU (show r≠n by simpa using h)];rfl
 ·rfl
def aU.JY(n:Nat)(cs:aa Lf):(aU.aD cs).drop n = .aD (cs.map (Lf.drop n)):=rfl
def amE{n:Nat}(z:ah aU)(y:V):z.map (aU.drop n)=some (.sl y) ↔ z=some (.sl y):=by
 cases z with
 |none=>simp
 |some z=>cases z<;>simp[aU.drop,aU.cy]
def abN{n:Nat}{x:aU}{m:Nat->ah aU}{r:Nat}(h:r≠n)(y:V):JX n x m r=some (.sl y) ↔ m r=some (.sl y):=by
 rw[abM h];exact amE _ y
def JZ{p:Nat->Bool}{r n:Nat}(h:p r=false)(C:p n=true):r≠n:=by
 rintro rfl;rw[C]at h;cases h
def amF{n:Nat}{x:aU}{m:Nat->ah aU}(q:aa Nat)(k:V->ah X)(h:cV n q=false):kI (JX n x m) q k=kI m q k:=
 N6 (p:=λr=>Nat.beq r n) (λr C y=>abN (JZ (p:=λr=>Nat.beq r n) C (Nat.beq_refl n)) y) q k (amD h)
def amG{p:Nat->Bool}{r j n:Nat}(h:(A.aL r j).nr p=true)(C:p n=true):r≠n:=
 JZ (by simpa [A.nr,A.fr,xl]using h) C
def abO{p pb:Nat->Bool}{x:A}{q:aa Nat}(h:x.rm p pb=true)(e:x.key=some q):ri p q=true:=by
 unfold A.key at e;split at e
 ·injection e with e;subst e;exact h
 ·injection e with e;subst e;exact h
 ·rename_i j i s C;injection e with e;subst e;have h:ri p (j :: i :: s :: C)=true:=h;cases C with
  |nil=>rfl
  |cons D q=>simpa [ri,M0]using h
 ·cases e
def amH{p pb:Nat->Bool}{t:TypeId}{cs:aa Lf}{y:A}(h:zY P t cs some=some y)(C:y.rm p pb=true):∀ c∈cs,c.nr p=true:=by
 unfold zY at h;split at h
 ·split at h
  ·split at h
   ·injection h with h;subst h;exact cm.1 C
   ·split at h
    ·injection h with h;subst h;intro c D;rw[gz.1 D];exact C
    ·cases h
   ·cases h
  ·cases h
 ·cases h
def A.Ay:A->Bool
 |.aL .. |.ptr _|.lf (.own _)=>true
 |_=>false
def A.abP(x:A)(K:qg):x.cy K=x\/(x.cy K).Ay=false:=by
 cases x with
 | lf l=>cases l with
  |own k=>cases h:K.l k<;>simp[A.cy,Lf.cy,h,A.Ay]
  |_=>exact .inl rfl
 |ptr k=>cases h:K.p k<;>simp[A.cy,h,A.Ay]
 |aL r j=>cases h:K.r r<;>simp[A.cy,h,A.Ay]
 |pk r j=>cases h:K.r r<;>simp[A.cy,h,A.Ay]
 |view k s i j=>cases h:K.p k<;>simp[A.cy,h,A.Ay]
 |fn f cap=>cases h:(cap.any λp=>K.r p.1)<;>simp[A.cy,h,A.Ay]
 |_=>exact .inr rfl
structure jc (p pb:Nat->Bool) (σ di:S):Prop where
 t:∀{g},(σ.t g).rm p pb=true->di.t g=σ.t g
 sl:∀r,p r=false->∀y,di.m r=some (.sl y) ↔ σ.m r=some (.sl y)
 aD:∀r,p r=false->∀cs,σ.m r=some (.aD cs)->∃f:Lf->Lf,di.m r=some (.aD (cs.map f))/\∀l,l.nr p=true->f l=l
 nw:∀g,di.t g=σ.t g\/(di.t g).Ay=false
def jc.refl{p pb:Nat->Bool}(σ:S):jc p pb σ σ:=
 ⟨λ_=>rfl,λ_ _ _=>.rfl,λ_ _ cs h=>⟨id,by rw[List.map_id];exact h,λ_ _=>rfl⟩,λ_=>.inl rfl⟩
def jc.trans{p pb:Nat->Bool}{σ E I:S}(h:jc p pb σ E)(D:jc p pb E I):jc p pb σ I:=by
 refine⟨λ{g} O=>?_,λr C y=>(D.sl r C y).trans (h.sl r C y),λr C cs T=>?_,λg=>?_⟩
 ·have e:=h.t O;rw[D.t (by rw[e];exact O),e]
 ·obtain⟨f,U,Y⟩:=h.aD r C cs T;obtain⟨f',Z,h4⟩:=D.aD r C _ U;exact⟨f' ∘ f,by rw[<-List.map_map];exact Z,λl hl=>by show f' (f l)=l;rw[Y l hl,h4 l hl]⟩
 ·rcases D.nw g with e | e
  ·rw[e];exact h.nw g
  ·exact .inr e
def jc.root{p pb:Nat->Bool}{σ D:S}(n:Nat)(x:aU)(C:p n=true)(hb:pb n=true)(h:jc p pb σ D):jc p pb σ ((D.drop n).root n x):=by
 refine h.trans ⟨λI=>A.DK I C hb,λr E y=>abN (JZ E C) y,λr E cs O=>⟨Lf.drop n,?_,λl hl=>Lf.BY hl C⟩,λg=>A.abP _ _⟩
 show JX n x D.m r=_;rw[abM (JZ E C),O];rfl
def jc.rt{p pb:Nat->Bool}{σ D:S}(n:Nat)(x:aU)(E:p n=true)(h:jc p pb σ D):jc p pb σ (D.root n x):=by
 have e:∀r,p r=false->(D.root n x).m r=D.m r:=λr C=>cz _ _ _ (JZ C E)
 exact h.trans ⟨λ_=>rfl,λr C y=>by rw[e r C],λr C cs I=>⟨id,by rw[e r C,List.map_id];exact I,λ_ _=>rfl⟩,λ_=>.inl rfl⟩
/-! Roots that a call writes. -/
def abQ(ns:aa Nat)(nr:aa (Nat×aU))(m:Nat->ah aU):Nat->ah aU:=λr=>match nr.lookup r with
 |some x=>some x
 |none=>bif dm r ns ||dm r []then none else (m r).map (aU.dD ns [])
structure U6 (p:Nat->Bool) (ns:List Nat) (nr:List (Nat×aU)):Prop where
 ns:∀n,dm n ns=true->p n=true
 nr:∀n x,nr.lookup n=some x->p n=true
def amI{p:Nat->Bool}{ns:aa Nat}{nr:aa (Nat×aU)}{m:Nat->ah aU}(hb:U6 p ns nr){q:Nat}(h:p q=false):abQ ns nr m q=(m q).map (aU.dD ns []):=by
 unfold abQ;cases C:nr.lookup q with
 |some x=>rw[hb.nr q x C]at h;cases h
 | none=>
  cases D:dm q ns with
  |true=>rw[hb.ns q D]at h;cases h
  |false=>rfl
def U7(k:aa Nat):gP k []=false:=by
 unfold gP;split<;>rfl
def U8{p:Nat->Bool}{ns:aa Nat}(hb:∀ n,dm n ns=true->p n=true)(k:aa Nat)(h:gP k ns=true):jX p k=true:=by
 unfold gP at h;unfold jX;split at h
 next r C=>rw[C];exact hb _ h
 ·cases h
def Lf.amJ{p:Nat->Bool}{x:Lf}{ns:aa Nat}(h:x.nr p=true)(hb:∀ n,dm n ns=true->p n=true):x.dD ns []=x:=
 Lf.rS (Lf.uY (λk C=>U8 hb k (by simp[yK,U7]at C;exact C.1)) h)
def A.U9{p pb:Nat->Bool}{x:A}{ns:aa Nat}(h:x.rm p pb=true)(hb:∀ n,dm n ns=true->p n=true):x.dD ns []=x:=
 A.rS (A.uY (K:=yK ns []) (J:=xl p pb) (λk C=>U8 hb k (by simp[yK,U7]at C;exact C.1)) (λk C=>U8 hb k (by simpa [yK,U7]using C)) (λr D=>by cases D) h)
def jc.dD{p pb:Nat->Bool}{σ C:S}(ns:aa Nat)(nr:aa (Nat×aU))(hb:U6 p ns nr)(h:jc p pb σ C):jc p pb σ (C.dD ns [] nr):=by
 have e:∀r,p r=false->(C.dD ns [] nr).m r=(C.m r).map (aU.dD ns []):=λr D=>amI hb D
 refine h.trans ⟨λE=>A.U9 E hb.ns,λr D y=>?_,λr D cs I=>⟨Lf.dD ns [],?_,λl hl=>Lf.amJ hl hb.ns⟩,λg=>A.abP _ _⟩
 ·rw[e r D];cases C.m r with
  |none=>simp
  |some z=>cases z<;>simp[aU.dD,aU.cy]
 ·rw[e r D,I];rfl
end
end Go.Proofs.YthmgjjfedieljaaGreat
