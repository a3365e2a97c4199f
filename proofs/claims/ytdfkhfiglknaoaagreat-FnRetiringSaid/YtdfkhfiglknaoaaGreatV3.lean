/-
  Running the program over pure contents, and that it follows (part 3). Nothing here is a claim.
-/
import Derived.Lib.AppendStr
import Derived.MapKept
import Derived.Test.YtdfkhfiglknaoaaGreatV2
set_option linter.unusedSimpArgs false
namespace Go.Proofs.YtdfkhfiglknaoaaGreat
set_option linter.defProp false
open Go.RowKit
set_option linter.unusedVariables false
def dT:Nat:=89999
def aGh(aj:bJ)(k:aa Nat):bJ:=λb=>match aj b with
 |some q=>bif k.isSuffixOf q then some (q.take (q.length-k.length)++[dT])else bif dZ dT q then none else some q
 |none=>none
def apM(σ:S)(c:qG)(args:aa Operand)(q:Nat):Bool:=match kz σ c.ps args with
 |some C=>!dB q ((m9 0 C).map (·.1))&&C.any λD=>Nat.beq D.root dT
 |none=>false
def aGi{X:Type}(N:Nat)(σ:S)(D:ah Tmp)(c:qG)(args:aa Operand)(k:S->ah X):ah X:=
 match args with
 | .tmp t :: _=>(match σ.t t with
  | .lf (.own [j,i,s,q])=>(match σ.m q with
   | some (.sl (.sl tc (o+2) E l))=>if s=aH tc then (if hi:i<l.length then (match (enc tc o l[i])[j]? with
    | some y=>bif Nat.ble N 20000&&Nat.ble 20000 q&&Nat.blt q 60000&&apM ((σ.dR [q,dT] [dT] [(dT,.sl y)]).set t (.lf (.own [dT]))) c args q then qI N ((σ.dR [q,dT] [dT] [(dT,.sl y)]).set t (.lf (.own [dT]))) D c args λC=>(match C.m dT with
      | some (.sl I)=>(match dec tc o (splice (enc tc o l[i]) j [I])with
       |some e=>k ((C.drop dT).root q (.sl (.sl tc (o+2) E (l.set i e))))
       |none=>none)
      |_=>none)else none
    |none=>none)else none)else none
   |_=>none)
  |_=>none)
 |_=>none
section
variable {P:Program} {w w':World} {w0:Wd} {B N:Nat} {aj fe aD:bJ} {ρ gi ρ':Nat->Loc} {σ:S} {a:Act} {X:Type} {d:Nat} {r:X} {o:Oper} {K:aa Nat} {m:Nat->ah aX}
def yI:∀ (q:aa Nat),cU λX k=>jX (X:=X) m q k
 |[]=>λ_ _ _ _=>rfl
 | [x]=>λX Y k g=>by
  simp only[jX]
  repeat' first|rfl|refine dN ?_ ?_|split
 |[_,_]=>λ_ _ _ _=>rfl
 | j :: i :: s :: q=>λX Y k g=>by
  simp only[jX]
  refine(yI q _ _ _ _).trans (bC _ (funext λy=>?_))
  repeat' first|rfl|split
  all_goals simp_all
def Fw{x:Lf}:cU λX k=>qy (X:=X) σ x k:=by
 cases x with
 |own q=>exact yI q
 |_=>exact λ_ _ _ _=>rfl
def acO{q:aa Nat}{s i j:Nat}:cU λX k=>wh (X:=X) σ q s i j k:=λX Y k g=>by
 refine(yI q _ _ _ _).trans (bC _ (funext λy=>?_))
 repeat' first|rfl|refine dN ?_ ?_|split
def Wi{x:A}:cU λX k=>tE (X:=X) σ x k:=by
 cases x with
 |lf l=>exact Fw
 |view=>exact acO
 |_=>exact λ_ _ _ _=>rfl
def Wj{x:A}:cU λX k=>vK (X:=X) x k:=λX Y k g=>by
 unfold vK
 repeat' first|rfl|refine dN ?_ ?_|split
def apN{ty:TypeId}{C:BinOp}{x y:V}:cU λX k=>Ix (X:=X) P ty C x y k:=λX Y k g=>by
 unfold Ix
 repeat' first|rfl|refine dN ?_ ?_|split
def apO{C:BinOp}{t:TypeId}{x y:A}:cU λX k=>As (X:=X) P σ C t x y k:=λX Y k g=>by
 unfold As;split
 ·repeat' first|rfl|refine dN ?_ ?_|split
 ·split
  ·refine(Fw _ _ _ _).trans (bC _ (funext λz=>?_))
   repeat' first|rfl|refine dN ?_ ?_|split
  ·rfl
 ·exact(Wj.comp λa=>Wj.comp λb=>apN.comp (b:=λX k z=>k (.lf (.v z))) λz _ _ _ _=>rfl) X Y k g
def apP{C:UnOp}{x:V}:cU λX k=>Iy (X:=X) C x k:=λX Y k g=>by
 unfold Iy
 repeat' first|rfl|refine dN ?_ ?_|split
def O7{t:TypeId}{cs:aa Lf}:cU λX k=>yl (X:=X) P t cs k:=λX Y k g=>by
 unfold yl
 repeat' first|rfl|refine dN ?_ ?_|split
def acQ{t:TypeId}{x:A}:cU λX k=>pH (X:=X) P σ t x k:=λX Y k g=>by
 unfold pH;split
 ·rfl
 ·split
  ·split
   ·exact O7 _ _ _ _
   ·rfl
  ·exact O7 _ _ _ _
  ·refine(yI _ _ _ _ _).trans (bC _ (funext λz=>?_))
   repeat' first|rfl|exact O7 _ _ _ _|split
  ·rfl
def apQ{s:TypeId}{x:A}{f:Nat}:cU λX k=>E7 (X:=X) P s x f k:=λX Y k g=>by
 unfold E7
 repeat' first|rfl|refine dN ?_ ?_|split
def apR{t:TypeId}{x i:A}:cU λX k=>Ag (X:=X) P σ t x i k:=λX Y k g=>by
 unfold Ag;split
 ·rfl
 ·split
  ·split
   ·repeat' first|rfl|refine dN ?_ ?_|split
   ·refine(yI _ _ _ _ _).trans (bC _ (funext λz=>?_))
    repeat' first|rfl|refine dN ?_ ?_|split
   ·rfl
  ·rfl
def apS{t:TypeId}{x:A}:cU λX k=>Co (X:=X) P σ t x k:=λX Y k g=>by
 unfold Co;split
 ·refine(Fw _ _ _ _).trans (bC _ (funext λz=>?_))
  repeat' first|rfl|refine dN ?_ ?_|split
 ·repeat' first|rfl|refine dN ?_ ?_|split
 ·rfl
def apT{x:A}{i:Nat}:cU λX k=>Cp (X:=X) x i k:=λX Y k g=>by
 unfold Cp
 repeat' first|rfl|refine dN ?_ ?_|split
def apU{t:TypeId}{parts:aa (Nat×Operand)}:cU λX k=>Ff (X:=X) P σ t parts k:=λX Y k g=>by
 unfold Ff
 repeat' first|rfl|refine dN ?_ ?_|split
def apV{s:TypeId}{x:A}{f:Nat}:cU λX k=>IS (X:=X) P s x f k:=λX Y k g=>by
 unfold IS
 repeat' first|rfl|refine dN ?_ ?_|split
def acS{C:Bool}{x y:A}:cU λX k=>Fg (X:=X) C x y k:=λX Y k g=>by
 unfold Fg
 repeat' first|rfl|refine dN ?_ ?_|split
def apW{t:TypeId}{x i:A}:cU λX k=>IU (X:=X) P t x i k:=λX Y k g=>by
 unfold IU
 repeat' first|rfl|refine dN ?_ ?_|split
def apX{C D:TypeId}{x:A}:cU λX k=>Ao (X:=X) P σ C D x k:=λX Y k g=>by
 unfold Ao;split
 ·repeat' first|rfl|refine dN ?_ ?_|split
 ·refine(Fw _ _ _ _).trans (bC _ (funext λz=>?_))
  unfold OS
  repeat' first|rfl|refine dN ?_ ?_|split
 ·rfl
def Fx{x:ah A}{d:Int}:cU λX k=>uQ (X:=X) x d k:=λX Y k g=>by
 unfold uQ
 repeat' first|rfl|refine dN ?_ ?_|split
def acT{t:TypeId}{q:aa Nat}{C:ah Nat}{lo hi:ah A}:cU λX k=>CB (X:=X) P σ t q C lo hi k:=λX Y k g=>by
 unfold CB;split
 ·split
  ·refine(yI _ _ _ _ _).trans (bC _ (funext λz=>?_))
   unfold Fk;split
   ·split
    ·refine(Fx _ _ _ _).trans (bC _ (funext λ_=>(Fx _ _ _ _).trans (bC _ (funext λ_=>?_))))
     repeat' first|rfl|refine dN ?_ ?_|split
    ·rfl
   ·rfl
  ·rfl
 ·rfl
def apY{t:TypeId}{x:A}{lo hi:ah A}:cU λX k=>Av (X:=X) P σ t x lo hi k:=λX Y k g=>by
 unfold Av;split
 ·exact acT _ _ _ _
 ·exact acT _ _ _ _
 ·unfold yw;split
  ·split
   ·refine(Fx _ _ _ _).trans (bC _ (funext λ_=>(Fx _ _ _ _).trans (bC _ (funext λ_=>?_))))
    repeat' first|rfl|refine dN ?_ ?_|split
   ·rfl
  ·split
   ·split
    ·split
     ·refine dN ((Fx _ _ _ _).trans (bC _ (funext λ_=>(Fx _ _ _ _).trans (bC _ (funext λ_=>?_))))) rfl
      repeat' first|rfl|refine dN ?_ ?_|split
     ·rfl
    ·rfl
   ·rfl
  ·rfl
def yJ{C:ah Tmp}{x:A}:cU λX k=>iU (X:=X) N σ C x k:=λX Y k g=>by
 unfold iU
 repeat' first|rfl|refine dN ?_ ?_|split
def O8{x:aX}{y:A}:cU λX k=>iF (X:=X) N σ d x y k:=λX Y k g=>dN rfl rfl
def CN{x:aX}{y:A}{k:S -> ah X}(h:iF N σ d x y k=some r):k (((σ.drop d).root d x).set d y)=some r/\nS (λX k=>iF (X:=X) N σ d x y k) (((σ.drop d).root d x).set d y):=by
 unfold iF at h;cases C:Nat.blt d N with
 |false=>simp_all
 |true=>rw[C]at h;exact⟨h,λX k=>by simp[iF,C,aq]⟩
def apZ{e:TypeId}{k:S -> ah X}(h:sE P N σ d e k=some r):∃ x y,k (((σ.drop d).root d x).set d y)=some r/\y = .aE d 0/\(∀ (C:S),nS (λX k=>sE (X:=X) P N C d e k) (((C.drop d).root d x).set d y)):=by
 unfold sE at h;split at h
 ·rename_i z D;obtain⟨E,_⟩:=CN h
  refine⟨_,_,E,rfl,λC X k=>?_⟩
  obtain⟨I,_⟩:=oG h;have hb:Nat.blt d N=true:=mT I;simp[sE,D,iF,hb,aq]
 ·cases h
def acU{t:TypeId}{l c:A}{k:S -> ah X}(h:Aj P N σ d t l c k=some r):∃ y,k (((σ.drop d).root d (.sl y)).set d (.lf (.own [d])))=some r/\(∀ (C:S),nS (λX k=>Aj (X:=X) P N C d t l c k) (((C.drop d).root d (.sl y)).set d (.lf (.own [d])))):=by
 unfold Aj at h;split at h
 ·rename_i e tc Y n kc c D;split at h
  ·cases h
  ·rename_i z E;split at h
   ·rename_i hb;obtain⟨I,_⟩:=CN h
    refine⟨_,I,λC X k=>?_⟩
    obtain⟨O,_⟩:=oG h;have U:Nat.blt d N=true:=mT O;simp[Aj,D,E,bg hb,iF,U,aq]
   ·cases h
 ·cases h
def acV{t:TypeId}{len:Nat}{parts:aa (Nat×Operand)}{k:S -> ah X}(h:An P N σ d t len parts k=some r):∃ y,k (((σ.drop d).root d (.sl y)).set d (.lf (.own [d])))=some r /\
  (∀(C:S),(∀p∈parts,aL C p.2=aL σ p.2) -> nS (λX k=>An (X:=X) P N C d t len parts k) (((C.drop d).root d (.sl y)).set d (.lf (.own [d])))):=by
 unfold An at h;split at h
 ·rename_i e tc E;split at h
  ·rename_i z I;cases D:(Nat.beq (full tc) 0&&Nat.beq z.cells.size (aH tc)&&Nat.blt (len*aH tc) 16777217)with
   |false=>simp_all
   | true=>
    rw[D,aq]at h;split at h
    ·rename_i cs O;split at h
     ·rename_i vs U;split at h
      ·rename_i l hl;obtain⟨Y,_⟩:=CN h
       refine⟨_,Y,λC hσ X k=>?_⟩
       obtain⟨hN,_⟩:=oG h;have iT:Nat.blt d N=true:=mT hN;have e:(parts.map λp=>(p.1,aL C p.2))=parts.map λp=>(p.1,aL σ p.2):=List.map_congr_left λp hp=>by rw[hσ p hp]
       simp[An,E,I,D,aq,e,O,U,hl,iF,iT]
      ·cases h
     ·cases h
    ·cases h
  ·cases h
 ·cases h
def ap0{t:TypeId}{x y:A}:cU λX k=>uM (X:=X) P N σ d t x y k:=λX Y k g=>by
 unfold uM;split
 ·refine dN ((Wi _ _ _ _).trans (bC _ (funext λC=>?_))) rfl
  repeat' first|rfl|exact O8 _ _ _ _|refine dN ?_ ?_|split
 ·rfl
def acW:∀ (q:aa Nat) (y:V),cU λX k=>ym (X:=X) m q y k
 |[],_=>λ_ _ _ _=>rfl
 | [x],y=>λX Y k g=>by
  simp only[ym]
  repeat' first|rfl|refine dN ?_ ?_|split
 |[_,_],_=>λ_ _ _ _=>rfl
 | j :: i :: s :: q,y=>λX Y k g=>by
  simp only[ym]
  refine(yI q _ _ _ _).trans (bC _ (funext λz=>?_))
  repeat' first|rfl|exact acW q _ _ _ _ _|split
def acX{t:TypeId}{x y:A}:cU λX k=>rq (X:=X) P σ t x y k:=λX Y k g=>by
 unfold rq;split
 ·split
  ·split
   ·repeat' first|rfl|refine dN ?_ ?_|split
   ·split
    ·rfl
    ·refine(yI _ _ _ _ _).trans (bC _ (funext λz=>?_))
     repeat' first|rfl|exact acW _ _ _ _ _ _|refine dN ?_ ?_|split
   ·rfl
  ·rfl
 ·rfl
def Wl:∀ (xs:aa Lf),cU λX k=>sI (X:=X) σ xs k
 |[]=>λ_ _ _ _=>rfl
 |x::xs=>Fw.comp λy=>(Wl xs).comp (b:=λX k ys=>k (y.gT::ys)) λ_ _ _ _ _=>rfl
def acY{x:A}:cU λX k=>pJ (X:=X) σ x k:=λX Y k g=>by
 unfold pJ
 repeat' first|rfl|exact Wl _ _ _ _ _|exact acO _ _ _ _|split
def ap1{x:A}:cU λX k=>wz (X:=X) σ x k:=λX Y k g=>by
 unfold wz
 repeat' first|rfl|exact acY _ _ _ _|refine(Wl _ _ _ _ _).trans (bC _ (funext λz=>?_))|split
def Wm{f:(X:Type)->A->(Pt->ah X)->ah X}(C:∀ x,cU λX k=>f X x k):∀ (xs:aa Operand),cU λX k=>wA (f X) σ xs k
 |[]=>λ_ _ _ _=>rfl
 |x::xs=>(C _).comp λp=>(Wm C xs).comp (b:=λX k ps=>k (p::ps)) λ_ _ _ _ _=>rfl
def Jf{xs:aa Operand}:cU λX k=>uT (X:=X) σ xs k:=Wm (λ_=>acY) xs
def acZ{xs:aa Operand}:cU λX k=>CC (X:=X) σ xs k:=Wm (λ_=>ap1) xs
def O9{C:gM}:cU λX k=>oH (X:=X) σ d C k:=λX Y k g=>by
 unfold oH
 repeat' first|rfl|refine dN ?_ ?_|split
def ac0{f:Nat}{c:jQ}(C:jl P f c){ev:(X:Type)->(aa Pt->ah X)->ah X}(D:cU ev):cU λX k=>tL (X:=X) N σ d c (ev X) k:=λX Y k g=>
 dN ((D.comp λps=>(C.1 ps).comp λE=>O9) X Y k g) rfl
def Pa{f:Nat}{c:jQ}(hc:jl P f c){ev:(X:Type)->(aa Pt->ah X)->ah X}(he:cU ev){k:S->ah X}(h:tL N σ d c (ev X) k=some r):∃ C D,oH σ d C some=some D/\k D=some r/\
  ∀E O (I:(X:Type)->(aa Pt->ah X)->ah X),(∀(X:Type) (k:aa Pt->ah X),I X k=ev X k)->oH E d C some=some O->nS (λX k=>tL (X:=X) N E d c (I X) k) O:=by
 unfold tL at h;cases U:Nat.blt d N with
 |false=>rw[U]at h;cases h
 | true=>
  rw[U,aq]at h;obtain⟨ps,h2,hd⟩:=he.m6 h;obtain⟨C,h3,VG⟩:=(hc.1 ps).m6 h2;obtain⟨D,h4,hd3⟩:=O9.m6 h3
  refine⟨C,D,hd3 _ _,h4,λE O I ha jn X k=>?_⟩
  obtain⟨τ2,Y,hd4⟩:=O9.m6 jn;injection Y with Y;subst Y;show tL N E d c (I X) k=_;unfold tL;rw[U,aq,ha,hd X];exact(VG X _).trans (hd4 X k)
/-! Keys that do not end in certain names. -/
def pM(p:Nat->Bool)(k:aa Nat):Bool:=!jN p k
def va(p pb:Nat->Bool):oD:=⟨jN p,jN p,pb⟩
def Lf.nr(p:Nat->Bool):Lf->Bool:=Lf.fr (jN p)
def A.nr(p:Nat->Bool):A->Bool:=A.fr (va p p)
def Jg{p:Nat->Bool}{n:Nat}(C:p n=true)(k:aa Nat)(h:dZ n k=true):jN p k=true:=by
 unfold jN;rw[show k.getLast?=some n by simpa [dZ]using h];exact C
def ac1{p:Nat->Bool}{k:aa Nat}{n:Nat}(h:pM p k=true)(C:p n=true):dZ n k=false:=by
 cases hl:dZ n k with
 |false=>rfl
 |true=>unfold pM at h;rw[Jg C k hl]at h;cases h
def ap2{p:Nat->Bool}{n:Nat}(C:p n=true)(r:Nat)(h:Nat.beq r n=true):p r=true:=by rw[cL h];exact C
def Lf.AK{p:Nat->Bool}{x:Lf}{n:Nat}(h:x.nr p=true)(C:p n=true):x.drop n=x:=Lf.qm (Lf.tC (Jg C) h)
def sB.AK{p:Nat->Bool}{xs:aa Lf}{n:Nat}(h:xs.all (Lf.nr p)=true)(C:p n=true):xs.map (Lf.drop n)=xs:=sB.qm (ck.2 λc D=>Lf.tC (Jg C) (ck.1 h c D))
def A.CO{p pb:Nat->Bool}{x:A}{n:Nat}(h:x.fr (va p pb)=true)(C:p n=true)(hb:pb n=true):x.drop n=x:=A.qm (A.tC (K:=ye n) (J:=va p pb) (Jg C) (Jg C) (ap2 hb) h)
def A.AK{p:Nat->Bool}{x:A}{n:Nat}(h:x.nr p=true)(C:p n=true):x.drop n=x:=A.CO h C C
def S.ext'{σ C:S}(D:∀ k,σ.t k=C.t k)(E:∀ r,σ.m r=C.m r):σ=C:=by
 cases σ;cases C;simp
 grind
def S.set_set{e d:Nat}(h:e≠d)(v u:A):(σ.set d v).set e u=(σ.set e u).set d v:=by
 refine S.ext' (λk=>?_) λ_=>rfl
 show cc (cc σ.t d v) e u k=cc (cc σ.t e u) d v k;by_cases C:k=e
 ·subst C;rw[cm,cN _ _ _ h,cm]
 ·by_cases D:k=d
  ·subst D;rw[cN _ _ _ C,cm,cm]
  ·rw[cN _ _ _ C,cN _ _ _ D,cN _ _ _ D,cN _ _ _ C]
def S.drop_set(n:Nat){v:A}(C:v.drop n=v):(σ.set d v).drop n=(σ.drop n).set d v:=by
 refine S.ext' (λk=>?_) λ_=>rfl
 show (cc σ.t d v k).drop n=cc (λk=>(σ.t k).drop n) d v k;by_cases h:k=d
 ·subst h;rw[cm,cm,C]
 ·rw[cN _ _ _ h,cN _ _ _ h]
def Wn(v:A):∀ (xs:aa V) (c:Nat) (σ:S),(∀ n,c <= n -> v.drop n=v) -> nU c (σ.set d v) xs=(nU c σ xs).set d v
 |[],c,σ,h=>rfl
 | x :: xs,c,σ,h=>by
  simp[nU];cases D:x.aI with
  | true=>
   exact Wn v xs _ σ (λn C=>h n (by omega))
  | false=>
   rw[S.drop_set c (h c (dc _))];exact Wn v xs _ ((σ.drop c).root c _) (λn C=>h n (by omega))
def Wo(v:A):∀ (ps:aa Pt) (c:Nat) (σ:S),(∀ n,c <= n -> v.drop n=v) -> pL c (σ.set d v) ps=(pL c σ ps).set d v
 |[],c,σ,h=>rfl
 | p :: ps,c,σ,h=>by
  simp[pL];rw[Wn v p.2 c σ h];exact Wo v ps _ _ (λn C=>h n (by omega))
end
def AL{X:Type}(N:Nat)(σ:S)(d:Nat)(x:A)(k:S->ah X):ah X:=
 match x.Af with
 |some xs=>bif xs.all Lf.live then iF N σ d (.aB (xs.map (Lf.drop d))) (.aE d 0) k else none
 |none=>none
def Pb{X:Type}(x:A)(k:A->ah X):ah X:=
 match x with
 |.aE r j=>k (.aE r j)
 |.ptr q=>k (.ptr q)
 |.jW cs=>k (.jW cs)
 |_=>none
section
variable {P:Program} {w w':World} {w0:Wd} {B N:Nat} {aj aD:bJ} {ρ ρ':Nat->Loc} {σ:S} {a:Act} {X:Type} {d:Nat} {r:X} {o:Oper}
def ap3{e:TypeId}{x:A}{k:S -> ah X}(h:AL N σ d x k=some r):∃ D,k D=some r /\ ∀ aj ρ a w,Rl w0 N aj ρ σ a w -> ∀ u,RA w w0.heap.size aj ρ x u ->
  ∃w' aD ρ' v,(Instr.box e u).run P w = .ok v w'/\Rl w0 N aD ρ' D (a.put (some d) v) w':=by
 unfold AL at h;split at h
 ·rename_i xs Y;cases E:xs.all Lf.live with
  |false=>grind
  | true=>
   rw[E,aq]at h;obtain⟨I,h⟩:=oG h
   refine⟨_,h,λaj ρ a w hR u hu=>?_⟩
   obtain⟨hl,_⟩:=IB Y E hu;have cH:(Instr.box e u).run P w = .ok (.pointer (some ⟨w.heap.size,0,none⟩)) (w.alloc (.cells u.cells e)):=by
    simp[Instr.box,newVar,newRow]
   refine⟨_,cc aj w.heap.size (some [d]),cc ρ d (.aB w.heap.size 0),_,cH,(hR.Ct (hR.dY d (.inl I)) (λr C=>cN _ _ _ C) ?_).set ⟨w.heap.size,0,cm _ _ _,rfl⟩ I⟩
   have h1:fy (w.alloc (.cells u.cells e)) w0.heap.size (cc aj w.heap.size (some [d])) ρ xs u.cells:=
    hl.nQ (by simp) (λb hb=>⟨Below.heap_alloc w _ b hb,cN _ _ _ (by omega)⟩) (λb k hb=>(hR.dI b k hb).2.1)
   have O:=h1.gf (ρ':=cc ρ d (.aB w.heap.size 0)) (d:=d) (λr C=>cN _ _ _ C)
   refine .aB w.heap.size 0 u.cells e _ (λj=>u.cells.getD j undef) (cm _ _ _) (cm _ _ _) (heap_alloc_new w _) (by rw[O.1];omega) λj y hy=>?_
   obtain⟨v,U,C⟩:=O.2 j y hy;have hg:u.cells.getD j undef=v:=by rw[jv,U];rfl
   rw[hg,fB];exact⟨U,C⟩
 ·cases h
def ap4{x:A}{k:S -> ah X}(h:AL N σ d x k=some r):∃ y u,k (((σ.drop d).root d y).set d u)=some r/\(∀ (C:S),nS (λX k=>AL (X:=X) N C d x k) (((C.drop d).root d y).set d u)):=by
 unfold AL at h;split at h
 ·rename_i xs E;cases D:xs.all Lf.live with
  |false=>simp_all
  | true=>
   rw[D]at h;obtain⟨I,_⟩:=CN h
   refine⟨_,_,I,λC X k=>?_⟩
   obtain⟨O,_⟩:=oG h;have hb:Nat.blt d N=true:=mT O;simp[AL,E,D,iF,hb,aq]
 ·cases h
def ap5{x:A}{k:A->ah X}(h:Pb x k=some r):k x=some r/\∀ u,RA w B aj ρ x u->∃ ad,u = .pointer (some ad):=by
 unfold Pb at h;split at h
 ·exact⟨h,λu C=>by obtain⟨b,off,_,rfl⟩:=C;exact⟨_,rfl⟩⟩
 ·exact⟨h,λu C=>by obtain⟨ad,rfl,_⟩:=C;exact⟨_,rfl⟩⟩
 ·exact⟨h,λu C=>by obtain⟨b,off,rfl,_⟩:=C;exact⟨_,rfl⟩⟩
 ·cases h
end
def rF(t:TypeId):Bool:=[999999,999999,50,999999,57,999999,999999,999999,999999,999999,39,999999,999999,999999,999999,999999].any (Nat.beq t)
def V.lit:V->Bool
 |.sl _ _ _ _=>false
 |_=>true
def Wp(tc:TC)(len:Nat)(cs:aa Lf):ah (aa (T tc)):=
 bif Nat.ble 2 len then (match uO cs with
  |some C=>bif C.all V.lit then Cx tc (full tc) len C else none
  |none=>none)else none
def wK{X:Type}(P:Program)(N:Nat)(σ:S)(d:Nat)(t:TypeId)(len:Nat)(parts:aa (Nat×Operand))(k:S->ah X):ah X:=
 match wm P t with
 | some (e,tc)=>match zeroOf P e with
  | some z=>bif Nat.beq z.cells.size (aH tc)&&Nat.blt (len*aH tc) 16777217 then (match Am (λi=>some (i*aH tc,aH tc)) (List.replicate len (z.cells.toList.map pI)).flatten (parts.map λp=>(p.1,aL σ p.2))with
   | some cs=>bif Nat.beq len 0 then iF N σ d (.sl (.sl tc (full tc+2) true [])) (.lf (.own [d])) k else (match Wp tc len cs with
    |some l=>iF N σ d (.sl (.sl tc (full tc+2) true l)) (.lf (.own [d])) k
    |none=>iF N σ d (.aB (cs.map (Lf.drop d))) (.pk d len) k)
   |none=>none)else none
  |none=>none
 |none=>none
def CP{X:Type}(N:Nat)(σ:S)(d r C:Nat)(tc:TC)(n:Nat)(k:S->ah X):ah X:=
 match σ.m C,σ.m r with
 | some (.aB cs),some (.sl (.sl D (o+2) q l))=>if h:D=tc then (match iV r (λj=>(j % aH tc) :: (l.length+j / aH tc) :: aH tc :: [r]) cs.length 0 cs σ with
  | some (E,I)=>(match Cx tc o n E with
   |some l2=>bif Nat.blt d N&&bE (l.length+l2.length)then k (((I.drop r).root r (.sl (.sl tc (o+2) false ((h ▸ l)++l2)))).set d (.lf (.own [r])))else none
   |none=>none)
  |none=>none)else none
 |_,_=>none
def Jh{X:Type}(P:Program)(N:Nat)(σ:S)(d:Nat)(t:TypeId)(x y:A)(k:S->ah X):ah X:=
 match wm P t,y with
 | some (e,tc),.pk C n=>bif (zeroOf P e).any (λz=>Nat.beq z.cells.size (aH tc))&&(Nat.blt d N&&Nat.blt n sA)then (match x with
  |.lf (.v .nil)=>CP N ((σ.drop d).root d (.sl (.sl tc (full tc+2) false []))) d d C tc n k
  |.lf (.own [r])=>bif Nat.blt r N ||Nat.ble 60000 r then CP N σ d r C tc n k else none
  |_=>none)else none
 |_,_=>none
def vb{X:Type}(P:Program)(σ:S)(t:TypeId)(x y:A)(k:S->ah X):ah X:=
 match kr P t,y.Af,x with
 | some n,some xs,.ptr [j,i,s,r]=>if xs.length=n then (bif xs.all Lf.live then (match iV r (λm=>(j+m) :: i :: s :: [r]) xs.length 0 xs σ with
  | some (E,D)=>(match D.m r with
   | some (.sl (.sl C (o+2) I l))=>if s=aH C then (if h:i<l.length then (if j+n<=aH C then (match dec C o (splice (enc C o l[i]) j E)with
    |some e=>k (D.dR [r] [] [(r,.sl (.sl C (o+2) I (l.set i e)))])
    |none=>none)else none)else none)else none
   |_=>none)
  |none=>none)else none)else none
 |_,_,_=>none
def yK(x y:A):Bool:=match x,y.Af with
 |.ptr _,some xs=>(sD xs).isNone
 |_,_=>false
section
variable {P:Program} {w w':World} {w0:Wd} {B N:Nat} {aj aD:bJ} {ρ ρ':Nat->Loc} {σ:S} {a:Act} {X:Type} {d:Nat} {r:X} {o:Oper}
def ac2{place:Nat -> ah (Nat×Nat)}:∀ (parts:aa (Nat×A)) (cells out:aa Lf),Am place cells parts=some out -> out.length=cells.length
 |[],cells,out,h=>by injection h with h;rw[h]
 | (i,x) :: rest,cells,out,h=>by
  unfold Am at h;split at h
  ·rename_i off n xs C D;split at h
   ·rename_i E;cases hl:xs.all _ with
    | true=>
     rw[hl]at h;rw[ac2 rest _ _ h,uG _ _ _ (by omega)]
    |false=>simp_all
   ·cases h
  ·cases h
def RV.ap6{q C:aa Nat}{x:V}{v:Value}{B':Nat}{aD:bJ}(h:RV w B aj q x v)(D:x.lit=true):RV w' B' aD C x v:=by
 cases h<;>first|exact .int _ _ _|exact .bool _ _|exact .str _ _|exact .nil _|cases D
def ap7{tc:TC}{len:Nat}{cs:aa Lf}{l:aa (T tc)}(h:Wp tc len cs=some l):∃ C,cs=C.map .v/\(∀ x∈C,V.lit x=true)/\Cx tc (full tc) len C=some l:=by
 unfold Wp at h;cases E:Nat.ble 2 len with
 |false=>rw[E]at h;cases h
 | true=>
  rw[E,aq]at h;split at h
  ·rename_i C I;cases D:C.all V.lit with
   |false=>rw[D]at h;cases h
   | true=>
    rw[D,aq]at h;exact⟨C,IP cs C I,λx O=>ck.1 D x O,h⟩
  ·cases h
def ap8{t:TypeId}{len:Nat}{parts:Array (Nat×Operand)}{k:S->ah X}(h:wK P N σ d t len parts.toList k=some r):∃ cW,k cW=some r/\∀ aj ρ a w,Rl w0 N aj ρ σ a w->
  ∃w' aD ρ' v,(Instr.buildSlice t len (parts.map λ(i,x)=>(i,a.eval x))).run P w = .ok v w'/\Rl w0 N aD ρ' cW (a.put (some d) v) w':=by
 unfold wK at h;split at h
 ·rename_i e tc lA;obtain⟨gP,ht,i,hi,gx,kZ⟩:=Ak lA;split at h
  ·rename_i z hz;cases hc:(Nat.beq z.cells.size (aH tc)&&Nat.blt (len*aH tc) 16777217)with
   |false=>rw[hc]at h;cases h
   | true=>
    rw[hc,aq]at h;rw[aP]at hc;have ox:=cL hc.1;have hsm:len*aH tc<16777217:=by have:=dj hc.2;omega
    have qA:i.zero=some z:=by unfold zeroOf at hz;simpa [hi]using hz
    split at h
    ·rename_i cs gA;have key:∀ aj ρ (a:Act) w,Rl w0 N aj ρ σ a w->∃ C,(Instr.buildSlice t len (parts.map λ(i,x)=>(i,a.eval x))).run P w = .ok (.slice (some ⟨w.heap.size,0,none⟩) len len) (w.alloc (.cells C e))/\fy w w0.heap.size aj ρ cs C/\C.size=cs.length:=λaj ρ a w hR=>by
      have Vo:fy w w0.heap.size aj ρ (List.replicate len (z.cells.toList.map pI)).flatten (madeCells z.cells (len*aH tc)):=by
       have e1:(List.replicate len (z.cells.toList.map pI)).flatten=((List.replicate len z.cells.toList).flatten).map pI:=by
        rw[List.map_flatten,List.map_replicate]
       rw[e1,<-ab8 z.cells (aH tc) len ox (pE tc)]
       refine⟨by simp,λj x D=>?_⟩
       rw[fh]at D;cases I:(madeCells z.cells (len*aH tc)).toList[j]? with
       |none=>rw[I]at D;cases D
       | some v=>
        rw[I]at D;injection D with D;subst D;exact⟨v,by simpa using I,OH v⟩
      obtain⟨C,yz,hl⟩:=OP (w:=w) (B:=w0.heap.size) (aj:=aj) (ρ:=ρ) _ _ _ (parts.toList.map λp=>(p.1,a.eval p.2)) cs gA Vo (by simp) (λj p q hp hq=>by
       rw[fh]at hp hq;cases D:parts.toList[j]? with
       |none=>rw[D]at hp;cases hp
       | some x=>
        rw[D]at hp hq;injection hp with hp;injection hq with hq;subst hp hq;exact⟨rfl,hR.aL x.2⟩)
      have cH:(Instr.buildSlice t len (parts.map λ(i,x)=>(i,a.eval x))).run P w = .ok (.slice (some ⟨w.heap.size,0,none⟩) len len) (w.alloc (.cells C e)):=by
       have IN:(parts.map λ(i,x)=>(i,a.eval x)).toList=parts.toList.map λp=>(p.1,a.eval p.2):=by simp
       by_cases h0:len*aH tc=0
       ·have hm:madeCells z.cells (len*aH tc) = #[]:=by rw[h0];simp[madeCells]
        rw[hm]at yz;have Vq:len*i.size=0:=by rw[gx];exact h0
        rw[<-gx]at yz;have e0:∀f:Nat->Value,Array.map f (Array.range 0) = #[]:=λf=>by simp
        simp only[Instr.buildSlice,gN,iJ gP,mS,sizeOf,typeInfo];simp[hi,Vq];rw[e0,yz];simp[newRow]
       ·exact run_buildSlice (P:=P) w t e len _ C i z gP hi qA (by rw[gx];omega) (by rw[gx];exact h0) (by rw[gx,IN];exact yz)
      exact⟨C,cH,hl,hl.1⟩
     cases jj:Nat.beq len 0 with
     | true=>
      rw[jj,aq]at h;have hln:=cL jj;subst hln;obtain⟨Y,h⟩:=oG h
      refine⟨_,h,λaj ρ a w hR=>?_⟩
      obtain⟨C,cH,hl,hcz⟩:=key aj ρ a w hR;have tN:cs.length=0:=by
       have h1:=ac2 _ _ _ gA;rw[h1];simp
      refine⟨_,cc aj w.heap.size (some [d]),cc ρ d (.eU (.slice (some ⟨w.heap.size,0,none⟩) 0 0)),_,cH,(hR.Ct (hR.dY d (.inl Y)) (λr E=>cN _ _ _ E) (.sl _ _ (cm _ _ _) ?_)).set ⟨rfl,by simp[dn,cm]⟩ Y⟩
      exact RV.own (w:=w.alloc (.cells C e)) (B:=w0.heap.size) (aj:=cc aj w.heap.size (some [d])) [d] tc (full tc) true [] w.heap.size 0 C (λ_ _=>undef)
       (cm _ _ _) (by rw[ht];exact heap_alloc_new w _) (by omega) (dc _) ⟨by unfold maxLen;omega,λ_=>rfl⟩ (λO U=>absurd U (by simp)) (λO U=>absurd U (by simp))
     |false=>
     rw[jj,av]at h;split at h
     ·rename_i l Ji;obtain⟨vs,IV,ap9,Wq⟩:=ap7 Ji;obtain⟨Y,h⟩:=oG h
      refine⟨_,h,λaj ρ a w hR=>?_⟩
      obtain⟨C,cH,hl,_⟩:=key aj ρ a w hR;obtain⟨yx,yo,jk⟩:=OQ tc (full tc) len vs l Wq;have Vp:C.size=len*aH tc:=by rw[hl.1,IV,fN,yo]
      refine⟨_,cc aj w.heap.size (some [d]),cc ρ d (.eU (.slice (some ⟨w.heap.size,0,none⟩) len len)),_,cH,(hR.Ct (hR.dY d (.inl Y)) (λr E=>cN _ _ _ E) (.sl _ _ (cm _ _ _) ?_)).set ⟨rfl,by simp[dn,cm]⟩ Y⟩
      have tF:∀ O (U:O<l.length) j x,(enc tc (full tc) l[O])[j]?=some x->∃ v,C[O*aH tc+j]?=some v/\∀ (w':World) (B':Nat) (aD:bJ) (q':aa Nat),RV w' B' aD q' x v:=by
       intro O U j x D;obtain⟨y,hy,hw⟩:=jk O U j x D;obtain⟨v,I,E⟩:=hl.2 (O*aH tc+j) (.v y) (by rw[IV,fh,hy];rfl);exact⟨v,I,λw' B' aD q'=>(E.2.ap6 (ap9 y (iB hy))).wk hw⟩
      have:=RV.own (w:=w.alloc (.cells C e)) (B:=w0.heap.size) (aj:=cc aj w.heap.size (some [d])) [d] tc (full tc) true l w.heap.size len C (λi j=>(C[i*aH tc+j]?).getD undef)
       (cm _ _ _) (by rw[ht];exact heap_alloc_new w _) Vp (by omega) ⟨by have:=Nat.le_mul_of_pos_right len (pE tc);unfold maxLen;omega,λ_=>yx.symm⟩ (λO U j x D=>?_) (λO U j x D=>?_)
      ·rw[yx]at this;exact this
      ·obtain⟨v,I,_⟩:=tF O U j x D;rw[I];rfl
      ·obtain⟨v,I,E⟩:=tF O U j x D;rw[I];exact E _ _ _ _
     obtain⟨Y,h⟩:=oG h
     refine⟨_,h,λaj ρ a w hR=>?_⟩
     obtain⟨C,cH,hl,_⟩:=key aj ρ a w hR
     refine⟨_,cc aj w.heap.size (some [d]),cc ρ d (.aB w.heap.size 0),_,cH,(hR.Ct (hR.dY d (.inl Y)) (λr E=>cN _ _ _ E) ?_).set ⟨w.heap.size,cm _ _ _,(UU (by have:=Nat.le_mul_of_pos_right len (pE tc);unfold sA;omega)).symm⟩ Y⟩
     have h1:fy (w.alloc (.cells C e)) w0.heap.size (cc aj w.heap.size (some [d])) ρ cs C:=
      hl.nQ (by simp) (λb hb=>⟨Below.heap_alloc w _ b hb,cN _ _ _ (by omega)⟩) (λb k hb=>(hR.dI b k hb).2.1)
     have h2:=h1.gf (ρ':=cc ρ d (.aB w.heap.size 0)) (d:=d) (λr E=>cN _ _ _ E)
     refine .aB w.heap.size 0 C e _ (λj=>C.getD j undef) (cm _ _ _) (cm _ _ _) (heap_alloc_new w _) (by rw[h2.1];omega) λj y hy=>?_
     obtain⟨v,I,E⟩:=h2.2 j y hy;have hg:C.getD j undef=v:=by rw[jv,I];rfl
     rw[hg,fB];exact⟨I,E⟩
    ·cases h
  ·cases h
 ·cases h
def aqa{t:TypeId}{len:Nat}{parts:aa (Nat×Operand)}{k:S->ah X}(h:wK P N σ d t len parts k=some r):∃ y u,k (((σ.drop d).root d y).set d u)=some r/\
  (∀(C:S),(∀p∈parts,aL C p.2=aL σ p.2)->nS (λX k=>wK (X:=X) P N C d t len parts k) (((C.drop d).root d y).set d u)):=by
 unfold wK at h;split at h
 ·rename_i e tc lA;split at h
  ·rename_i z hz;cases D:(Nat.beq z.cells.size (aH tc)&&Nat.blt (len*aH tc) 16777217)with
   |false=>rw[D]at h;cases h
   | true=>
    rw[D,aq]at h;split at h
    ·rename_i cs gA;cases E:Nat.beq len 0 with
     | true=>
      rw[E,aq]at h;obtain⟨I,_⟩:=CN h
      refine⟨_,_,I,λC O X k=>?_⟩
      obtain⟨U,_⟩:=oG h;have Y:Nat.blt d N=true:=mT U;have e:(parts.map λp=>(p.1,aL C p.2))=parts.map λp=>(p.1,aL σ p.2):=List.map_congr_left λp hp=>by rw[O p hp]
      simp only[wK,lA,hz,D,aq,e,gA,iF,Y,E]
     | false=>
      rw[E,av]at h;split at h
      ·rename_i l Ji;obtain⟨I,_⟩:=CN h
       refine⟨_,_,I,λC O X k=>?_⟩
       obtain⟨U,_⟩:=oG h;have Y:Nat.blt d N=true:=mT U;have e:(parts.map λp=>(p.1,aL C p.2))=parts.map λp=>(p.1,aL σ p.2):=List.map_congr_left λp hp=>by rw[O p hp]
       simp only[wK,lA,hz,D,aq,e,gA,iF,Y,E,av,Ji]
      ·rename_i Ji;obtain⟨I,_⟩:=CN h
       refine⟨_,_,I,λC O X k=>?_⟩
       obtain⟨U,_⟩:=oG h;have Y:Nat.blt d N=true:=mT U;have e:(parts.map λp=>(p.1,aL C p.2))=parts.map λp=>(p.1,aL σ p.2):=List.map_congr_left λp hp=>by rw[O p hp]
       simp only[wK,lA,hz,D,aq,e,gA,iF,Y,E,av,Ji]
    ·cases h
  ·cases h
 ·cases h
def ac3{t e ty:TypeId}{tc:TC}{i:TypeInfo}{z:Value}{rr ry n:Nat}{k:S -> ah X}(gP:P.underlying t=some (.slice e))(ht:tid tc=e)(hi:P.info? e=some i)(hz:i.zero=some z)
  (gx:i.size=aH tc) (kZ:i.bytes <= 65536) (ox:z.cells.size=aH tc) (h:CP N σ d rr ry tc n k=some r):∃cW,k cW=some r /\ ∀aj ρ a w,Rl w0 N aj ρ σ a w -> w0.F rr=none -> ∀u v b,ρ rr = .eU u -> ρ ry = .aB b 0 -> v = .slice (some ⟨b,0,none⟩) n n ->
  ∃w' aD ρ' z,(Builtin.append_ #[t,t] ty #[u,v]).run P w = .ok z w'/\Rl w0 N aD ρ' cW (a.put (some d) z) w':=by
 unfold CP at h;split at h
 ·rename_i cs E o q l Ws hr;split at h
  ·rename_i qB;subst qB;split at h
   ·rename_i vs τ Wu;split at h
    ·rename_i l2 kL;cases Y:(Nat.blt d N&&bE (l.length+l2.length))with
     |false=>rw[Y]at h;cases h
     | true=>
      rw[Y,aq]at h;rw[aP]at Y;have IJ:l.length+l2.length<1073741824:=by simpa [bE]using Y.2
      have hd:d<N:=by have:=dj Y.1;omega
      refine⟨_,h,λaj ρ a w hR hF u v b aqb aqc O=>?_⟩
      subst O;have hy:=hR.root ry _ Ws;generalize C:aX.aB cs=x at hy;cases hy with
      |sl=>cases C
      |mp=>cases C
      |gh=>cases C
      | aB b' off cells e' fM us cu qz hh hs hc=>
       injection C with C;subst C;rw[aqc]at cu;injection cu with e1 e2;subst e1 e2;have m0:fy w w0.heap.size aj ρ cs ((List.range cs.length).map us).toArray:=by
        refine⟨by simp,λj x I=>?_⟩
        have D:j<cs.length:=(eO.1 I).1;exact⟨us j,by simp[D],(hc j x I).2⟩
       obtain⟨aD,fz,yo,Pc,_,qv,mB,_,_⟩:=OC (w0:=w0) (N:=N) (λj=>by simp[dZ]) _ _ _ _ _ _ Wu aj ρ a w hR _ m0;obtain⟨yx,aqd,jk⟩:=OQ E o n vs l2 kL;have wo:cs.length=n*aH E:=by rw[<- yo,aqd]
       have m7:∀ j,j<cs.length -> (us j).oneCell'=true:=by
        intro j D;have I:=bT (by rw[yo];exact D);obtain⟨u',tG,U⟩:=Pc j _ I;have:u'=us j:=by simpa [D]using tG.symm
        rw[<- this];exact U.one
       have Wv:b<w.heap.size:=(jU.1 hh).1;have sF:Reads w w.heap.size (aH E) (some ⟨b,0,none⟩) n ((List.range cs.length).map us):=by
        refine⟨by simp[wo],λhn=>⟨b,0,rfl,Wv,λj v O=>?_⟩⟩
        have D:j<cs.length:=by have:=(eO.1 O).1;simpa using this
        have:v=us j:=by simpa [D]using O.symm
        subst this;rw[cell_of_row w b _ cells _ _ hh];simp_all
       have iT:uP w w0.heap.size aD rr l.length E o l2 ((List.range cs.length).map us):=by
        intro i' CQ j x I;have D:j<aH E:=by have:=(eO.1 I).1;rwa [mX]at this
        obtain⟨y,hy,hw⟩:=jk i' CQ j x I;obtain⟨u',tG,U⟩:=Pc _ _ hy;refine⟨u',tG,?_⟩;have e1:(0+(i'*aH E+j)) % aH E=j:=by rw[fB,Nat.add_comm,Nat.add_mul_mod_self_right,Nat.mod_eq_of_lt D]
        have e2:(0+(i'*aH E+j)) / aH E=i':=by rw[fB,Nat.add_comm,Nat.add_mul_div_right _ _ (pE E),Nat.div_eq_of_lt D,fB]
        simp only[e1,e2]at U;exact U.wk hw
       have CR:=fz.root rr _ (qv _ hr);generalize C:aX.sl (.sl E (o+2) q l)=x at CR;cases CR with
       |aB=>cases C
       |mp=>cases C
       |gh=>cases C
       | sl uu y jO U=>
        injection C with C;subst C;rw[aqb]at jO;injection jO with jO;subst jO;obtain⟨v',w',fe,cH,mF,ia⟩:=fz.ao3 (ty:=ty) (c:=n) hF gP ht hi hz gx kZ ox U sF (λv O=>by
         obtain⟨j,D⟩:=List.mem_iff_getElem?.1 O;have IM:j<cs.length:=by have:=(eO.1 D).1;simpa using this
         have:v=us j:=by simpa [IM]using D.symm
         rw[this];exact m7 j IM) yx.symm iT IJ
        exact⟨w',fe,_,v',cH,mF.set ⟨ia,by simp[dn,cm]⟩ hd⟩
    ·cases h
   ·cases h
  ·cases h
 ·cases h
def aqe{rr C n:Nat}{tc:TC}:cU λX k=>CP (X:=X) N σ d rr C tc n k:=λX Y k g=>by
 unfold CP
 repeat' first|rfl|refine dN ?_ ?_|split
def aqf{t ty:TypeId}{x y:A}{k:S -> ah X}(h:Jh P N σ d t x y k=some r):∃ C,k C=some r /\ ∀ aj ρ a w,Rl w0 N aj ρ σ a w -> ∀ u v,RA w w0.heap.size aj ρ x u -> RA w w0.heap.size aj ρ y v ->
  ∃w' aD ρ' z,(Builtin.append_ #[t,t] ty #[u,v]).run P w = .ok z w'/\Rl w0 N aD ρ' C (a.put (some d) z) w':=by
 unfold Jh at h;split at h
 ·rename_i e tc ry n lA;obtain⟨gP,ht,i,hi,gx,kZ⟩:=Ak lA;cases E:((zeroOf P e).any (λz=>Nat.beq z.cells.size (aH tc))&&(Nat.blt d N&&Nat.blt n sA))with
  |false=>simp_all
  | true=>
   rw[E,aq]at h;rw[aP]at E;obtain⟨z,hz,I⟩:=(Option.any_eq_true _ _).1 E.1;have I:=cL I;have qA:i.zero=some z:=by unfold zeroOf at hz;simpa [hi]using hz
   have O:=E.2;rw[aP]at O;have hd:d<N:=by have:=dj O.1;omega
   have kO:n<sA:=by have:=dj O.2;omega
   split at h
   ·obtain⟨C,U,Y⟩:=ac3 (w0:=w0) (ty:=ty) gP ht hi qA gx kZ I h
    refine⟨C,U,λaj ρ a w hR u v D hv=>?_⟩
    have D:u = .slice none 0 0:=by cases D.2;rfl
    subst D;obtain⟨b,hb,rfl⟩:=hv;have Ws:ry≠d:=by
     rintro rfl;unfold CP at h;split at h
     ·simp_all
     ·cases h
    have hR0:=hR.new (d:=d) (x:=.sl (.sl tc (full tc+2) false [])) (.eU (.slice none 0 0)) (.sl _ _ (cm _ _ _) (.fq _ _ _)) (hR.dY d (.inl hd));exact Y _ _ a w hR0 (hR.dY d (.inl hd)) _ _ b (cm _ _ _) ((cN _ _ _ Ws).trans hb) (UU kO)
   ·rename_i rr;cases hL:(Nat.blt rr N || Nat.ble 60000 rr)with
    |false=>simp_all
    | true=>
     rw[hL,aq]at h;rw[eN]at hL;have qv:rr<N \/ 60000 <= rr:=hL.imp (λh=>by have:=dj h;omega) (λh=>dj h);obtain⟨C,U,Y⟩:=ac3 (w0:=w0) (ty:=ty) gP ht hi qA gx kZ I h
     refine⟨C,U,λaj ρ a w hR u v D hv=>?_⟩
     obtain⟨b,hb,rfl⟩:=hv;have cu:ρ rr = .eU u:=by
      have h4:=D.2;simp only[dn]at h4;cases hl:ρ rr with
      |aB b o=>simp_all
      |cE us=>simp_all
      |eU v=>simp_all
     exact Y aj ρ a w hR (hR.dY rr qv) _ _ b cu hb (UU kO)
   ·cases h
 ·cases h
def aqg{t:TypeId}{x y:A}:cU λX k=>Jh (X:=X) P N σ d t x y k:=λX Y k g=>by
 unfold Jh
 repeat' first|rfl|exact aqe _ _ _ _|refine dN ?_ ?_|split
def aqh{t:TypeId}{x y:A}{k:S -> ah X}(h:vb P σ t x y k=some r):∃ cW,k cW=some r /\ ∀ aj ρ a w,Rl w0 N aj ρ σ a w -> ∀ u v,RA w w0.heap.size aj ρ x u -> RA w w0.heap.size aj ρ y v ->
  ∃w' aD,(Instr.storeAt t u v).run P w = .ok () w'/\Rl w0 N aD ρ cW a w':=by
 unfold vb at h;split at h
 ·rename_i n xs j i s rr hn oE;split at h
  ·rename_i hlen;cases Ww:xs.all Lf.live with
   |false=>rw[Ww]at h;cases h
   | true=>
    rw[Ww,aq]at h;split at h
    ·rename_i vs τ Wu;split at h
     ·rename_i C o' qn l jn;split at h
      ·rename_i yg;split at h
       ·rename_i hi;split at h
        ·rename_i hj;split at h
         ·rename_i e he
          refine⟨_,h,λaj ρ a w hR u v hu hv=>?_⟩
          obtain⟨ad,rfl,I⟩:=hu;obtain⟨hl,m7⟩:=IB oE Ww hv;have m0:fy w w0.heap.size aj ρ xs v.cells.toList.toArray:=by simpa using hl
          obtain⟨aD,fz,yo,Pc,_,qv,mB,aGj,_⟩:=OC (w0:=w0) (N:=N) (λm=>by simp[dZ]) _ _ _ _ _ _ Wu aj ρ a w hR _ m0;simp only[addrAt]at I;split at I
          ·rename_i b n0 c0 cu;split at I
           ·rename_i qz;injection I with I;subst I;have CR:=fz.root rr _ jn;generalize D:aX.sl (.sl C (o'+2) qn l)=x at CR;cases CR with
            |aB=>cases D
            |mp=>cases D
            |gh=>cases D
            | sl uu y jO gz=>
             injection D with D;subst D;rw[cu]at jO;injection jO with jO;subst jO;cases gz with
             |aI _ _ _ _ _ _ _ _ _ ho=>omega
             |gy=>simp at hi
             |gL=>simp at hi
             | own _ _ _ _ _ _ cap cs us Pd hh hs rj hm hc hr=>
              subst yg;have Wx:v.cells.size=n:=by rw[hl.1,hlen]
              have uJ:i*aH C+aH C <= c0*aH C:=by
               have:(i+1)*aH C <= c0*aH C:=jd _ (by omega);rw[jV]at this;exact this
              have mZ:i*aH C+j+v.cells.toList.length <= cs.size:=by rw[mR,Wx,hs];omega
              have U:=Ow w b (i*aH C+j) v.cells.toList;obtain⟨c2,iT,pG⟩:=Im b (tid C) v.cells.toList (i*aH C+j) w cs hh mZ;have uK:∀ m,c2[m]?=if m<i*aH C+j then cs[m]? else if m<i*aH C+j+n then v.cells[m-(i*aH C+j)]? else cs[m]?:=by
               intro m;have e2:c2[m]?=(splice cs.toList (i*aH C+j) v.cells.toList)[m]?:=by
                rw[show c2[m]?=c2.toList[m]? by simp,pG];rfl
               rw[e2,yf _ _ _ (by simpa using mZ),mR,Wx];simp
              have Iw:c2.size=cs.size:=by
               rw[<- mR,pG];have:=uG cs.toList (i*aH C+j) v.cells.toList (by simpa using mZ);simp only[splice]at this;simp_all
              have Wv:b<w.heap.size:=(jU.1 hh).1;have hz:w.heap.size <= (w.setCells b (i*aH C+j) v.cells.toList).heap.size:=Nat.le_of_eq U.size.symm;have Wy:∀E,E<w.heap.size -> aD E≠some [rr] -> (w.setCells b (i*aH C+j) v.cells.toList).heap[E]?=w.heap[E]?:=λE _ cx=>U.block E (by rintro rfl;exact cx Pd)
              have IC:w.there b (i*aH C+j) v.cells.size:=by
               intro m ru;refine⟨?_,frozen_of_row w b _ cs _ hh⟩;rw[cell_of_row w b _ cs _ _ hh];simp;omega
              have jz:vs.length=n:=by rw[yo,hlen]
              refine⟨_,aD,U7 w b _ t v IC (by rw[Wx];exact hn) m7,fz.AE (ns:=[rr]) (cn:=[]) (gi:=ρ) (fe:=aD) ⟨hz,λE Fc Y=>⟨U.block E ?_,rfl⟩,λ_ _=>rfl,λE k Y=>(fz.dI E k Y).2⟩
               ⟨U.os,U.tape,U.output,hz,λk Y hL=>U.block k ?_⟩ (λE k Y=>?_) (λr hr=>by cases hr) (λr0 x D=>?_)⟩
              ·rintro rfl;have:=Y _ Pd;simp[iq,dB]at this
              ·rintro rfl;rcases(fz.dI k _ Pd).1 with h1 | h1
               ·exact absurd Y (Nat.not_lt.2 h1)
               ·exact h1 hL
              ·have:=fz.dI E k Y;exact⟨this.1,Nat.lt_of_lt_of_le this.2.1 hz,this.2.2⟩
              ·have jA:r0=rr/\x = .sl (.sl C (o'+2) qn (l.set i e)):=by
                simp only[List.lookup]at D;split at D
                next Fc=>injection D with D;exact⟨by simpa using Fc,D.symm⟩
                ·cases D
               obtain⟨rfl,rfl⟩:=jA;refine .sl _ _ cu ?_
               refine RV.U2 (u:=us) (us:=λ_ m=>v.cells.getD (m-j) undef) (cs:=cs) (xs:=vs) Pd iT (Iw.trans hs) rj hm hi (by rw[jz];exact hj) he (λO h' j' x l5 Ox=>?_) (λm x l5=>?_)
               ·have qw:j'<aH C:=by have:=(eO.1 l5).1;rwa [mX]at this
                refine⟨?_,(hr O h' j' x l5).under (n:=r0) (.inl (by simp)) hz Wy (λ_ _=>rfl)⟩
                rw[uK];have Ac:¬ (¬ O*aH C+j'<i*aH C+j/\O*aH C+j'<i*aH C+j+n):=by
                 rintro⟨h1,h2⟩;rcases Nat.lt_trichotomy O i with dQ|heq|U3
                 ·have:(O+1)*aH C <= i*aH C:=jd _ dQ;rw[jV]at this;omega
                 ·subst heq;exact Ox ⟨rfl,by omega,by omega⟩
                 ·have:(i+1)*aH C <= O*aH C:=jd _ U3;rw[jV]at this;omega
                split
                ·exact hc O h' j' x l5
                ·rw[bk];exact hc O h' j' x l5
               ·obtain⟨v0,rA,iL⟩:=Pc m x l5;have ru:m<n:=by rw[<- jz];exact(eO.1 l5).1
                have OM:v.cells[m]?=some v0:=by simpa using rA
                have Ad:v.cells.getD (j+m-j) undef=v0:=by rw[show j+m-j=m by omega,jv,OM];rfl
                show c2[_]?=some (v.cells.getD (j+m-j) undef)/\RV _ _ _ _ _ (v.cells.getD (j+m-j) undef);rw[Ad,uK,bk,bg];rw[fB]at iL
                refine⟨?_,iL.under (n:=r0) (.inl (by simp)) hz Wy (λ_ _=>rfl)⟩
                rw[show i*aH C+(j+m)-(i*aH C+j)=m by omega];exact OM
           ·cases I
          ·cases I
         ·cases h
        ·cases h
       ·cases h
      ·cases h
     ·cases h
    ·cases h
  ·cases h
 ·cases h
def aqi{t:TypeId}{x y:A}:cU λX k=>vb (X:=X) P σ t x y k:=λX Y k g=>by
 unfold vb
 repeat' first|rfl|refine dN ?_ ?_|split
end
def Pe(P:Program)(f:Nat)(F:aa Int->ah Int):Prop:=
 ∀ (w:World) (l:aa (T .u8)) (h:Int) (v:Value),F l=some h->RV w w.heap.size (λ_=>none) [] (.sl .u8 0 false l) v->Hd w (λ_=>none)->Calls P f #[v] w λe w'=>
  ∃b off cells t,e = .returned (.pointer (some ⟨b,off,none⟩))/\Below w.heap.size w w'/\w.heap.size<=b/\w'.heap[b]?=some (.cells cells t (0,0))/\cells[off]?=some v/\cells[off+1]?=some (.int .i64 0)/\cells[off+2]?=some (.int .i64 h)
def Jk{X:Type}(N:Nat)(σ:S)(d:Nat)(F:aa Int->ah Int)(x:A)(k:S->ah X):ah X:=
 match x with
 | .lf (.v (.sl .u8 0 q l))=>bif Nat.blt d N then (match F l with
  |some h=>k (((σ.drop (1000000000100000+1000*d)).root (1000000000100000+1000*d) (.aB [.v (.sl .u8 0 q l),.v (.int .i64 0),.v (.int .i64 h)])).set d (.aE (1000000000100000+1000*d) 0))
  |none=>none)else none
 |_=>none
structure vc where
 run:(X:Type)->Nat->S->List A->(S->A->Option X)->Option X
def Fy{α β:Type}(f:(X:Type)->(α->β->ah X)->ah X):Prop:=∀(X Y:Type) (k:α->β->ah X) (g:X->ah Y),(f X k).bind g=f Y λa b=>(k a b).bind g
def Fy.m6{α β:Type}{f:(X:Type)->(α->β->ah X)->ah X}(n:Fy f){X:Type}{k:α->β->ah X}{r:X}(h:f X k=some r):∃ a b,k a b=some r/\∀ (X:Type) (k:α->β->ah X),f X k=k a b:=by
 obtain⟨⟨a,b⟩,C,D⟩:=cU.m6 (f:=λX (k:α×β->ah X)=>f X λa b=>k (a,b)) (λX Y k g=>n X Y _ g) (k:=λp=>k p.1 p.2) h;exact⟨a,b,C,λX k=>D X λp=>k p.1 p.2⟩
def pN(P:Program)(f:Nat)(c:vc):Prop:=(∀ N σ xs,Fy λX k=>c.run X N σ xs k)/\
 ∀ [Inhabited Wd] (N:Nat) (σ:S) (xs:aa A) (C:S) (y:A),c.run (S×A) N σ xs (λσ y=>some (σ,y))=some (C,y)->
  ∀ (w0:Wd) (aj:bJ) (ρ:Nat->Loc) (a:Act) (w:World) (cE:Array Value),Rl w0 N aj ρ σ a w->cE.size=xs.length->(∀ i,RA w w0.heap.size aj ρ ((xs[i]?).getD .undef) (cE.getD i undef))->
   Calls P f cE w λe w'=>∃v aD ρ',e = .returned v/\Rl w0 N aD ρ' C a w'/\RA w' w0.heap.size aD ρ' y v
inductive rG where
 |p (c:jQ)
 |m (c:qG)
 |n (F:List Int->Option Int)
 |v (c:Unit)
 |i (c:vc)
 |d (c:qG)
 |q (c:jQ)
 |c (c:qG)
def Wz(P:Program)(f:Nat):rG->Prop
 |.p c=>jl P f c
 |.m c=>yC P f c
 |.n F=>Pe P f F
 |.v c=>True
 |.i c=>pN P f c
 |.d c=>yC P f c
 |.q c=>jl P f c
 |.c c=>yC P f c
section
variable {P:Program} {w w':World} {w0:Wd} {B N:Nat} {aj fe aD:bJ} {ρ gi ρ':Nat->Loc} {σ:S} {a:Act} {X:Type} {d:Nat} {r:X} {ns cn:aa Nat} {o:Oper}
def ac4:∀ (xs:aa Lf),cU λX k=>tO (X:=X) σ ns xs k
 |[]=>λ_ _ _ _=>rfl
 |x::xs=>λX Y k g=>dN ((Fw.comp λy=>(ac4 xs).comp (b:=λX k ys=>k (y.gT::ys)) λ_ _ _ _ _=>rfl) X Y k g) rfl
def ac5{x:A}:cU λX k=>sO (X:=X) σ ns x k:=λX Y k g=>by
 unfold sO
 repeat' first|rfl|exact ac4 _ _ _ _ _|refine dN ?_ ?_|split
def Pf:∀ (ps:aa PK) (xs:aa Operand) (C:aa Mu),cU λX k=>kA (X:=X) σ ns ps xs C k:=λps=>by
 induction ps with
 |nil=>intro xs C X Y k g;cases xs<;>cases C<;>rfl
 | cons p ps D=>
  intro xs C X Y k g;cases xs with
  |nil=>cases p<;>cases C<;>rfl
  | cons x xs=>
   cases p with
   | v b t=>
    refine(ac5 _ _ _ _).trans (bC _ (funext λp=>dN ?_ rfl))
    split
    ·exact D _ _ _ _ _ _
    ·rfl
   | p t E o=>
    cases C with
    |nil=>rfl
    | cons m C=>cases m with
     |sl=>rfl
     | aB=>
      simp only[kA];split
      ·exact D _ _ _ _ _ _
      ·rfl
   | s t E=>
    cases C with
    |nil=>rfl
    | cons m C=>cases m with
     |aB=>rfl
     | sl=>
      simp only[kA];split
      ·exact D _ _ _ _ _ _
      ·rfl
def aqj{C:ah Tmp}{D:gM}:cU λX k=>rE (X:=X) N σ C D k:=λX Y k g=>by
 unfold rE
 repeat' first|rfl|exact O9 _ _ _ _|refine dN ?_ ?_|split
def ac6{C:ah Tmp}{c:qG}{args:aa Operand}:cU λX k=>qI (X:=X) N σ C c args k:=λX Y k g=>by
 unfold qI;split
 ·refine dN ((Pf _ _ _ _ _ _ _).trans (bC _ (funext λx=>?_))) rfl
  split
  ·exact dN (aqj _ _ _ _) rfl
  ·rfl
 ·rfl
def aqk{F:aa Int->ah Int}{x:A}:cU λX k=>Jk (X:=X) N σ d F x k:=λX Y k g=>by
 unfold Jk
 repeat' first|rfl|refine dN ?_ ?_|split
def aql{f:Nat}{x:Operand}{args:Array Operand}{Y:Array TypeId}{F:aa Int -> ah Int}{k:S -> ah X}(ho:o.op = .call { callee:=.value (.func f),args,argTypes:=Y })(hx:args.toList=[x])(hd:o.dst=some d)(he:enters P f)(hc:Pe P f F)(h:Jk N σ d F (aL σ x) k=some r):
  ∃cW,k cW=some r/\nR P w0 N o σ cW:=by
 unfold Jk at h;split at h
 ·rename_i q l hq;cases E:Nat.blt d N with
  |false=>rw[E]at h;cases h
  | true=>
   rw[E,aq]at h;have CE:d<N:=dj E;split at h
   ·rename_i hz hhz
    refine⟨_,h,λa w K Q hR hK=>?_⟩
    obtain⟨aj,ρ,hR⟩:=hR;have I:=hR.aL x;rw[hq]at I;have rA:RV w w.heap.size (λ_=>none) [] (.sl .u8 0 false l) (a.eval x):=by
     have h0:RV w w.heap.size (λ_=>none) [] (.sl .u8 0 q l) (a.eval x):=I.2.gT;cases q with
     |false=>exact h0
     |true=>exact h0.wk (.q _ _ _)
    unfold Oper.wp;rw[VE w o a f args Y ho he,Oper.upon_enter];have CF:(args.map a.eval) = #[a.eval x]:=by apply Array.ext';rw[Array.toList_map,hx];rfl
    rw[CF]
    refine(hc w l _ _ hhz rA (w0.on hR.below (λ_ _ h=>by cases h))).mono λe w' uU=>?_
    obtain⟨b,off,cells,t,rfl,O,hb,hh,tN,hc1,pG⟩:=uU;have hB:=hR.below.size;have iM:b<w'.heap.size:=(jU.1 hh).1;have wL:Rl w0 N (cc aj b (some [1000000000100000+1000*d])) ρ σ a w':=by
     refine hR.grow O (λc U=>cN _ _ _ (by omega)) (λc k U D=>?_)
     by_cases e:c=b
     ·subst e;rw[cm]at D;injection D with D
      grind
     ·rw[cN _ _ _ e]at D;have:=(hR.dI c k D).2.1;omega
    have mF:=wL.new (d:=1000000000100000+1000*d) (x:=.aB [.v (.sl .u8 0 q l),.v (.int .i64 0),.v (.int .i64 hz)]) (.aB b off) (by
     refine .aB b off cells t _ (λj=>(#[a.eval x,.int .i64 0,.int .i64 hz]:Array Value).getD j undef) (cm _ _ _) (cm _ _ _) hh (by
      have:=(jU.1 pG).1;simp;omega) (λj y C=>?_)
     have Vv:eS w' w0.heap.size (cc aj b (some [1000000000100000+1000*d])) (cc ρ (1000000000100000+1000*d) (.aB b off)) (.v (.sl .u8 0 q l)) (a.eval x):=by
      refine⟨rfl,I.2.nQ O.size (λc U=>⟨O.block c U,cN _ _ _ (by omega)⟩)⟩
     match j,C with
     |0,C=>simp at C;subst C;exact⟨tN,Vv⟩
     |1,C=>simp at C;subst C;exact⟨hc1,rfl,.int _ _ _⟩
     |2,C=>simp at C;subst C;exact⟨pG,rfl,.int _ _ _⟩
     |j+3,C=>simp at C) (hR.dY _ (.inr (by omega)))
    rw[hd];exact hK _ _ ⟨_,_,mF.set ⟨b,off,cm _ _ _,rfl⟩ CE⟩
   ·cases h
 ·cases h
/-! Calls of functions that are run in the state of their caller. -/
def Jl{X:Type}(N:Nat)(σ:S)(C:ah Tmp)(c:vc)(xs:aa A)(k:S->ah X):ah X:=c.run X N σ xs λD y=>iU N D C y k
def aqm(p:Nat×Nat):A:=.aE p.1 p.2
def Jm(σ:S):aa Operand->ah (aa (Nat×Nat))
 |[]=>some []
 | x :: xs=>match aL σ x,Jm σ xs with
  |.aE r j,some ps=>some ((r,j)::ps)
  |_,_=>none
def aqn(w:World)(o:Oper)(a:Act)(f:Nat)(cl:Operand)(C:Array Value)(args:Array Operand)(E:Array TypeId)(I:o.op = .call { callee:=.value cl,args,argTypes:=E })(O:a.eval cl = .func (.func f) #[] C)(U:enters P f):
  (execOp a.eval o).run P w = .ok (.enter f (args.map a.eval++C)) w:=by
 obtain⟨fn,Y,h2,D⟩:=U;have h2':¬ fn.name = "runtime.NumGoroutine":=by simpa using h2
 have VF:¬ fn.body=none:=by intro e;rw[e]at D;cases D
 simp[execOp,I,resolve,O,Deferred.ofValue,invoke,callFunc,Sem.run,Y,h2',VF]
def Pg:A->ah (Nat×aa A)
 |.fn f cap=>some (f,cap.map aqm)
 |.oC f cs=>some (f,[.jW cs])
 |_=>none
def aqo{x:A}{f:Nat}{ex:aa A}{u:Value}(h:Pg x=some (f,ex))(U:RA w B aj ρ x u):∃ D:Array Value,u = .func (.func f) #[] D/\D.size=ex.length /\ ∀ (j:Nat) y,ex[j]?=some y -> RA w B aj ρ y (D.getD j undef):=by
 unfold Pg at h;split at h
 ·rename_i f' cap;injection h with h;injection h with E I;subst E I;obtain⟨D,Y,hs,jz⟩:=U
  refine⟨D,Y,by simp[hs],λj y C=>?_⟩
  rw[fh]at C;cases O:cap[j]? with
  |none=>simp_all
  | some p=>
   rw[O]at C;injection C with C;subst C;obtain⟨b,off,E,I⟩:=jz _ p O;rw[jv,I];exact⟨b,off,E,rfl⟩
 ·injection h with h;injection h with E I;subst E I;obtain⟨pv,e,O⟩:=U
  refine⟨#[pv],e,rfl,λj y C=>?_⟩
  rcases j with _|j
  ·injection C with C;subst C;exact O
  ·cases C
 ·cases h
def ac7{f:Nat}{cl:Operand}{ex:aa A}{args:Array Operand}{iW:Array TypeId}{c:vc}{k:S->ah X}(ho:o.op = .call { callee:=.value cl,args,argTypes:=iW })(wo:Pg (aL σ cl)=some (f,ex))(he:enters P f)(hc:pN P f c)
  (h:Jl N σ o.dst c (args.toList.map (aL σ)++ex) k=some r):∃cW,k cW=some r/\nR P w0 N o σ cW:=by
 unfold Jl at h
 haveI:Inhabited Wd:=⟨w0⟩
 obtain⟨ve,y,C,D⟩:=(hc.1 _ _ _).m6 h;have VH:=hc.2 _ _ _ _ _ (D _ _);have step:∀ a w K Q,R w0 N σ a w->(∀ v w' aD ρ',Rl w0 N aD ρ' ve a w'->RA w' w0.heap.size aD ρ' y v->K (a.put o.dst v) w')->o.wp P a w K Q:=by
  intro a w K Q hR E;obtain⟨aj,ρ,hR⟩:=hR;obtain⟨O,hv,hs,jz⟩:=aqo wo (hR.aL cl);unfold Oper.wp;rw[aqn w o a f cl O args iW ho hv he,Oper.upon_enter]
  refine(VH w0 aj ρ a w _ hR (by simp[hs]) λi=>?_).mono λe w' uU=>?_
  ·by_cases hi:i<args.size
   ·have e1:(args.toList.map (aL σ)++ex)[i]?=some (aL σ args[i]):=by
     rw[List.getElem?_append_left (by simpa using hi),fh,Array.getElem?_toList,Array.getElem?_eq_getElem hi];rfl
    have U:(args.map a.eval++O).getD i undef=a.eval args[i]:=by
     rw[jv,Array.getElem?_append_left (by simpa using hi)];simp[hi]
    rw[e1,U];exact hR.aL _
   ·have e0:(args.toList.map (aL σ)++ex)[i]?=ex[i-args.size]?:=by
     rw[List.getElem?_append_right (by simp;omega)];simp
    rw[e0];cases hp:ex[i-args.size]? with
    |none=>trivial
    | some p=>
     have U:(args.map a.eval++O).getD i undef=O.getD (i-args.size) undef:=by
      rw[jv,Array.getElem?_append_right (by simp;omega),jv];simp
     rw[U];exact jz _ p hp
  ·obtain⟨v,aD,ρ',rfl,I,Y⟩:=uU;exact E v w' aD ρ' I Y
 unfold iU at C;split at C
 ·rename_i D
  refine⟨ve,C,λa w K Q hR E=>step a w K Q hR λv w' aD ρ' I _=>?_⟩
  rw[D];exact E _ _ ⟨aD,ρ',I⟩
 ·rename_i d D;cases hN:Nat.blt d N with
  |false=>rw[hN]at C;cases C
  | true=>
   rw[hN,aq]at C
   refine⟨_,C,λa w K Q hR E=>step a w K Q hR λv w' aD ρ' I Y=>?_⟩
   rw[D];exact E _ _ ⟨aD,ρ',I.set Y (by have:=dj hN;omega)⟩
def ac8:∀ (xs:aa Operand) (ps:aa (Nat×Nat)),Jm σ xs=some ps -> ps.length=xs.length /\ ∀ aj ρ a w,Rl w0 N aj ρ σ a w -> ∀ (j:Nat) p,ps[j]?=some p -> ∃ b off,ρ p.1 = .aB b off/\(xs.map a.eval)[j]?=some (.pointer (some ⟨b,off+p.2,none⟩))
 | [],ps,h=>by
  simp only[Jm,kI]at h;simp_all
 | x :: xs,ps,h=>by
  unfold Jm at h;split at h
  ·rename_i rr j I O U;injection h with h;subst h;obtain⟨Y,k2⟩:=ac8 xs I U
   refine⟨by simp[Y],λaj ρ a w hR C p D=>?_⟩
   cases C with
   | zero=>
    simp at D;subst D;have E:=hR.aL x;rw[O]at E;obtain⟨b,off,e1,e2⟩:=E;simp_all
   |succ C =>grind
  ·cases h
end
def A.AM(q s n:Nat):A->A
 |.lf (.own [C])=>bif Nat.beq C q then .view [q] s 0 n else .lf (.own [C])
 |x=>x
def S.AM(σ:S)(p:Nat×Nat×Nat):S:=⟨λk=>(σ.t k).AM p.1 p.2.1 p.2.2,σ.m⟩
def WA:aa (Nat×Nat×Nat)->S->S
 |[],σ=>σ
 |p::l,σ=>WA l (σ.AM p)
def WB(c0 g:Nat):Mu->aa (Nat×Nat×Nat)
 |.sl q (.sl t _ _ l)=>bif Nat.ble 1000000 g&&Nat.blt q c0 then [(q,aH t,l.length)]else []
 |_=>[]
def Jn(c0:Nat):aa PK->aa Mu->aa (Nat×Nat×Nat)
 |.v _ _::ps,C=>Jn c0 ps C
 |.p _ _ _::ps,_::C=>Jn c0 ps C
 |.s _ g::ps,D::C=>WB c0 g D++Jn c0 ps C
 |_,_=>[]
def Jo{X:Type}(N:Nat)(σ:S)(C:ah Tmp)(c:qG)(args:aa Operand)(k:S->ah X):ah X:=
 match kz σ c.ps args with
 |some D=>qI N σ C c args λE=>k (WA (Jn (jS C) c.ps D) E)
 |none=>none
section
variable {P:Program} {w w':World} {w0:Wd} {B N:Nat} {aj fe aD:bJ} {ρ gi ρ':Nat->Loc} {σ:S} {a:Act} {X:Type} {d:Nat} {r:X} {o:Oper}
def Rl.AM{p:Nat×Nat×Nat}{ad:ah Addr}{c:Nat}(h:Rl w0 N aj ρ σ a w)(E:ρ p.1 = .eU (.slice ad p.2.2 c)):Rl w0 N aj ρ (σ.AM p) a w:=by
 refine⟨h.below,h.dI,h.root,λk=>?_,h.size,h.defers,h.fix,h.dY⟩
 have C:=h.tmp k;show RA _ _ _ _ ((σ.t k).AM p.1 p.2.1 p.2.2) _;generalize σ.t k=x at C;unfold A.AM;split
 ·rename_i I;cases hb:Nat.beq I p.1 with
  |false=>exact C
  | true=>
   obtain rfl:=cL hb;have D:=C.2;simp only[dn,E]at D;injection D with D;refine⟨ad,p.2.2,c,by simp[dn,E],jG _,dc _,?_⟩;rw[<- D];cases ad<;>simp[sliced,Addr.add]
 ·exact C
def ac9:∀ (l:aa (Nat×Nat×Nat)) (σ:S),Rl w0 N aj ρ σ a w->(∀ p∈l,∃ A c,ρ p.1 = .eU (.slice A p.2.2 c))->Rl w0 N aj ρ (WA l σ) a w
 |[],σ,h,_=>h
 | p :: l,σ,h,hl=>by
  obtain⟨A,c,C⟩:=hl p (.head _);exact ac9 l _ (h.AM C) λp C=>hl p (.tail _ C)
def aqp{c0 g:Nat}{D:Mu}{p:Nat×Nat×Nat}(h:p∈WB c0 g D):∃ q t o C l,D = .sl q (.sl t o C l)/\p=(q,aH t,l.length)/\q<c0:=by
 unfold WB at h;split at h
 ·rename_i q t o C l;cases hb:(Nat.ble 1000000 g&&Nat.blt q c0)with
  |false=>simp_all
  | true=>
   rw[hb]at h;rw[aP]at hb;exact⟨q,t,o,C,l,rfl,jH.1 h,dj hb.2⟩
 ·cases h
def Ph{c0:Nat}{p:Nat×Nat×Nat}:∀ (ps:aa PK) (C:aa Mu),p∈Jn c0 ps C -> ∃ q t o D l,Mu.sl q (.sl t o D l)∈C/\p=(q,aH t,l.length)/\q<c0
 |.v _ _::ps,C,h=>Ph ps C h
 |.p _ _ _::ps,O::C,h=>let ⟨q,t,o,D,l,I,E⟩:=Ph ps C h;⟨q,t,o,D,l,.tail _ I,E⟩
 | .s _ g :: ps,O :: C,h=>by
  rcases List.mem_append.1 h with h|h
  ·obtain⟨q,t,o,D,l,rfl,E⟩:=aqp h;exact⟨q,t,o,D,l,.head _,E⟩
  ·obtain⟨q,t,o,D,l,I,E⟩:=Ph ps C h;exact⟨q,t,o,D,l,.tail _ I,E⟩
def RV.aqq{q:aa Nat}{t:TC}{g:Nat}{C:Bool}{l:aa (T t)}{v:Value}(h:RV w B aj q (.sl t g C l) v):∃ A c,v = .slice A l.length c:=by
 cases h<;>exact⟨_,_,rfl⟩
def aqr{f:Nat}{args:Array Operand}{Y:Array TypeId}{c:qG}{k:S->ah X}(ho:o.op = .call { callee:=.value (.func f),args,argTypes:=Y })(he:enters P f)(hc:yC P f c)(h:Jo N σ o.dst c args.toList k=some r):∃ E,k E=some r/\nR P w0 N o σ E:=by
 unfold Jo at h;split at h
 ·rename_i mus I;obtain⟨ve,nc,cn,h1,D,_,h4,h5⟩:=acF (w0:=w0) ho he hc h;rw[I]at D;injection D with D;subst D
  refine⟨_,h1,λa w K Q hR hK=>?_⟩
  obtain⟨aj,ρ,hR⟩:=hR
  refine h5 a w K Q aj ρ hR λv w' fe gi AJ fz hv _ cu=>hK _ _ ⟨fe,AJ,ac9 _ _ fz λp hp=>?_⟩
  obtain⟨q,t,oo,qn,l,O,rfl,hq⟩:=Ph _ _ hp;have l6:=(O1 _ _ _ I _ O).1;have U:=hR.root q _ l6;generalize C:aX.sl _=z at U;cases U with
  |aB=>cases C
  |mp=>cases C
  |gh=>cases C
  | sl u y VD hr=>
   injection C with C;subst C;obtain⟨A,c,rfl⟩:=hr.aqq;exact⟨A,c,(cu q hq).trans ((hv.gf q (h4 _ O)).trans VD)⟩
 ·cases h
def aqs{C:ah Tmp}{c:qG}{args:aa Operand}:cU λX k=>Jo (X:=X) N σ C c args k:=λX Y k g=>by
 unfold Jo;split
 ·exact ac6 _ _ _ _
 ·rfl
end
def bJ.un(aj:bJ)(q:Nat):bJ:=λb=>match aj b with
 |some k=>bif dZ q k then none else some k
 |none=>none
def Jp{X:Type}(P:Program)(σ:S)(q s i j:Nat)(t:TypeId)(x:A)(k:S->ah X):ah X:=
 match σ.m q with
 |some (.sl (.sl tc (o+2) C l))=>bif Nat.beq s (aH tc)&&Nat.beq (full tc) 0 then rq P (σ.drop q) t (x.drop q) (.lf (.v (.sl tc 0 false ((l.take j).drop i)))) k else none
 |_=>none
section
variable {P:Program} {w w':World} {w0:Wd} {B N:Nat} {aj aD:bJ} {ρ ρ':Nat->Loc} {σ:S} {a:Act} {X:Type} {d q:Nat} {r:X} {o:Oper} {y:V}
def aqt(C:∀ b,aj b≠some []):Rel q aj (aj.un q):=
 ⟨C,λb h=>by simp[bJ.un,h],λb k h D=>by simp[bJ.un,h,D]⟩
def RV.ice{tc:TC}{g:Nat}{U:Bool}{l:aa (T tc)}{A:ah Addr}{n c:Nat}(D:RV w B aj [q] (.sl tc (g+2) U l) (.slice A n c))(hf:full tc=0):RV w B (aj.un q) [] (.sl tc 0 false l) (.slice A n c)/\n=l.length:=by
 cases D with
 |fq=>exact⟨.fq _ _ _,rfl⟩
 |gy=>grind
 |gL=>grind
 |aI _ _ _ _ _ _ _ _ _ ho=>omega
 | own=>
  rename_i b cs u hl I hc D hs Y hm;have O:∀ (i:Nat) (h:i<l.length) (j:Nat) (x:V),(enc tc 0 l[i])[j]?=some x -> (enc tc g l[i])[j]?=some x/\x.plain=true:=by
   intro i h j x C;obtain⟨y,E,rfl⟩:=yd tc g l[i] j x C;have hp:=Oo tc g l[i] y (iB E);cases y with
   | sl t' o' q' l'=>
    have:=dj (show Nat.ble _ _=true from hp);omega
   | nil=>
    have:=US tc g l[i] _ (iB E);cases this
   |_=>exact⟨E,rfl⟩
  refine⟨.aI _ _ _ _ _ b 0 c u (by omega) (by simp[bJ.un,hl,dZ]) (jU.1 I).1 (by omega) Y (λi h j x C=>?_) (λi h j x C=>?_),rfl⟩
  ·rw[fB,cell_of_row w b _ cs _ _ I];simp_all
  ·exact(D i h j x (O i h j x C).1).uI (O i h j x C).2
def aqu{s i j:Nat}{t:TypeId}{x:A}{k:S -> ah X}(h:Jp P σ q s i j t x k=some r):∃ E,k E=some r /\ ∀ aj ρ a w,Rl w0 N aj ρ σ a w -> ∀ u v,RA w w0.heap.size aj ρ x u -> RA w w0.heap.size aj ρ (.view [q] s i j) v ->
  ∃w' aD,(Instr.storeAt t u v).run P w = .ok () w'/\Rl w0 N aD ρ E a w':=by
 unfold Jp at h;split at h
 ·rename_i tc g qn l hm;cases hb:(Nat.beq s (aH tc)&&Nat.beq (full tc) 0)with
  |false=>rw[hb]at h;cases h
  | true=>
   rw[hb,aq]at h;rw[aP]at hb;obtain rfl:=cL hb.1;have hf:=cL hb.2;obtain⟨E,h1,hs⟩:=abT (w0:=w0) (N:=N) h
   refine⟨E,h1,λaj ρ a w hR u v hu hv=>?_⟩
   have I:Rel q aj (aj.un q):=aqt hR.Cr;have wL:=hR.rel I (λb k C=>by
    unfold bJ.un at C;cases hl:aj b with
    |none=>rw[hl]at C;cases C
    | some O=>
     rw[hl]at C;simp only at C;cases U:dZ q O with
     |true=>rw[U]at C;cases C
     | false=>
      rw[U]at C;injection C with C;subst C;exact⟨⟨_,rfl⟩,(hR.dI b O hl).2.2⟩)
   obtain⟨A,n,c,Y,h3,h4,rfl⟩:=hv;have fG:=hR.root q _ hm;generalize D:aX.sl (.sl tc (g+2) qn l)=z at fG;cases fG with
   |aB=>cases D
   |mp=>cases D
   |gh=>cases D
   | sl vq y cu hr=>
    injection D with D;subst D;have hvq:vq = .slice A n c:=by
     simp only[dn,cu]at Y;injection Y
    subst hvq;obtain⟨h5,h6⟩:=hr.ice hf;have h7:=(h5.part (by omega) h3 (by omega)).1;obtain⟨w',cH,mF⟩:=hs _ _ _ _ wL u _ (hu.rel I) (show RA _ _ _ _ (.lf (.v _)) _ from ⟨rfl,h7⟩);exact⟨w',_,cH,mF⟩
 ·cases h
def aqv{q s i j:Nat}{t:TypeId}{x:A}:cU λX k=>Jp (X:=X) P σ q s i j t x k:=λX Y k g=>by
 unfold Jp
 repeat' first|rfl|exact acX _ _ _ _|refine dN ?_ ?_|split
def Fz{X:Type}(P:Program)(σ:S)(t:TypeId)(x lo hi C:A)(k:ah X):ah X:=
 match x,lo,hi,C with
 | .lf (.own q),.lf (.v (.int _ a)),.lf (.v (.int _ b)),.lf (.v (.int _ c))=>(match rm P t with
  | some e=>(match kr P e with
   | some _=>jX σ.m q λy=>(match y with
    |.sl _ _ _ l=>if 0<=a/\a<=b/\b<=c/\c<=(l.length:Int)then k else none
    |_=>none)
   |none=>none)
  |none=>none)
 |_,_,_,_=>none
def aqw{t:TypeId}{x lo hi mx:A}{k:ah X}(h:Fz P σ t x lo hi mx k=some r):k=some r /\
  ∀aj ρ a w,Rl w0 N aj ρ σ a w -> ∀u I O U,RA w w0.heap.size aj ρ x u -> RA w w0.heap.size aj ρ lo I -> RA w w0.heap.size aj ρ hi O -> RA w w0.heap.size aj ρ mx U -> ∃v,(Instr.sliceAt t u (some I) (some O) (some U)).run P w = .ok v w:=by
 unfold Fz at h;split at h
 ·rename_i q kl a kh b km c;split at h
  ·rename_i e Y;split at h
   ·rename_i n hn;obtain⟨y0,Vw,C⟩:=tD q _ h;split at C
    ·rename_i tc g qn xs;split at C
     ·rename_i hb
      refine⟨C,λaj ρ ac w hR u I O U hu hl hh hm=>?_⟩
      rw[hl.2.iE,hh.2.iE,hm.2.iE];have gP:P.underlying t=some (.slice e):=by
       unfold rm at Y;split at Y
       ·grind
       ·cases Y
      have jk:P.elem t=e:=by simp[Program.elem,gP]
      have ada:P.underlying t=some (.slice (P.elem t)):=by rw[jk];exact gP
      have uS:(sizeOf (P.elem t)).run P w = .ok n w:=by
       unfold kr at hn;cases hi:P.info? e with
       |none=>grind
       | some i=>
        have:i.size=n:=by simpa [hi]using hn
        simp[sizeOf,typeInfo,jk,hi,this]
      obtain⟨v0,rA,jA⟩:=Vw.ok hR.root;have ia:∃ D n c,u = .slice D n c:=by
       have:=hu.1;cases u<;>first|cases this;done|exact⟨_,_,_,rfl⟩
      obtain⟨D,n',c',rfl⟩:=ia;have E:=hu.2;rw[rA]at E;injection E with E;subst E;have hf:RV w 0 (λ_=>none) [] (.sl tc 0 qn xs) (.slice D n' c'):=jA.gT;obtain⟨_,Cy,hn2⟩:=RV.part (w:=w) hf (a:=0) (h:=xs.length) (by omega) (by omega) (by omega);refine⟨sliced D a.toNat b.toNat c.toNat n,?_⟩;rw[run_sliceAt_slice w t _ _ _ _ ada,run_slice_lhm w t D n' c' ada kl kh km a b c hb.1 hb.2.1 hb.2.2.1 (by omega),uS];rfl
     ·cases C
    ·cases C
   ·cases h
  ·cases h
 ·cases h
end
section
variable {P:Program} (w:World)
end
section
variable {P:Program} {w w':World} {w0:Wd} {B N:Nat} {aj aD:bJ} {ρ ρ':Nat->Loc} {σ:S} {a:Act} {X:Type} {d:Nat} {r:X}
end
def yL(l:aa (Int×Bool))(k:Int):Bool:=match l with
 |[]=>false
 |p::ps=>bif k==p.1 then p.2 else yL ps k
def pO(l:aa (Int×Bool))(k:Int)(v:Bool):aa (Int×Bool):=match l with
 |[]=>[(k,v)]
 |p::ps=>bif k==p.1 then (k,v)::ps else p::pO ps k v
def FA(P:Program)(t:TypeId):Bool:=match P.underlying t with
 | some (.map k e)=>(match P.underlying k with
  |some (.int .i64)=>true
  |_=>false)&&(match zeroOf P e with
  |some (.bool false)=>true
  |_=>false)
 |_=>false
def WC{X:Type}(N:Nat)(σ:S)(d:Nat)(k:S->ah X):ah X:=iF N σ d (.mp []) (.pk d sA) k
def CS{X:Type}(P:Program)(σ:S)(t:TypeId)(x i:A)(k:A->ah X):ah X:=
 match x,i with
 | .pk r n,.lf (.v (.int .i64 key))=>bif Nat.beq n sA&&FA P t then (match σ.m r with
  |some (.mp l)=>k (.lf (.v (.bool (yL l key))))
  |_=>none)else none
 |_,_=>none
def CT{X:Type}(P:Program)(σ:S)(t:TypeId)(x i v:A)(k:S->ah X):ah X:=
 match x,i,v with
 | .pk r n,.lf (.v (.int .i64 key)),.lf (.v (.bool b))=>bif Nat.beq n sA&&FA P t then (match σ.m r with
  |some (.mp l)=>k ⟨σ.t,cc σ.m r (some (.mp (pO l key b)))⟩
  |_=>none)else none
 |_,_,_=>none
section
variable {P:Program} {w w':World} {w0:Wd} {B N:Nat} {aj aD:bJ} {ρ ρ':Nat->Loc} {σ:S} {a:Act} {X:Type} {d:Nat} {r:X} {o:Oper}
def adb{t:TypeId}(h:FA P t=true):∃ k e i,P.underlying t=some (.map k e)/\P.underlying k=some (.int .i64)/\P.info? e=some i/\i.zero=some (.bool false):=by
 unfold FA at h;split at h
 ·rename_i k e D;rw[aP]at h;obtain⟨E,I⟩:=h;have O:P.underlying k=some (.int .i64):=by
   grind
  have C:zeroOf P e=some (.bool false):=by
   grind
  unfold zeroOf at C;cases hi:P.info? e with
  |none=>simp_all
  |some i =>grind
 ·cases h
def Rl.newObj{D:Obj}{x:aX}{ρ':Nat -> Loc}(h:Rl w0 N aj ρ σ a w)(E:w0.F d=none)(I:∀ r,r≠d -> ρ' r=ρ r)
  (O:eV (w.alloc D) w0.heap.size (cc aj w.heap.size (some [d])) ρ' d x):Rl w0 N (cc aj w.heap.size (some [d])) ρ' ((σ.drop d).root d x) a (w.alloc D):=by
 refine h.Ai E (lz.abY w0 w _ h.below.size) ⟨by simp,λb hb _=>Below.heap_alloc w _ b hb,λb hb=>cN _ _ _ (by omega),λb hb=>(h.dI b [] hb).2.2 rfl⟩ (λb k hb C=>?_) I O
 by_cases e:b=w.heap.size
 ·subst e;rw[cm]at C;injection C with C;subst C;simp_all
 ·rw[cN _ _ _ e]at C;have:=(h.dI b k C).2.1;omega
def aqx{t:TypeId}{k:S -> ah X}(h:WC N σ d k=some r):∃ C,k C=some r /\ ∀ aj ρ a w,Rl w0 N aj ρ σ a w -> ∃ w' aD ρ' v,(Instr.makeMap t none).run P w = .ok v w'/\Rl w0 N aD ρ' C (a.put (some d) v) w':=by
 obtain⟨D,h⟩:=oG h
 refine⟨_,h,λaj ρ a w hR=>?_⟩
 have E:(Instr.makeMap t none).run P w = .ok _ _:=rfl
 refine⟨_,cc aj _ _,cc ρ d _,_,E,(hR.newObj (hR.dY d (.inl D)) (λr I=>cN _ _ _ I) ?_).set ⟨w.heap.size,cm _ _ _,(UW _).symm⟩ D⟩
 exact .mp _ 0 #[] [] (cm _ _ _) (cm _ _ _) (heap_alloc_new w _) rfl
def aqy:cU λX k=>WC (X:=X) N σ d k:=O8
def aqz{t:TypeId}{x i:A}:cU λX k=>CS (X:=X) P σ t x i k:=λX Y k g=>by
 unfold CS
 repeat' first|rfl|refine dN ?_ ?_|split
def aqA{t:TypeId}{x i v:A}:cU λX k=>CT (X:=X) P σ t x i v k:=λX Y k g=>by
 unfold CT
 repeat' first|rfl|refine dN ?_ ?_|split
def CU(l:aa (Int×Bool)):aa (Value×Value):=l.map λp=>(.int .i64 p.1,.bool p.2)
def WD:∀ (C:aa MapEntry) (l:aa (Int×Bool)) (k:Int) (n:Nat),C.map (λe=>(e.key,e.val))=CU l ->
  (Instr.findNow (.int .i64) (.int .i64 k) C n=some none/\yL l k=false /\ ∀v,pO l k v=l++[(k,v)]) \/
  (∃i b,Instr.findNow (.int .i64) (.int .i64 k) C n=some (some (n+i,.bool b))/\yL l k=b /\ ∃h:i<C.length,C[i].key = .int .i64 k /\ ∀v,CU (pO l k v)=(C.modify i λe=>{ e with key:=.int .i64 k,val:=.bool v }).map (λe=>(e.key,e.val)))
 |[],[],k,n,_=>.inl ⟨rfl,rfl,λv=>rfl⟩
 |[],_::_,k,n,h=>by cases h
 |_::_,[],k,n,h=>by cases h
 | e :: C,p :: l,k,n,h=>by
  have h:(e.key,e.val) :: C.map (λe=>(e.key,e.val))=(.int .i64 p.1,.bool p.2) :: CU l:=h;injection h with h1 O;injection h1 with U hv;have D:Instr.sameNow (.int .i64) (.int .i64 k) e.key=some (k==p.1):=by
   rw[U];simp[Instr.sameNow]
  cases hb:(k==p.1)with
  | true=>
   have hkp:k=p.1:=by simpa using hb
   refine .inr ⟨0,p.2,?_,by simp only[yL,hb,aq],by simp,by simp[U,hkp],λv=>?_⟩
   ·simp only[Instr.findNow,D,hb,hv];rfl
   ·simp only[pO,hb];simp;show _::CU l=_;rw[O]
  | false=>
   rcases WD C l k (n+1) O with ⟨Y,E,I⟩|⟨i,b,Y,E,hi,I,a4⟩
   ·refine .inl ⟨?_,by simp[yL,hb,av,E],λv=>by simp only[pO,hb,I];rfl⟩
    simp[Instr.findNow,D,hb];exact Y
   ·refine .inr ⟨i+1,b,?_,by simp only[yL,hb,av,E],by simpa using hi,by simpa using I,λv=>?_⟩
    ·simp[Instr.findNow,D,hb]
     grind
    ·simp only[pO,hb];simp;show _ :: CU _=_
     grind
def Pj{kt:TypeId}{k:Int}{C:aa MapEntry}{z:ah (Nat×Value)}(D:P.underlying kt=some (.int .i64))(h:Instr.findNow (.int .i64) (.int .i64 k) C 0=some z):(Instr.findKey kt (.int .i64 k) C).run P w = .ok z w:=by
 unfold Instr.findKey;simp only[gN,iJ D,mS,h];rfl
def aqB{t:TypeId}{x i:A}{k:A -> ah X}(h:CS P σ t x i k=some r):∃ v,k v=some r/\nS (λX k=>CS (X:=X) P σ t x i k) v /\ ∀ aj ρ a w,Rl w0 N aj ρ σ a w -> ∀ u z,RA w w0.heap.size aj ρ x u -> RA w w0.heap.size aj ρ i z ->
  ∃y,(Instr.lookup t u z false).run P w = .ok y w/\RA w w0.heap.size aj ρ v y:=by
 unfold CS at h;split at h
 ·rename_i rr n key;cases hb:(Nat.beq n sA&&FA P t)with
  |false=>grind
  | true=>
   rw[hb,aq]at h;split at h
   ·rename_i l O
    refine⟨_,h,λX k=>by simp only[CS,hb,aq,O],λaj ρ a w hR u z hu D=>?_⟩
    rw[aP]at hb;obtain⟨kt,et,ti,ht,E,hi,tQ⟩:=adb hb.2;have hn:=cL hb.1;subst hn;obtain⟨b,cu,rfl⟩:=hu;have D:z = .int .i64 key:=by
     have h2:=D.2;cases h2;rfl
    subst D;have U:=hR.root rr _ O;generalize C:aX.mp l=y at U;cases U with
    |aB=>cases C
    |sl=>cases C
    |gh=>cases C
    | mp b' c es l' Y hl hh Pm=>
     injection C with C;subst C;rw[cu]at Y;injection Y with e1 _;subst e1;refine⟨.bool (yL l key),?_,rfl,.bool _ _⟩;rw[UW];unfold Instr.lookup;simp only[gN,iJ ht,mS,MapKept.run_getObj_map hh,Sem.run_pure];rw[MapKept.run_checkKey (k:=.int .i64 key) E rfl];simp only[mS];rcases WD es.toList l key 0 Pm with ⟨I,a2,_⟩|⟨i,v,I,a2,_⟩
     ·rw[Pj E I];have Fa:(zeroValue et).run P w = .ok (.bool false) w:=by simp[zeroValue,typeInfo,hi,tQ]
      simp_all
     ·rw[Pj E I];simp only[ a2,gN];rfl
   ·cases h
 ·cases h
def aqC{t:TypeId}{x i v:A}{k:S -> ah X}(h:CT P σ t x i v k=some r):∃ U,k U=some r/\nS (λX k=>CT (X:=X) P σ t x i v k) U /\ ∀ aj ρ a w,Rl w0 N aj ρ σ a w -> ∀ u z y,RA w w0.heap.size aj ρ x u -> RA w w0.heap.size aj ρ i z -> RA w w0.heap.size aj ρ v y ->
  ∃w',(Instr.mapUpdate t u z y).run P w = .ok () w'/\Rl w0 N aj ρ U a w':=by
 unfold CT at h;split at h
 ·rename_i rr n key Y;cases hb:(Nat.beq n sA&&FA P t)with
  |false=>grind
  | true=>
   rw[hb,aq]at h;split at h
   ·rename_i l hm
    refine⟨_,h,λX k=>by simp only[CT,hb,aq,hm],λaj ρ a w hR u z y hu hz C=>?_⟩
    rw[aP]at hb;obtain⟨kt,et,ti,ht,WE,hi,tQ⟩:=adb hb.2;have hn:=cL hb.1;subst hn;obtain⟨b,cu,rfl⟩:=hu;have hz:z = .int .i64 key:=by
     have h2:=hz.2;cases h2;rfl
    subst hz;have C:y = .bool Y:=by
     have h2:=C.2;cases h2;rfl
    subst C;have fG:=hR.root rr _ hm;generalize D:aX.mp l=y at fG;cases fG with
    |aB=>cases D
    |sl=>cases D
    |gh=>cases D
    | mp b' c es l' jO hl O Pm=>
     injection D with D;subst D;rw[cu]at jO;injection jO with e1 _;subst e1;have Wv:b<w.heap.size:=(jU.1 O).1;have CM:∀ (E:Array MapEntry) (I:Nat),E.toList.map (λe=>(e.key,e.val))=CU (pO l key Y) -> Rl w0 N aj ρ ⟨σ.t,cc σ.m rr (some (.mp (pO l key Y)))⟩ a { w with heap:=w.heap.setIfInBounds b (.map E I) }:=by
      intro E I aqD;have hW:we w { w with heap:=w.heap.setIfInBounds b (.map E I) } b:=by
       refine⟨by simp,rfl,rfl,rfl,λk hk=>?_⟩
       show _[k]?=_;rw[Array.getElem?_setIfInBounds_ne (Ne.symm hk)]
      have hC:sC w { w with heap:=w.heap.setIfInBounds b (.map E I) } aj ρ:=by
       intro k ad v ha hv ia;obtain⟨j',i',s',q,rfl,hq,_,_,hh'⟩:=Cj k ad ha;have cx:ad.block≠b:=by
        grind
       exact(World.cell?_of_block (hW.block _ cx)).trans hv
      refine hR.wrote hW hl hC λr' y C=>?_
      by_cases qv:r'=rr
      ·subst qv;rw[cm]at C;injection C with C;subst C;refine .mp b I E _ cu hl ?_ aqD;simp_all
      ·rw[cN _ _ _ qv]at C;exact(hR.root r' y C).wrote hW hl hC (abK qv)
     rw[UW];unfold Instr.mapUpdate;simp only[gN,iJ ht,mS,MapKept.run_getObj_map O,Sem.run_pure];rw[MapKept.run_checkKey (k:=.int .i64 key) WE rfl];simp only[mS];rcases WD es.toList l key 0 Pm with ⟨a1,a2,a3⟩|⟨i,v,a1,a2,CQ,a3,a4⟩
     ·rw[Pj WE a1];simp;rw[MapKept.run_setObj_map _ O];refine⟨_,rfl,CM _ _ ?_⟩;rw[a3];simp only[Array.toList_push,List.map_append,Pm,CU];rfl
     ·rw[Pj WE a1];simp only[mS,fB];have Cs:(es[i]?.map (·.key)).getD (.int .i64 key) = .int .i64 key:=by
       grind
      rw[Cs];have lC:(Instr.keyThatStays (.int .i64 key) (.int .i64 key)).run P w = .ok (.int .i64 key) w:=by
       unfold Instr.keyThatStays;simp[Instr.sameBits]
      simp only[gN];rw[lC];simp only[mS];rw[MapKept.run_setObj_map _ O];refine⟨_,rfl,CM _ _ ?_⟩;rw[a4];simp
   ·cases h
 ·cases h
end
def Pn(t:TypeId)(d:Nat)(x:Operand):Bool:=[(59,26,22)].any λ(p:Nat×Nat×Nat)=>Nat.beq p.1 t&&Nat.beq p.2.1 d&&(match x with
 |.tmp n=>Nat.beq n p.2.2 ||Nat.beq p.2.2 1000000
 |_=>false)
def CV(C:ah Tmp)(t:TypeId)(x:Operand):Bool:=match C with
 |some d=>Pn t d x
 |none=>false
def Jq{X:Type}(P:Program)(N:Nat)(σ:S)(d:Nat)(t:TypeId)(x y:A)(k:S->ah X):ah X:=
 match wm P t with
 | some (e,tc)=>bif Nat.beq (full tc) 0&&(zeroOf P e).any (λz=>Nat.beq z.cells.size (aH tc))then tE σ y λC=>(match C.OG tc with
  |none=>none
  | some l2=>match x with
   | .lf (.own [r])=>(match σ.m r with
    |some (.sl (.sl D (o+2) true l))=>if h:D=tc then (bif !kM l2&&bE (l.length+l2.length)then iF N σ d (.sl (.sl tc (o+2) false ((h ▸ l)++l2))) (.lf (.own [d])) k else none)else none
    |_=>none)
   |_=>none)else none
 |none=>none
section
variable {P:Program} {w w':World} {w0:Wd} {B N:Nat} {aj aD:bJ} {ρ ρ':Nat->Loc} {σ:S} {a:Act} {X:Type} {d:Nat} {r:X}
def Rl.aqE{t e ty:TypeId}{tc:TC}{i:TypeInfo}{z:Value}{rr o g:Nat}{qn:Bool}{l l2:aa (T tc)}{u v:Value}{q':aa Nat}{Bx:Nat}{Vj:bJ}(h:Rl w0 N aj ρ σ a w)(hF:w0.F d=none)(gP:P.underlying t=some (.slice e))(ht:tid tc=e)(hi:P.info? e=some i)(hz:i.zero=some z)
  (Y:i.size=aH tc) (kZ:i.bytes <= 65536) (ox:z.cells.size=aH tc) (hf:full tc=0) (hd:RV w w0.heap.size aj [rr] (.sl tc (o+2) true l) u) (hs:RV w Bx Vj q' (.sl tc g qn l2) v) (cx:l2≠[]) (hlen:l.length+l2.length<1073741824):
  ∃D w' aD,(Builtin.append_ #[t,t] ty #[u,v]).run P w = .ok D w'/\Rl w0 N aD (cc ρ d (.eU D)) ((σ.drop d).root d (.sl (.sl tc (o+2) false (l++l2)))) a w'/\pF D=true:=by
 subst ht;obtain⟨xs,E,OR,hqn,jk⟩:=hd.ab1 hf (B':=0) (λb _=>jG b);obtain⟨A,c,news,rfl,sF,m7,IF⟩:=hs.reads hf;have iT:(l.length+l2.length)*i.bytes <= 140737488355328:=by
  have h1:(l.length+l2.length)*i.bytes <= 1073741824*65536:=Nat.mul_le_mul (by omega) kZ;omega
 have uN:0<l2.length:=List.length_pos_iff.2 cx;obtain⟨D,w',cH,ade,hgr,iM⟩:=UG (P:=P) w 0 t ty (tid tc) i z (aH tc) i.bytes gP hi hz Y rfl ox (pE tc) u l.length xs E _ A l2.length c news sF m7 (by unfold maxLen;omega) iT (jG _);have IG:(l++l2).length=l.length+l2.length:=oy;have hex:∃ b,u = .slice (some ⟨b,0,none⟩) l.length l.length:=by
  cases hd with
  |aI _ _ _ _ _ _ _ _ _ ho=>omega
  |gL _ _ _ _ _ ho=>omega
  |own _ _ _ _ _ b cap cs us hl hh hs hn hm hc hr=>exact⟨b,by rw[hm.2 rfl]⟩
 obtain⟨b,rfl⟩:=hex;obtain⟨I,O,rfl,_,gA⟩:=sF.2 uN;have aqF:∀ j x,news[j]?=some x -> w.cell? ((⟨I,O,none⟩:Addr).add j)=some x:=by
  intro j x hx;have Om:(⟨I,O,none⟩:Addr).add j=⟨I,O+j,none⟩:=by unfold Addr.add;split<;>simp_all
  grind
 have adf:=run_append_grow (P:=P) w t ty (tid tc) i z gP hi hz ⟨b,0,none⟩ l.length l.length xs (by rw[Y];exact E.1) (E.cells (g:=b) rfl) ⟨I,O,none⟩ l2.length c news (by rw[Y];exact sF.1) aqF (by omega) (by omega) (growslice_fits (by omega) iT);rw[cH]at adf;injection adf with e1 e2;have hold:∀ k,k<w.heap.size -> w'.heap[k]?=w.heap[k]?:=by
  intro k C;rw[e2];exact heap_alloc_old _ _ C
 have hvb:D.ownBlock=some w.heap.size:=by rw[e1];rfl
 have dQ:w.heap.size<w'.heap.size:=by rw[e2];simp
 rw[<- IG]at ade;have Cv:=jk.append IF E.1;have ia:pF D=true:=by rw[e1];rfl
 have U:Below 0 w w':=(Below.refl 0 w).grown hgr (jG _) (λ_ _=>jG _);have mD:lz w0 w w':=⟨U.os,U.tape,U.output,U.size,λk C hL=>hold k (Nat.lt_of_lt_of_le C h.below.size)⟩
 refine⟨D,w',cc aj w.heap.size (some [d]),cH,h.Ai hF mD ⟨hgr.size,λb hb _=>hold b hb,λb hb=>cN _ _ _ (by omega),λb hb=>(h.dI b [] hb).2.2 rfl⟩ (λb k hb C=>?_) (λr hr=>cN _ _ _ hr) (.sl D _ (cm _ _ _) (Vi ade Cv (λb hb=>?_))),ia⟩
 ·by_cases e:b=w.heap.size
  ·subst e;rw[cm]at C;injection C with C
   grind
  ·rw[cN _ _ _ e]at C;have:=(h.dI b k C).2.1;omega
 ·rw[hvb]at hb;injection hb with hb;subst hb;exact cm _ _ _
def aqG{t ty:TypeId}{x y:A}{k:S -> ah X}(h:Jq P N σ d t x y k=some r):∃ Y,k Y=some r /\ ∀ aj ρ a w,Rl w0 N aj ρ σ a w -> ∀ u v,RA w w0.heap.size aj ρ x u -> RA w w0.heap.size aj ρ y v ->
  ∃w' aD ρ' z,(Builtin.append_ #[t,t] ty #[u,v]).run P w = .ok z w'/\Rl w0 N aD ρ' Y (a.put (some d) z) w':=by
 unfold Jq at h;split at h
 ·rename_i e tc lA;obtain⟨gP,ht,i,hi,gx,kZ⟩:=Ak lA;cases E:(Nat.beq (full tc) 0&&(zeroOf P e).any (λz=>Nat.beq z.cells.size (aH tc)))with
  |false=>grind
  | true=>
   rw[E,aq]at h;rw[aP]at E;have hf:=cL E.1;obtain⟨z,hz,O⟩:=(Option.any_eq_true _ _).1 E.2;have O:=cL O;have qA:i.zero=some z:=by unfold zeroOf at hz;simpa [hi]using hz
   obtain⟨yv,OJ,C⟩:=ab2 (w0:=w0) (N:=N) h;clear h;split at C
   ·cases C
   ·rename_i l2 kL;split at C
    ·rename_i rr;split at C
     ·rename_i t' o l hm;split at C
      ·rename_i qB;subst qB;cases I:(!kM l2&&bE (l.length+l2.length))with
       |false=>grind
       | true=>
        rw[I,aq]at C;rw[aP]at I;have cx:l2≠[]:=by rintro rfl;cases I.1
        have IJ:l.length+l2.length<1073741824:=by simpa [bE]using I.2
        obtain⟨hd,h3⟩:=oG C
        refine⟨_,h3,λaj ρ a w hR u v hu hv=>?_⟩
        obtain⟨q',_,_,U⟩:=OJ aj ρ a w hR v hv;obtain⟨g,qn,U⟩:=Vl kL U;have fG:=hR.root rr _ hm;generalize D:aX.sl (.sl t' (o+2) true l)=x at fG;cases fG with
        |aB=>cases D
        |mp=>cases D
        |gh=>cases D
        | sl uu y cu hr=>
         injection D with D;subst D;have ID:uu=u:=by
          have h4:=hu.2;simp only[dn,cu]at h4;simp_all
         subst ID;obtain⟨v',w',aD,cH,fz,ia⟩:=hR.aqE (ty:=ty) (d:=d) (hR.dY d (.inl hd)) gP ht hi qA gx kZ O hf hr U cx IJ;exact⟨w',aD,_,v',cH,fz.set ⟨ia,by simp[dn,cm]⟩ hd⟩
      ·cases C
     ·cases C
    ·cases C
 ·cases h
def aqH{t:TypeId}{x y:A}:cU λX k=>Jq (X:=X) P N σ d t x y k:=λX Y k g=>by
 unfold Jq;split
 ·refine dN ((Wi _ _ _ _).trans (bC _ (funext λC=>?_))) rfl
  repeat' first|rfl|exact O8 _ _ _ _|refine dN ?_ ?_|split
 ·rfl
def Js{X:Type}(P:Program)(N:Nat)(σ:S)(d:Nat)(t:TypeId)(x y:A)(k:S->ah X):ah X:=
 match x with
 |.view q s i j=>IK P N σ d t (.view q s i j) y k
 |x=>Jq P N σ d t x y k
def aqI{t ty:TypeId}{x y:A}{k:S->ah X}(h:Js P N σ d t x y k=some r):∃ C,k C=some r/\∀ aj ρ a w,Rl w0 N aj ρ σ a w->∀ u v,RA w w0.heap.size aj ρ x u->RA w w0.heap.size aj ρ y v->
  ∃w' aD ρ' z,(Builtin.append_ #[t,t] ty #[u,v]).run P w = .ok z w'/\Rl w0 N aD ρ' C (a.put (some d) z) w':=by
 unfold Js at h;split at h
 ·exact aoV h
 ·exact aqG h
def aqJ{t:TypeId}{x y:A}:cU λX k=>Js (X:=X) P N σ d t x y k:=λX Y k g=>by
 unfold Js;split
 ·exact aoW _ _ _ _
 ·exact aqH _ _ _ _
end
abbrev fl:=Nat->ah rG
def gF(P:Program)(Φ:fl):Prop:=∀f c,Φ f=some c->enters P f/\Wz P f c
def iG{X:Type}(o:Oper)(k:Nat->ah X):ah X:=
 match o.dst with
 |some d=>k d
 |none=>none
def gB:Op->Bool
 |.move _|.assign _|.pick .. |.build .. |.load .. |.binOp .. |.unOp .. |.convert .. |.fieldAddr .. |.field .. |.indexAddr .. |.index .. |.extract .. |.nilCheck _=>true
 |.call ⟨.builtin .len,_,_⟩|.call ⟨.builtin .max,_,_⟩|.call ⟨.builtin .min,_,_⟩=>true
 |.slice _ _ _ _ none=>true
 |_=>false
def nW{X:Type}(P:Program)(σ:S)(C:Op)(k:A->ah X):ah X:=
 match C with
 |.move x=>k (aL σ x)
 |.assign x=>k (aL σ x)
 | .pick c x y=>(match aL σ c with
  |.lf (.v (.bool b))=>bif b then k (aL σ x)else k (aL σ y)
  |_=>none)
 |.build t parts=>Ff P σ t parts.toList k
 |.load t x=>pH P σ t (aL σ x) k
 |.binOp C t x y _=>As P σ C t (aL σ x) (aL σ y) k
 |.unOp C _ x=>vK (aL σ x) λa=>Iy C a λz=>k (.lf (.v z))
 |.convert s d x=>Ao P σ s d (aL σ x) k
 |.fieldAddr s x f=>E7 P s (aL σ x) f k
 |.field s x f=>IS P s (aL σ x) f k
 |.indexAddr t x i=>Ag P σ t (aL σ x) (aL σ i) k
 |.index t x i=>IU P t (aL σ x) (aL σ i) k
 |.extract x i=>Cp (aL σ x) i k
 |.nilCheck x=>Pb (aL σ x) k
 |.call ⟨.builtin .len,⟨[x]⟩,⟨[t]⟩⟩=>Co P σ t (aL σ x) k
 |.call ⟨.builtin .max,⟨[x,y]⟩,⟨[_,_]⟩⟩=>Fg true (aL σ x) (aL σ y) k
 |.call ⟨.builtin .min,⟨[x,y]⟩,⟨[_,_]⟩⟩=>Fg false (aL σ x) (aL σ y) k
 |.slice t x lo hi none=>Av P σ t (aL σ x) (lo.map (aL σ)) (hi.map (aL σ)) k
 |_=>none
def jo{X:Type}(P:Program)(N:Nat)(Φ:fl)(σ:S)(o:Oper)(k:S->ah X):ah X:=
 match o.op with
 |.alloc e=>iG o λd=>sE P N σ d e k
 |.box e x=>iG o λd=>AL N σ d (aL σ x) k
 |.buildSlice t len parts=>iG o λd=>bif rF t then wK P N σ d t len parts.toList k else An P N σ d t len parts.toList k
 | .store t x y=>(match o.dst with
  |none=>bif yK (aL σ x) (aL σ y)then vb P σ t (aL σ x) (aL σ y) k else rq P σ t (aL σ x) (aL σ y) k
  |some _=>none)
 |.makeSlice t l c=>iG o λd=>Aj P N σ d t (aL σ l) (aL σ c) k
 | .call ⟨.value (.func f),args,_⟩=>(match Φ f with
  |some (.p c)=>iG o λd=>api N σ d c args.toList k
  |some (.m c)=>qI N σ o.dst c args.toList k
  |some (.v c)=>none
  | some (.n F)=>iG o λd=>(match args.toList with
   |[x]=>Jk N σ d F (aL σ x) k
   |_=>none)
  |some (.i c)=>Jl N σ o.dst c (args.toList.map (aL σ)++[]) k
  |some (.d c)=>none
  |some (.q c)=>iG o λd=>aph N σ d c args.toList k
  |some (.c c)=>Jo N σ o.dst c args.toList k
  |none=>none)
 |.call ⟨.builtin .append,⟨[x,y]⟩,⟨[t,C]⟩⟩=>bif Nat.beq t C then iG o λd=>bif rF t then Jh P N σ d t (aL σ x) (aL σ y) k else bif Pn t d x then Js P N σ d t (aL σ x) (aL σ y) k else uM P N σ d t (aL σ x) (aL σ y) k else none
 |.makeMap _ none=>iG o λd=>WC N σ d k
 |.lookup t x i false=>CS P σ t (aL σ x) (aL σ i) λv=>iU N σ o.dst v k
 | .mapUpdate t x i v=>(match o.dst with
  |none=>CT P σ t (aL σ x) (aL σ i) (aL σ v) k
  |some _=>none)
 | .call ⟨.value (.tmp t),args,_⟩=>(match Pg (aL σ (.tmp t))with
  | some (f,ex)=>(match Φ f with
   |some (.i c)=>Jl N σ o.dst c (args.toList.map (aL σ)++ex) k
   |_=>none)
  |none=>none)
 | .makeFunc (.func f) ⟨[]⟩ D=>(match Jm σ D.toList with
  |some ps=>iU N σ o.dst (.fn f ps) k
  |none=>none)
 |.call ⟨.builtin .clear,⟨[x]⟩,⟨[t]⟩⟩=>IL P σ t (aL σ x) λE=>iU N E o.dst .undef k
 |_=>none
def eA{X:Type}(P:Program)(N:Nat)(Φ:fl)(σ:S)(o:Oper)(k:S->ah X):ah X:=
 bif gB o.op then nW P σ o.op λv=>iU N σ o.dst v k else jo P N Φ σ o k
def Jt{X:Type}(P:Program)(N:Nat)(Φ:fl)(σ:S)(o:Oper)(k:S->ah X):ah X:=
 match o.op,o.dst with
 | .store t x y,none=>(match aL σ y with
  |.view [q] s i j=>Jp P σ q s i j t (aL σ x) k
  |_=>eA P N Φ σ o k)
 |.slice t x (some lo) (some hi) (some C),some d=>Fz P σ t (aL σ x) (aL σ lo) (aL σ hi) (aL σ C) (bif Nat.blt d N then k (σ.set d .undef)else none)
 |_,_=>eA P N Φ σ o k
def gG(σ:S)(ops:Array Oper)(o:Oper):ah Bool:=
 match o.guard with
 |none=>some true
 | some (j,want)=>match (ops[j]?).bind (·.dst)with
  | some t=>(match σ.t t with
   |.lf (.v (.bool b))=>some (b==want)
   |.skip=>some false
   |_=>none)
  |none=>none
def Ju(ops:Array Oper)(j:Nat):Bool:=ops.toList.any λo=>match o.guard with
 |some (i,_)=>Nat.beq i j
 |none=>false
def tR{X:Type}(σ:S)(C:ah Tmp)(g:Bool)(k:S->ah X):ah X:=
 bif g then (match C with
  | some d=>(match σ.t d with
   |.lf (.v (.bool b))=>bif b then k (σ.set d (.lf (.v (.bool true))))else k (σ.set d (.lf (.v (.bool false))))
   |_=>k σ)
  |none=>k σ)else k σ
def CW{X:Type}(P:Program)(N:Nat)(Φ:fl)(ops:Array Oper):Nat->aa Oper->S->(S->ah X)->ah X
 |_,[],σ,k=>k σ
 | j,o :: rest,σ,k=>match gG σ ops o with
  |some true=>Jt P N Φ σ o λC=>tR C o.dst (Ju ops j) λD=>CW P N Φ ops (j+1) rest D k
  |some false=>iU N σ o.dst .skip λC=>CW P N Φ ops (j+1) rest C k
  |none=>none
/-! Regions whose order is open: what is listed is a set of bits. -/
def ek{X:Type}(P:Program)(N:Nat)(Φ:fl)(ops:Array Oper)(σ:S)(o:Oper)(k:S->ah X):ah X:=
 match gG σ ops o with
 |some true=>eA P N Φ σ o k
 |some false=>iU N σ o.dst .skip k
 |none=>none
def ng(ops:Array Oper)(L j:Nat):Bool:=!L.testBit j&&(match ops[j]? with
 |some o=>o.after.toList.all λe=>!Region.binds .any e ||L.testBit e.on
 |none=>false)
def Jv(ops:Array Oper)(i W j:Nat):Bool:=(match ops[j]? with
 |some o=>o.after.toList.any λe=>Region.binds .any e&&(Nat.beq e.on i ||W.testBit e.on)
 |none=>false)
def waits(ops:Array Oper)(i:Nat):Nat->Nat->Nat->Nat
 |0,_,W=>W
 |n+1,j,W=>waits ops i n (j+1) (bif Jv ops i W j then W |||2 ^ j else W)
def fH(o:Oper)(n:Nat):Bool:=match o.dst with
 | some d=>(match o.op with
  |.alloc _|.box .. |.buildSlice .. |.makeSlice ..=>Nat.beq n d
  |.call ⟨.value (.func _),_,_⟩=>Nat.ble (1000000000100000+1000*d) n
  |.call ⟨.builtin .append,_,_⟩=>Nat.beq n d
  |_=>false)
 |none=>false
def Po(Φ:fl)(C:Op):Bool:=gB C || (match C with
 |.alloc _|.box .. |.buildSlice .. |.makeSlice ..=>true
 | .call ⟨.value (.func f),_,_⟩=>(match Φ f with
  |some (.p _)=>true
  |some (.q _)=>true
  |_=>false)
 |_=>false)
def iY(g:Oper->Bool)(ops:Array Oper)(i L W:Nat):Nat->Nat->Bool
 |0,_=>false
 | f+1,j=>(!(Nat.beq j i || L.testBit j || W.testBit j)&&(match ops[j]? with
  |some C=>g C
  |none=>false)) ||iY g ops i L W f (j+1)
def Jw(g:Oper->Bool)(ops:Array Oper)(C:Oper)(i L W:Nat):Nat->Nat->Bool
 |0,_=>true
 | n+1,j=>(Nat.beq j i || L.testBit j || (bif W.testBit j then Jv ops i W j else (match ops[j]? with
  |some D=>g D&&C.apart ops D
  |none=>true)))&&Jw g ops C i L W n (j+1)
def Pp(c:qG):Bool:=c.ps.all λp=>match p with
 |.v _ _=>true
 |.p _ g _=>Nat.beq g 0
 |.s _ _=>false
def tT(ok:Nat->Nat->Bool)(σ:S):aa PK->aa Operand->Bool
 | .p _ _ _ :: ps,.tmp t :: xs=>(match σ.t t with
  |.aE r _=>ok t r
  |_=>false)&&tT ok σ ps xs
 |.v _ _::ps,_::xs=>tT ok σ ps xs
 |[],[]=>true
 |_,_=>false
def jC(σ:S):aa PK->aa Operand->aa Nat
 | .p _ _ _ :: ps,x :: xs=>(match aL σ x with
  |.aE r _=>r::jC σ ps xs
  |_=>jC σ ps xs)
 |_::ps,_::xs=>jC σ ps xs
 |_,_=>[]
def qJ(Φ:fl)(σ:S)(o:Oper):aa Nat:=match o.op with
 | .call ⟨.value (.func f),args,_⟩=>(match Φ f with
  |some (.m c)=>jC σ c.ps args.toList
  |_=>[])
 |_=>[]
def lF(t:Nat)(o:Oper):Bool:=match o.dst with
 |some d=>Nat.beq d t
 |none=>false
def wM(o:Oper):Bool:=(match o.op with
 |.alloc _=>true
 |_=>false)&&o.guard.isNone&&(match o.dst with
 |some d=>Nat.blt d 20000
 |none=>false)
def pP(o:Oper):Bool:=(match o.op with
 |.alloc _=>true
 |.buildSlice t _ _=>!rF t
 |.makeSlice ..=>true
 |_=>false)&&(match o.dst with
 |some d=>Nat.blt d 20000
 |none=>false)
def isApp(o:Oper):Bool:=match o.op with
 |.call ⟨.builtin .append,⟨[x,_]⟩,⟨[t,C]⟩⟩=>!rF t&&Nat.beq t C && !CV o.dst t x
 |_=>false
def WG(Φ:fl)(ops:Array Oper)(i L W:Nat)(σ:S)(o:Oper):Bool:=match o.op with
 | .call ⟨.value (.func f),args,_⟩=>(match Φ f with
  |some (.m c)=>Pp c&&tT (λt r=>!iY (lF t) ops i L W ops.size 0 && !iY (λok=>fH ok r) ops i L W ops.size 0 && !iY isApp ops i L W ops.size 0) σ c.ps args.toList
  |_=>false)
 |_=>false
def A.pQ(p pb:Nat->Bool):A->Bool:=A.fr (va p pb)
def AN(σ:S)(o:Oper):aa Nat:=match o.op with
 | .store _ (.tmp t) _=>(match σ.t t with
  |.aE r _=>[r]
  |_=>[])
 | .call ⟨.builtin .append,⟨[.tmp t,_]⟩,⟨[_,_]⟩⟩=>(match σ.t t with
  |.lf (.own [r])=>[r]
  |_=>[])
 |_=>[]
def Pr(σ:S)(o:Oper):aa Nat:=match o.op with
 | .call ⟨.builtin .append,⟨[.tmp t,_]⟩,⟨[_,_]⟩⟩=>(match σ.t t with
  |.lf (.own [r])=>[r]
  |_=>[])
 |_=>[]
def aqK(t:Nat)(o:Oper):Bool:=match o.op with
 |.store _ (.tmp C) _=>Nat.beq C t
 |_=>false
def faR(ops:Array Oper)(i L W:Nat)(σ:S)(o:Oper):aa Nat:=match o.op,o.dst with
 | .fieldAddr _ (.tmp x) _,some t=>bif iY (aqK t) ops i L W ops.size 0 then (match σ.t x with
  |.aE r _=>[r]
  |_=>[])else []
 |_,_=>[]
def AO(Φ:fl)(ops:Array Oper)(i L W:Nat)(σ:S)(n:Nat):Bool:=
 iY (λo=>fH o n) ops i L W ops.size 0 ||iY (λo=>dB n (qJ Φ σ o) ||dB n (AN σ o)) ops i L W ops.size 0
def AP(Φ:fl)(ops:Array Oper)(i L W:Nat)(σ:S)(n:Nat):Bool:=
 AO Φ ops i L W σ n ||iY (λo=>dB n (faR ops i L W σ o)) ops i L W ops.size 0
def CX(σ:S)(ops:Array Oper)(i L W n:Nat):Bool:=iY (λo=>fH o n) ops i L W ops.size 0 ||iY (λo=>dB n (Pr σ o)) ops i L W ops.size 0
def AQ(Φ:fl)(o:Oper):Bool:=match o.op with
 | .call ⟨.value (.func f),_,_⟩=>(match Φ f with
  |some (.p _)=>true
  |_=>false)
 |_=>false
def nX(Φ:fl)(ops:Array Oper)(i L W t:Nat):Bool:=!iY (λok=>lF t ok && !(pP ok ||isApp ok ||AQ Φ ok)) ops i L W ops.size 0
def WH(Φ:fl)(ops:Array Oper)(i L W:Nat)(o:Oper):Bool:=match o.op with
 |.call ⟨.builtin .append,⟨[.tmp t,_]⟩,⟨[ty,C]⟩⟩=>nX Φ ops i L W t&&(!rF ty&&Nat.beq ty C && !CV o.dst ty (.tmp t))
 |_=>false
def nY(Φ:fl)(ops:Array Oper)(i L W:Nat)(σ:S)(x:Nat):Bool:=!iY (lF x) ops i L W ops.size 0&&(match σ.t x with
 |.aE r _=>AP Φ ops i L W σ r
 |.jW _=>true
 |_=>false)
def Pu(Φ:fl)(ops:Array Oper)(i L W:Nat)(σ:S)(o:Oper):Bool:=match o.op with
 |.fieldAddr _ (.tmp x) _=>nY Φ ops i L W σ x
 |_=>false
def Pv(Φ:fl)(ops:Array Oper)(i L W:Nat)(σ:S)(t:Nat):Bool:=!iY (λok=>lF t ok && !(wM ok ||Pu Φ ops i L W σ ok)) ops i L W ops.size 0
def Iv(Φ:fl)(ops:Array Oper)(i L W:Nat)(σ:S)(o:Oper):Bool:=match o.op with
 | .store _ (.tmp t) _=>o.dst.isNone&&Pv Φ ops i L W σ t&&(match σ.t t with
  |.ptr _=>false
  |_=>true)
 |_=>false
def WI(σ:S)(p:Nat->Bool)(o:Oper):Bool:=o.op.operands.toList.all λx=>(aL σ x).nr p
def WJ(σ:S)(p pb:Nat->Bool)(o:Oper):Bool:=(o.op.operands.toList.all λx=>(aL σ x).pQ p pb)&&(match o.op with
 | .load _ x=>(match aL σ x with
  |.aE r _=>!p r
  |_=>true)
 |_=>true)
def adg(Φ:fl)(ops:Array Oper)(L:Nat)(σ:S)(i:Nat):Bool:=match ops[i]? with
 | some C=>(gB C.op || (match gG σ ops C with
  |some b=>!b
  |none=>false))&&Nat.beq ((L |||2 ^ i) &&& waits ops i ops.size 0 0) 0&&Jw (λD=>Po Φ D.op ||WG Φ ops i L (waits ops i ops.size 0 0) σ D ||Iv Φ ops i L (waits ops i ops.size 0 0) σ D ||WH Φ ops i L (waits ops i ops.size 0 0) D) ops C i L (waits ops i ops.size 0 0) ops.size 0&&WJ σ (AP Φ ops i L (waits ops i ops.size 0 0) σ) (CX σ ops i L (waits ops i ops.size 0 0)) C
 |none=>false
def Jx{X:Type}(P:Program)(N:Nat)(Φ:fl)(ops:Array Oper)(L i:Nat)(σ:S)(o:Oper)(k:S->ah X):ah X:=
 match gG σ ops o with
 |some true=>nW P σ o.op λv=>bif v.pQ (AP Φ ops i L (waits ops i ops.size 0 0) σ) (CX σ ops i L (waits ops i ops.size 0 0))then iU N σ o.dst v k else none
 |some false=>iU N σ o.dst .skip k
 |none=>none
/-! A call may be taken first where all that is free beside it are new blocks. -/
def A.gB:A->Bool
 |.lf (.v _)=>true
 | .agg cs=>cs.all λl=>match l with
  |.v _=>true
  |_=>false
 |_=>false
def WK(ops:Array Oper)(i L W:Nat)(σ:S)(o:Oper):Bool:=pP o&&(match gG σ ops o with
 |some b=>b
 | none=>false)&&(o.op.operands.toList.all λx=>(aL σ x).gB&&(match x with
  |.tmp t=>!iY (lF t) ops i L W ops.size 0
  |_=>true))&&(match o.guard with
 | some (g,_)=>(match (ops[g]?).bind (·.dst)with
  |some t=>!iY (lF t) ops i L W ops.size 0
  |none=>true)
 |none=>true)
def oK(Φ:fl)(o:Oper):Bool:=match o.op with
 | .call ⟨.value (.func f),_,_⟩=>(match Φ f with
  |some (.p _)=>true
  |some (.m _)=>true
  |_=>false)
 |_=>false
def Jy(o:Oper):Bool:=(match o.op with
 |.store _ (.tmp _) _=>true
 |_=>false)&&o.dst.isNone
def yM(σ:S)(o:Oper):Bool:=match o.op with
 | .store _ (.tmp t) _=>(match σ.t t with
  |.aE _ _=>true
  |_=>false)
 |_=>true
def Jz(Φ:fl)(o:Oper):Bool:=oK Φ o ||pP o ||isApp o ||Jy o
def yN(σ:S)(p:Nat->Bool)(r:Nat):Bool:=match σ.m r with
 |some (.aB cs)=>cs.all (Lf.nr p)
 |_=>true
def FB(o:Oper)(n:Nat):Bool:=lF n o
def adh(Φ:fl)(ops:Array Oper)(L:Nat)(σ:S)(i:Nat):Bool:=match ops[i]? with
 | some C=>Jz Φ C&&Nat.beq ((L ||| 2 ^ i) &&& waits ops i ops.size 0 0) 0&&Jw (WK ops i L (waits ops i ops.size 0 0) σ) ops C i L (waits ops i ops.size 0 0) ops.size 0 &&
   WI σ (λn=>iY (λo=>FB o n) ops i L (waits ops i ops.size 0 0) ops.size 0) C&&(qJ Φ σ C).all (yN σ (λn=>iY (λo=>FB o n) ops i L (waits ops i ops.size 0 0) ops.size 0))&&yM σ C
 |none=>false
def sP(x:A)(n:Nat):ah V:=match x with
 | .fO xs=>(match xs[n]? with
  |some (false,[.v z])=>some z
  |_=>none)
 |_=>none
def WL(ops:Array Oper)(L:Nat)(σ:S)(i:Nat):Bool:=match ops[i]?,(List.range ops.size).filter (λj=>!(Nat.beq j i || L.testBit j))with
 | some C,[E]=>(match C.op,C.dst,C.guard,ops[E]? with
  | .extract (.tmp x) n,some _,none,some D=>(match D.op,D.dst,D.guard with
   |.store _ a b,none,none=>(sP (σ.t x) n).isSome&&yK (aL σ a) (aL σ b)&&C.apart ops D
   |_,_,_=>false)
  |_,_,_,_=>false)
 |_,_=>false
def sQ{X:Type}(P:Program)(N:Nat)(Φ:fl)(ops:Array Oper):Nat->Nat->S->(S->ah X)->ah X
 | 0,L,σ,k=>(match (List.range ops.size).filter (ng ops L)with
  |[]=>k σ
  |_=>none)
 | f+1,L,σ,k=>(match (List.range ops.size).filter (ng ops L)with
  |[]=>k σ
  | [i]=>(match ops[i]? with
   |some o=>ek P N Φ ops σ o λC=>tR C o.dst (Ju ops i) λD=>sQ P N Φ ops f (L |||2 ^ i) D k
   |none=>none)
  | rs=>(match rs.find? (adg Φ ops L σ)with
   | some i=>(match ops[i]? with
    |some o=>Jx P N Φ ops L i σ o λC=>tR C o.dst (Ju ops i) λD=>sQ P N Φ ops f (L |||2 ^ i) D k
    |none=>none)
   | none=>(match rs.find? (adh Φ ops L σ)with
    | some i=>(match ops[i]? with
     |some o=>ek P N Φ ops σ o λC=>tR C o.dst (Ju ops i) λD=>sQ P N Φ ops f (L |||2 ^ i) D k
     |none=>none)
    | none=>(match rs.find? (WL ops L σ)with
     | some i=>(match ops[i]? with
      |some o=>ek P N Φ ops σ o λC=>tR C o.dst (Ju ops i) λD=>sQ P N Φ ops f (L |||2 ^ i) D k
      |none=>none)
     |none=>none))))
/-! A new slice of constants may come first,beside values and calls of contents. -/
structure tU where
 run:(X:Type)->S->(Exit->S->Option X)->Option X
abbrev pR:=Nat->ah tU
def nh{X:Type}(P:Program)(N:Nat)(Φ:fl)(Λ:pR):Code->S->(Exit->S->ah X)->ah X
 |.skip,σ,k=>k .normal σ
 |.label _,σ,k=>k .normal σ
 |.ret,σ,k=>k .ret σ
 |.exit id,σ,k=>k (.exit id) σ
 |.region _ ops false,σ,k=>CW P N Φ ops 0 ops.toList σ λC=>k .normal C
 |.region _ ops true,σ,k=>bif P.follows .mixedOrders then sQ P N Φ ops ops.size 0 σ λC=>k .normal C else none
 | .seq x y,σ,k=>nh P N Φ Λ x σ λe C=>match e with
  |.normal=>nh P N Φ Λ y C k
  |e=>k e C
 | .cond c x y,σ,k=>match aL σ c with
  |.lf (.v (.bool b))=>bif b then nh P N Φ Λ x σ k else nh P N Φ Λ y σ k
  |_=>none
 | .block id c,σ,k=>match Λ id with
  |some b=>b.run X σ k
  | none=>nh P N Φ Λ c σ λe C=>match e with
   |.exit D=>if D=id then k .normal C else k (.exit D) C
   |e=>k e C
 |_,_,_=>none
def AW(P:Program)(w0:Wd)(N:Nat)(c:Code)(σ:S)(K:Exit->S->Prop):Prop:=
 ∀a w,R w0 N σ a w->c.wp P (λe D w'=>∃C,K e C/\R w0 N C D w') a w
def occs:Code->aa (Nat×Code)
 |.seq x y=>occs x++occs y
 |.cond _ x y=>occs x++occs y
 |.block id c=>(id,c)::occs c
 |_=>[]
def CY(P:Program)(N:Nat)(c:Code)(b:tU):Prop:=∀(X:Type) σ k (r:X) w0,b.run X σ k=some r->AW P w0 N c σ λe C=>k e C=some r
def rH(P:Program)(N:Nat)(Λ:pR)(l:aa (Nat×Code)):Prop:=∀p∈l,∀b,Λ p.1=some b->CY P N (.block p.1 p.2) b
section
variable {P:Program} {w w':World} {w0:Wd} {B N:Nat} {aj aD:bJ} {ρ ρ':Nat->Loc} {σ:S} {a:Act} {X:Type} {d:Nat} {r:X} {o:Oper} {Φ:fl} {Λ:pR}
def nR.mem{C:S}(D:o.dst=some d)(h:∀ aj ρ a w,Rl w0 N aj ρ σ a w->∃ w' aD ρ' v,(execOp a.eval o).run P w = .ok (.value v) w'/\Rl w0 N aD ρ' C (a.put (some d) v) w'):nR P w0 N o σ C:=by
 intro a w K Q hR E;obtain⟨aj,ρ,hR⟩:=hR;obtain⟨w',aD,ρ',v,I,O⟩:=h aj ρ a w hR;unfold Oper.wp;rw[I,Oper.upon_value,D];exact E _ _ ⟨aD,ρ',O⟩
def lG{k:Nat -> ah X}(h:iG o k=some r):∃ d,o.dst=some d/\k d=some r:=by
 unfold iG at h
 grind
def kB{s:Sem Value}{v:Value}(h:s.run P w = .ok v w'):(do pure (.value (<-s)):Sem Next).run P w = .ok (.value v) w':=by
 rw[gN,h];rfl
def adi{b:Go.Builtin}{x:Operand}{t:TypeId}{v:Value}(C:o.op = .call ⟨.builtin b,⟨[x]⟩,⟨[t]⟩⟩)(h:∀ cs,(builtin b #[t] o.type cs #[a.eval x]).run P w = .ok (.value v) w'):(execOp a.eval o).run P w = .ok (.value v) w':=by
 simp only[execOp,C,resolve,gN,Sem.run_pure,mS,invoke,List.map_toArray,List.map_cons,List.map_nil];exact h _
def WM{b:Go.Builtin}{x y:Operand}{t C:TypeId}{v:Value}(D:o.op = .call ⟨.builtin b,⟨[x,y]⟩,⟨[t,C]⟩⟩)(h:∀ cs,(builtin b #[t,C] o.type cs #[a.eval x,a.eval y]).run P w = .ok (.value v) w'):(execOp a.eval o).run P w = .ok (.value v) w':=by
 simp only[execOp,D,resolve,gN,Sem.run_pure,mS,invoke,List.map_toArray,List.map_cons,List.map_nil];exact h _
def WN{C:Op}:cU λX k=>nW (X:=X) P σ C k:=λX Y k g=>by
 unfold nW;split
 ·rfl
 ·rfl
 ·repeat' first|rfl|refine dN ?_ ?_|split
 ·exact apU _ _ _ _
 ·exact acQ _ _ _ _
 ·exact apO _ _ _ _
 ·exact(Wj.comp λa=>apP.comp (b:=λX k z=>k (.lf (.v z))) λz _ _ _ _=>rfl) X Y k g
 ·exact apX _ _ _ _
 ·exact apQ _ _ _ _
 ·exact apV _ _ _ _
 ·exact apR _ _ _ _
 ·exact apW _ _ _ _
 ·exact apT _ _ _ _
 ·unfold Pb;split<;>rfl
 ·exact apS _ _ _ _
 ·exact acS _ _ _ _
 ·exact acS _ _ _ _
 ·exact apY _ _ _ _
 ·rfl
def WO{op:Op}{k:A->ah X}(h:nW P σ op k=some r):∃ v,k v=some r/\nS (λX k=>nW (X:=X) P σ op k) v/\∀ aj ρ a w (o:Oper),o.op=op->Rl w0 N aj ρ σ a w->∃ u,(execOp a.eval o).run P w = .ok (.value u) w/\RA w w0.heap.size aj ρ v u:=by
 obtain⟨z,O,hd⟩:=WN.m6 h
 refine⟨z,O,hd,λaj ρ a w o I hR=>?_⟩
 replace h:nW P σ op some=some z:=hd A some;clear hd O;unfold nW at h;split at h
 ·cases h;exact⟨_,by simp[execOp,I],hR.aL _⟩
 ·cases h;exact⟨_,by simp[execOp,I],hR.aL _⟩
 ·rename_i c x y;split at h
  ·rename_i b hb;have hc:=hR.aL c;rw[hb]at hc;have hv:=hc.2.Ae;cases b with
   |true=>cases h;exact⟨a.eval x,by simp[execOp,I,hv,asBool],hR.aL x⟩
   |false=>cases h;exact⟨a.eval y,by simp[execOp,I,hv,asBool],hR.aL y⟩
  ·cases h
 next t parts=>obtain⟨_,⟨⟩,C⟩:=ao1 (w0:=w0) (N:=N) h;obtain⟨v,D,E⟩:=C aj ρ a w hR;exact⟨v,by simp only[execOp,I];exact kB D,E⟩
 next t x=>obtain⟨_,⟨⟩,C⟩:=abR (w0:=w0) (N:=N) h;obtain⟨v,D,E⟩:=C aj ρ a w hR _ (hR.aL x);exact⟨v,by simp only[execOp,I];exact kB D,E⟩
 next op t x y yt=>obtain⟨_,⟨⟩,C⟩:=apb (w0:=w0) (N:=N) h;obtain⟨v,D,E⟩:=C aj ρ a w hR x y _ _ (hR.aL x) (hR.aL y);exact⟨v,by simp only[execOp,I];exact kB D,E⟩
 next op t x=>obtain⟨u,hx,h⟩:=U5 h;obtain⟨_,⟨⟩,hp,C⟩:=aoD (P:=P) h;have O:=hR.aL x;rw[hx]at O;obtain⟨U,D,hr⟩:=C w _ aj [] _ O.2;exact⟨U,by simp only[execOp,I];exact kB D,V.Iz hp,hr⟩
 next s d' x=>obtain⟨_,⟨⟩,C⟩:=ao7 (w0:=w0) (N:=N) h;obtain⟨v,D,E⟩:=C aj ρ a w hR _ (hR.aL x);exact⟨v,by simp only[execOp,I];exact kB D,E⟩
 next s x f=>obtain⟨_,⟨⟩,C⟩:=aoH h;obtain⟨v,D,E⟩:=C w _ aj ρ _ (hR.aL x);exact⟨v,by simp only[execOp,I];exact kB D,E⟩
 next s x f=>obtain⟨_,⟨⟩,C⟩:=ao8 h;obtain⟨v,D,E⟩:=C w _ aj ρ _ (hR.aL x);exact⟨v,by simp only[execOp,I];exact kB D,E⟩
 next t x i=>obtain⟨_,⟨⟩,C⟩:=aoI (w0:=w0) (N:=N) h;obtain⟨v,D,E⟩:=C aj ρ a w hR _ _ (hR.aL x) (hR.aL i);exact⟨v,by simp only[execOp,I];exact kB D,E⟩
 next t x i=>obtain⟨_,⟨⟩,C⟩:=ao6 h;obtain⟨v,D,E⟩:=C w _ aj ρ _ _ (hR.aL x) (hR.aL i);exact⟨v,by simp only[execOp,I];exact kB D,E⟩
 next x i=>obtain⟨_,⟨⟩,C⟩:=aoK (P:=P) h;obtain⟨v,D,E⟩:=C w _ aj ρ _ (hR.aL x);exact⟨v,by simp only[execOp,I];exact kB D,E⟩
 next x=>obtain⟨h,C⟩:=ap5 (w:=w) (B:=w0.heap.size) (aj:=aj) (ρ:=ρ) h;cases h;obtain⟨ad,hu⟩:=C _ (hR.aL x);refine⟨a.eval x,?_,hR.aL x⟩;simp only[execOp,I,hu];rfl
 next x t=>obtain⟨_,⟨⟩,C⟩:=aoJ (w0:=w0) (N:=N) (ty:=o.type) h;obtain⟨v,D,E⟩:=C aj ρ a w hR _ (hR.aL x);exact⟨v,adi I λ_=>kB D,E⟩
 next x y t U=>obtain⟨_,⟨⟩,C⟩:=ab9 (P:=P) h;obtain⟨v,D,E⟩:=C w _ aj ρ t o.type _ _ (hR.aL x) (hR.aL y);exact⟨v,WM I λ_=>kB (s:=Builtin.max_ #[t,U] o.type #[a.eval x,a.eval y]) D,E⟩
 next x y t U=>obtain⟨_,⟨⟩,C⟩:=ab9 (P:=P) h;obtain⟨v,D,E⟩:=C w _ aj ρ t o.type _ _ (hR.aL x) (hR.aL y);exact⟨v,WM I λ_=>kB (s:=Builtin.min_ #[t,U] o.type #[a.eval x,a.eval y]) D,E⟩
 ·rename_i t x lo hi;obtain⟨_,⟨⟩,C⟩:=apg (w0:=w0) (N:=N) h;have Y:∀ z:ah Operand,(∀ b,z.map (aL σ)=some b->∃ v,z.map a.eval=some v/\RA w w0.heap.size aj ρ b v)/\(z.map (aL σ)=none->z.map a.eval=none):=by
   intro z;cases z with
   |none=>exact⟨λb hb=>(by cases hb),λ_=>rfl⟩
   |some z=>exact⟨λb hb=>(by cases hb;exact⟨_,rfl,hR.aL z⟩),λhb=>(by cases hb)⟩
  obtain⟨v,D,hr⟩:=C aj ρ a w hR _ _ _ (hR.aL x) (Y lo).1 (Y lo).2 (Y hi).1 (Y hi).2;exact⟨v,by simp only[execOp,I];exact kB D,hr⟩
 ·cases h
def nR.skip{C:S}(D:o.dst=none)(h:∀ aj ρ a w,Rl w0 N aj ρ σ a w->∃ w' aD,(execOp a.eval o).run P w = .ok .skip w'/\Rl w0 N aD ρ C a w'):nR P w0 N o σ C:=by
 intro a w K Q hR E;obtain⟨aj,ρ,hR⟩:=hR;obtain⟨w',aD,I,O⟩:=h aj ρ a w hR;unfold Oper.wp;rw[I,Oper.upon_skip,D];exact E _ _ ⟨aD,ρ,O⟩
def Pw{s:Sem af}(h:s.run P w = .ok () w'):(do s;pure .skip:Sem Next).run P w = .ok .skip w':=by
 rw[gN,h];rfl
def aqL{k:S->ah X}(eE:gF P Φ)(h:jo P N Φ σ o k=some r):∃ O,k O=some r/\nR P w0 N o σ O:=by
 unfold jo at h;split at h
 ·rename_i e C;obtain⟨d,D,h⟩:=lG h;obtain⟨O,h,U⟩:=aoS (w0:=w0) h
  refine⟨O,h,.mem D λaj ρ a w hR=>?_⟩
  obtain⟨w',aD,ρ',v,E,I⟩:=U aj ρ a w hR;exact⟨w',aD,ρ',v,by simp only[execOp,C];exact kB E,I⟩
 ·rename_i e x C;obtain⟨d,D,h⟩:=lG h;obtain⟨O,h,U⟩:=ap3 (w0:=w0) (e:=e) h
  refine⟨O,h,.mem D λaj ρ a w hR=>?_⟩
  obtain⟨w',aD,ρ',v,E,I⟩:=U aj ρ a w hR _ (hR.aL x);exact⟨w',aD,ρ',v,by simp only[execOp,C];exact kB E,I⟩
 ·rename_i t len parts C;obtain⟨d,D,h⟩:=lG h;cases hn:rF t with
  | true=>
   rw[hn,aq]at h;obtain⟨O,h,U⟩:=ap8 (w0:=w0) h
   refine⟨O,h,.mem D λaj ρ a w hR=>?_⟩
   obtain⟨w',aD,ρ',v,E,I⟩:=U aj ρ a w hR;exact⟨w',aD,ρ',v,by simp only[execOp,C];exact kB E,I⟩
  | false=>
   rw[hn,av]at h;obtain⟨O,h,U⟩:=ao5 (w0:=w0) h
   refine⟨O,h,.mem D λaj ρ a w hR=>?_⟩
   obtain⟨w',aD,ρ',v,E,I⟩:=U aj ρ a w hR;exact⟨w',aD,ρ',v,by simp only[execOp,C];exact kB E,I⟩
 ·rename_i t x y C;split at h
  ·rename_i D;cases hn:yK (aL σ x) (aL σ y)with
   | true=>
    rw[hn,aq]at h;obtain⟨O,h,U⟩:=aqh (w0:=w0) (N:=N) h
    refine⟨O,h,.skip D λaj ρ a w hR=>?_⟩
    obtain⟨w',aD,E,I⟩:=U aj ρ a w hR _ _ (hR.aL x) (hR.aL y);exact⟨w',aD,by simp only[execOp,C];exact Pw E,I⟩
   | false=>
    rw[hn,av]at h;obtain⟨O,h,U⟩:=abT (w0:=w0) (N:=N) h
    refine⟨O,h,.skip D λaj ρ a w hR=>?_⟩
    obtain⟨w',E,I⟩:=U aj ρ a w hR _ _ (hR.aL x) (hR.aL y);exact⟨w',aj,by simp only[execOp,C];exact Pw E,I⟩
  ·cases h
 ·rename_i t l c C;obtain⟨d,D,h⟩:=lG h;obtain⟨O,h,U⟩:=aoT (w0:=w0) h
  refine⟨O,h,.mem D λaj ρ a w hR=>?_⟩
  obtain⟨w',aD,ρ',v,E,I⟩:=U aj ρ a w hR _ _ (hR.aL l) (hR.aL c);exact⟨w',aD,ρ',v,by simp only[execOp,C];exact kB E,I⟩
 ·rename_i f args iW C;split at h
  next c Y=>obtain⟨d,D,h⟩:=lG h;obtain⟨he,gk⟩:=eE f _ Y;exact acn C D he gk (apm (w0:=w0) (N:=N) _) h
  next c Y=>obtain⟨he,gk⟩:=eE f _ Y;exact apL C he gk h
  ·cases h
  ·rename_i F Y;obtain⟨d,D,h⟩:=lG h;obtain⟨he,gk⟩:=eE f _ Y;split at h
   next x hx=>exact aql C hx D he gk h
   ·cases h
  next c Y=>obtain⟨he,gk⟩:=eE f _ Y;exact ac7 (ex:=[]) C rfl he gk h
  ·cases h
  next c Y=>obtain⟨d,D,h⟩:=lG h;obtain⟨he,gk⟩:=eE f _ Y;exact acn C D he gk (apl (w0:=w0) (N:=N) _) h
  next c Y=>obtain⟨he,gk⟩:=eE f _ Y;exact aqr C he gk h
  ·cases h
 ·rename_i x y t t' C;cases qB:Nat.beq t t' with
  |false=>rw[qB]at h;cases h
  | true=>
   rw[qB,aq]at h;obtain rfl:=cL qB;obtain⟨d,D,h⟩:=lG h;have hh:∃ O,k O=some r/\∀ aj ρ a w,Rl w0 N aj ρ σ a w->∀ u v,RA w w0.heap.size aj ρ (aL σ x) u->RA w w0.heap.size aj ρ (aL σ y) v->
     ∃w' aD ρ' z,(Builtin.append_ #[t,t] o.type #[u,v]).run P w = .ok z w'/\Rl w0 N aD ρ' O (a.put (some d) z) w':=by
    cases hn:rF t with
    |true=>rw[hn,aq]at h;exact aqf h
    | false=>
     rw[hn,av]at h;cases hk:Pn t d x with
     |true=>rw[hk,aq]at h;exact aqI h
     |false=>rw[hk,av]at h;exact aoU h
   obtain⟨O,h,U⟩:=hh
   refine⟨O,h,.mem D λaj ρ a w hR=>?_⟩
   obtain⟨w',aD,ρ',v,E,I⟩:=U aj ρ a w hR _ _ (hR.aL x) (hR.aL y);exact⟨w',aD,ρ',v,WM C λ_=>kB E,I⟩
 ·rename_i t C;obtain⟨d,D,h⟩:=lG h;obtain⟨O,h,U⟩:=aqx (w0:=w0) (t:=t) (P:=P) h
  refine⟨O,h,.mem D λaj ρ a w hR=>?_⟩
  obtain⟨w',aD,ρ',v,E,I⟩:=U aj ρ a w hR;exact⟨w',aD,ρ',v,by simp only[execOp,C];exact kB E,I⟩
 ·rename_i t x i C;obtain⟨v,h1,_,U⟩:=aqB (w0:=w0) (N:=N) h
  refine nR.val h1 λaj ρ a w hR=>?_
  obtain⟨y,E,I⟩:=U aj ρ a w hR _ _ (hR.aL x) (hR.aL i);exact⟨y,by simp only[execOp,C];exact kB E,I⟩
 ·rename_i t x i v C;split at h
  ·rename_i D;obtain⟨O,h,_,U⟩:=aqC (w0:=w0) (N:=N) h
   refine⟨O,h,.skip D λaj ρ a w hR=>?_⟩
   obtain⟨w',E,I⟩:=U aj ρ a w hR _ _ _ (hR.aL x) (hR.aL i) (hR.aL v);exact⟨w',aj,by simp only[execOp,C];exact Pw E,I⟩
  ·cases h
 ·rename_i t args iW C;split at h
  ·rename_i f cap wo;split at h
   next c Y=>obtain⟨he,gk⟩:=eE f _ Y;exact ac7 C wo he gk h
   ·cases h
  ·cases h
 ·rename_i f adj C;split at h
  ·rename_i ps jY;obtain⟨h1,h2⟩:=ac8 (w0:=w0) (N:=N) _ _ jY
   refine nR.val h λaj ρ a w hR=>⟨.func (.func f) #[] (adj.map a.eval),by simp[execOp,C,Instr.makeFunc],_,rfl,by simp[h1],λj p hp=>?_⟩
   obtain⟨b,off,e1,e2⟩:=h2 aj ρ a w hR j p hp;exact⟨b,off,e1,by simpa using e2⟩
  ·cases h
 ·rename_i x t C;obtain⟨ve,h1,U⟩:=aoX (w0:=w0) (N:=N) (ty:=o.type) h;have run:∀ aj ρ a w,Rl w0 N aj ρ σ a w->∃ w',(execOp a.eval o).run P w = .ok (.value (.tuple #[])) w'/\Rl w0 N aj ρ ve a w':=by
   intro aj ρ a w hR;obtain⟨w',E,I⟩:=U aj ρ a w hR _ (hR.aL x);exact⟨w',adi C λ_=>kB E,I⟩
  unfold iU at h1;split at h1
  ·rename_i D
   refine⟨_,h1,λa w K Q hR hK=>?_⟩
   obtain⟨aj,ρ,hR⟩:=hR;obtain⟨w',E,I⟩:=run aj ρ a w hR;unfold Oper.wp;rw[E,Oper.upon_value,D];exact hK _ _ ⟨aj,ρ,I⟩
  ·rename_i d D;cases hN:Nat.blt d N with
   |false=>rw[hN]at h1;cases h1
   | true=>
    rw[hN,aq]at h1
    refine⟨_,h1,.mem D λaj ρ a w hR=>?_⟩
    obtain⟨w',E,I⟩:=run aj ρ a w hR;exact⟨w',aj,ρ,_,E,I.set trivial (by have:=dj hN;omega)⟩
 ·cases h
def WQ{k:S -> ah X}(E:gF P Φ)(h:eA P N Φ σ o k=some r):∃ C,k C=some r/\nR P w0 N o σ C:=by
 unfold eA at h;cases D:gB o.op with
 | true=>
  rw[D,aq]at h;obtain⟨v,I,_,O⟩:=WO h;exact nR.val I λaj ρ a w hR=>O aj ρ a w o rfl hR
 | false=>
  rw[D]at h;exact aqL E h
def aqM{k:S->ah X}(eE:gF P Φ)(h:Jt P N Φ σ o k=some r):∃ D,k D=some r/\nR P w0 N o σ D:=by
 unfold Jt at h;split at h
 ·rename_i t x y E I;split at h
  ·rename_i q s i j hy;obtain⟨D,C,O⟩:=aqu (w0:=w0) (N:=N) h
   refine⟨D,C,.skip I λaj ρ a w hR=>?_⟩
   have hv:=hR.aL y;rw[hy]at hv;obtain⟨w',aD,U,fz⟩:=O aj ρ a w hR _ _ (hR.aL x) hv;exact⟨w',aD,by simp only[execOp,E];exact Pw U,fz⟩
  ·exact WQ eE h
 ·rename_i t x lo hi mx d E I;obtain⟨C,O⟩:=aqw (w0:=w0) (N:=N) h;cases Y:Nat.blt d N with
  |false=>rw[Y]at C;cases C
  | true=>
   rw[Y,aq]at C
   refine⟨_,C,.mem I λaj ρ a w hR=>?_⟩
   obtain⟨v,U⟩:=O aj ρ a w hR _ _ _ _ (hR.aL x) (hR.aL lo) (hR.aL hi) (hR.aL mx);refine⟨w,aj,ρ,v,?_,hR.set trivial (by have:=dj Y;omega)⟩;simp only[execOp,E,Option.map_some];exact kB U
 ·exact WQ eE h
/-! What an operation gives hangs on its operands and on the roots that they name. -/
def A.key:A->ah (aa Nat)
 |.lf (.own q)=>some q
 |.view q _ _ _=>some q
 |.ptr (_::_::_::q)=>some q
 |_=>none
def Sm(σ2 σ:S)(x:A):Prop:=∀q,x.key=some q->∀(X:Type) (k:V->ah X),jX σ2.m q k=jX σ.m q k
def Sm.eq{σ2:S}(C:σ2.m=σ.m)(x:A):Sm σ2 σ x:=λq _ X k=>by rw[C]
def Sm.lf{σ2:S}{l:Lf}(h:Sm σ2 σ (.lf l))(k:V->ah X):qy σ2 l k=qy σ l k:=by
 cases l with
 |own q=>exact h q rfl X k
 |_=>rfl
def Sm.bin{σ2:S}{C:BinOp}{t:TypeId}{x y:A}(h:Sm σ2 σ x)(k:A->ah X):As P σ2 C t x y k=As P σ C t x y k:=by
 unfold As;split
 ·rfl
 ·split
  ·exact h.lf _
  ·rfl
 ·rfl
def Sm.conv{σ2:S}{t C:TypeId}{x:A}(h:Sm σ2 σ x)(k:A->ah X):Ao P σ2 t C x k=Ao P σ t C x k:=by
 unfold Ao;split
 ·rfl
 ·exact h.lf _
 ·rfl
def Sm.idx{σ2:S}{t:TypeId}{x i:A}(h:Sm σ2 σ x)(k:A->ah X):Ag P σ2 t x i k=Ag P σ t x i k:=by
 unfold Ag;split
 ·rfl
 ·split
  ·split
   ·rfl
   ·exact h _ rfl _ _
   ·rfl
  ·rfl
def Sm.len{σ2:S}{t:TypeId}{x:A}(h:Sm σ2 σ x)(k:A->ah X):Co P σ2 t x k=Co P σ t x k:=by
 cases x with
 |lf l=>exact h.lf _
 |_=>rfl
def Sm.slc{σ2:S}{t:TypeId}{x:A}{lo hi:ah A}(h:Sm σ2 σ x)(k:A->ah X):Av P σ2 t x lo hi k=Av P σ t x lo hi k:=by
 unfold Av CB;split
 ·simp only[h _ rfl]
 ·simp only[h _ rfl]
 ·rfl
def Sm.load{σ2:S}{t:TypeId}{x:A}(h:Sm σ2 σ x)(hb:∀ r j,x = .aE r j->σ2.m r=σ.m r)(k:A->ah X):pH P σ2 t x k=pH P σ t x k:=by
 unfold pH;split
 ·rfl
 ·split
  ·rw[hb _ _ rfl]
  ·rfl
  ·exact h _ rfl _ _
  ·rfl
def adk{σ2:S}(C:Op)(h:∀ x∈C.operands,aL σ2 x=aL σ x/\Sm σ2 σ (aL σ x))(hl:∀ t x,C = .load t x->∀ k:A->ah X,pH P σ2 t (aL σ x) k=pH P σ t (aL σ x) k)(k:A->ah X):nW P σ2 C k=nW P σ C k:=by
 unfold nW;split
 case h_4 t parts=>
  have e:(parts.toList.map λp=>(p.1,aL σ2 p.2))=parts.toList.map λp=>(p.1,aL σ p.2):=List.map_congr_left λp I=>by rw[(h p.2 (by simp only[Op.operands];exact List.mem_toArray.2 (List.mem_map_of_mem (f:=(·.2)) I))).1]
  simp only[Ff,e]
 case h_18 t x lo hi=>
  have e:∀ z:ah Operand,(∀ y,z=some y->aL σ2 y=aL σ y)->z.map (aL σ2)=z.map (aL σ):=by
   intro z O;cases z with
   |none=>rfl
   |some z=>exact bC some (O z rfl)
  have E:=h x (by simp[Op.operands]);rw[E.1,e lo (λy D=>(h y (by subst D;simp[Op.operands])).1),e hi (λy D=>(h y (by subst D;simp[Op.operands])).1)];exact E.2.slc k
 all_goals simp[Op.operands,Call.operands]at h
 case h_5=>rw[h.1];exact hl _ _ rfl k
 case h_6=>rw[h.1.1,h.2.1];exact h.1.2.bin k
 case h_8=>rw[h.1];exact h.2.conv k
 case h_11=>rw[h.1.1,h.2.1];exact h.1.2.idx k
 case h_15=>rw[h.1];exact h.2.len k
 all_goals first|rfl|simp only[h]
def adl{σ2:S}(C:Op)(D:σ2.m=σ.m)(h:∀ x∈C.operands,aL σ2 x=aL σ x)(k:A->ah X):nW P σ2 C k=nW P σ C k:=
 adk C (λx E=>⟨h x E,.eq D _⟩) (λt x _ k=>(Sm.eq D _).load (λr _ _=>by rw[D]) k) k
def adm{σ2:S}(C:σ2.m=σ.m)(q:aa Nat)(s i j:Nat)(k:V->ah X):wh σ2 q s i j k=wh σ q s i j k:=by
 simp only[wh,C]
def WR{σ2:S}(C:σ2.m=σ.m)(x:Lf)(k:V->ah X):qy σ2 x k=qy σ x k:=(Sm.eq C _).lf k
def aqN{σ2:S}(C:σ2.m=σ.m)(x:A)(k:V->ah X):tE σ2 x k=tE σ x k:=by
 cases x<;>simp only[tE,WR C,adm C]
def WS{σ2:S}(C:σ2.m=σ.m):∀ (xs:aa Lf) (k:aa V->ah X),sI σ2 xs k=sI σ xs k
 |[],k=>rfl
 | x :: xs,k=>by
  simp only[sI,WR C,WS C xs]
def adn{σ2:S}(C:σ2.m=σ.m)(x:A)(k:Pt->ah X):pJ σ2 x k=pJ σ x k:=by
 unfold pJ;simp only[WS C,adm C]
def WT{σ2:S}{f:A->(Pt->ah X)->ah X}:∀ (xs:aa Operand) (k:aa Pt->ah X),(∀ x∈xs,aL σ2 x=aL σ x)->wA f σ2 xs k=wA f σ xs k
 |[],k,_=>rfl
 | x :: xs,k,h=>by
  simp only[wA,h x (.head _),WT xs _ λy C=>h y (.tail _ C)]
def aqO{σ2:S}(C:σ2.m=σ.m)(xs:aa Operand)(k:aa Pt->ah X)(h:∀ x∈xs,aL σ2 x=aL σ x):uT σ2 xs k=uT σ xs k:=by
 unfold uT;rw[show pJ σ2=pJ σ from funext λx=>funext λk=>adn C x k,WT xs k h]
def aqP{σ2:S}(C:σ2.m=σ.m)(x:A)(k:Pt->ah X):wz σ2 x k=wz σ x k:=by
 unfold wz;simp only[adn C,WS C,C]
def aqQ{σ2:S}(C:σ2.m=σ.m)(xs:aa Operand)(k:aa Pt->ah X)(h:∀ x∈xs,aL σ2 x=aL σ x):CC σ2 xs k=CC σ xs k:=by
 unfold CC;rw[show wz σ2=wz σ from funext λx=>funext λk=>aqP C x k,WT xs k h]
/-! .. and a root that it does not name is of no account. -/
def JA(n:Nat)(x:aX)(m:Nat->ah aX):Nat->ah aX:=cc (λr=>bif Nat.beq r n then none else (m r).map (aX.drop n)) n (some x)
def ado{n:Nat}{x:aX}{m:Nat->ah aX}{q:Nat}(h:q≠n):JA n x m q=(m q).map (aX.drop n):=by
 unfold JA;rw[cN _ _ _ h,qq h];rfl
def Px{m m':Nat->ah aX}{p:Nat->Bool}(D:∀ r,p r=false->∀ y,m' r=some (.sl y) ↔ m r=some (.sl y)):∀ (q:aa Nat) (k:V->ah X),pM p q=true->jX m' q k=jX m q k
 |[],_,_=>rfl
 | [r],k,h=>by
  have E:=D r (by simpa [pM,jN]using h);simp only[jX];split
  next y C=>rw[(E y).1 C]
  ·rename_i I;split
   next y C=>exact absurd ((E y).2 C) (I y)
   ·rfl
 |[_,_],_,_=>rfl
 |[j,i,s],k,h=>rfl
 | j :: i :: s :: O :: q,k,h=>by
  simp only[jX];exact Px D (O::q) _ (by simpa [pM,Ou]using h)
def aqR{n:Nat}{q:aa Nat}(h:dZ n q=false):pM (λr=>Nat.beq r n) q=true:=by
 unfold pM jN;unfold dZ at h;split
 next r C=>rw[C]at h;show (!Nat.beq r n)=true;rw[qq (show r≠n by simpa using h)];rfl
 ·rfl
def aX.JB(n:Nat)(cs:aa Lf):(aX.aB cs).drop n = .aB (cs.map (Lf.drop n)):=rfl
def aqS{n:Nat}(z:ah aX)(y:V):z.map (aX.drop n)=some (.sl y) ↔ z=some (.sl y):=by
 cases z with
 |none=>simp
 |some z=>cases z<;>simp[aX.drop,aX.cG]
def adp{n:Nat}{x:aX}{m:Nat->ah aX}{r:Nat}(h:r≠n)(y:V):JA n x m r=some (.sl y) ↔ m r=some (.sl y):=by
 rw[ado h];exact aqS _ y
def JC{p:Nat->Bool}{r n:Nat}(h:p r=false)(C:p n=true):r≠n:=by
 rintro rfl;rw[C]at h;cases h
def aqT{n:Nat}{x:aX}{m:Nat->ah aX}(q:aa Nat)(k:V->ah X)(h:dZ n q=false):jX (JA n x m) q k=jX m q k:=
 Px (p:=λr=>Nat.beq r n) (λr C y=>adp (JC (p:=λr=>Nat.beq r n) C (Nat.beq_refl n)) y) q k (aqR h)
def aqU{p:Nat->Bool}{r j n:Nat}(h:(A.aE r j).nr p=true)(C:p n=true):r≠n:=
 JC (by simpa [A.nr,A.fr,va]using h) C
def adq{p pb:Nat->Bool}{x:A}{q:aa Nat}(h:x.pQ p pb=true)(e:x.key=some q):pM p q=true:=by
 unfold A.key at e;split at e
 ·injection e with e;subst e;exact h
 ·injection e with e;subst e;exact h
 ·rename_i j i s C;injection e with e;subst e;have h:pM p (j :: i :: s :: C)=true:=h;cases C with
  |nil=>rfl
  |cons D q=>simpa [pM,Ou]using h
 ·cases e
def aqV{p pb:Nat->Bool}{t:TypeId}{cs:aa Lf}{y:A}(h:yl P t cs some=some y)(C:y.pQ p pb=true):∀ c∈cs,c.nr p=true:=by
 unfold yl at h;split at h
 ·split at h
  ·split at h
   ·injection h with h;subst h;exact ck.1 C
   ·split at h
    ·injection h with h;subst h;intro c D;rw[jH.1 D];exact C
    ·cases h
   ·cases h
  ·cases h
 ·cases h
def A.yO:A->Bool
 |.aE .. |.ptr _|.lf (.own _)=>true
 |_=>false
def A.adr(x:A)(K:oD):x.cG K=x\/(x.cG K).yO=false:=by
 cases x with
 | lf l=>cases l with
  |own k=>cases h:K.l k<;>simp[A.cG,Lf.cG,h,A.yO]
  |_=>exact .inl rfl
 |ptr k=>cases h:K.p k<;>simp[A.cG,h,A.yO]
 |aE r j=>cases h:K.r r<;>simp[A.cG,h,A.yO]
 |pk r j=>cases h:K.r r<;>simp[A.cG,h,A.yO]
 |view k s i j=>cases h:K.p k<;>simp[A.cG,h,A.yO]
 |fn f cap=>cases h:(cap.any λp=>K.r p.1)<;>simp[A.cG,h,A.yO]
 |_=>exact .inr rfl
structure iN (p pb:Nat->Bool) (σ cW:S):Prop where
 t:∀{g},(σ.t g).pQ p pb=true->cW.t g=σ.t g
 sl:∀r,p r=false->∀y,cW.m r=some (.sl y) ↔ σ.m r=some (.sl y)
 aB:∀r,p r=false->∀cs,σ.m r=some (.aB cs)->∃f:Lf->Lf,cW.m r=some (.aB (cs.map f))/\∀l,l.nr p=true->f l=l
 nw:∀g,cW.t g=σ.t g\/(cW.t g).yO=false
def iN.refl{p pb:Nat->Bool}(σ:S):iN p pb σ σ:=
 ⟨λ_=>rfl,λ_ _ _=>.rfl,λ_ _ cs h=>⟨id,by rw[List.map_id];exact h,λ_ _=>rfl⟩,λ_=>.inl rfl⟩
def iN.trans{p pb:Nat->Bool}{σ E I:S}(h:iN p pb σ E)(D:iN p pb E I):iN p pb σ I:=by
 refine⟨λ{g} O=>?_,λr C y=>(D.sl r C y).trans (h.sl r C y),λr C cs U=>?_,λg=>?_⟩
 ·have e:=h.t O;rw[D.t (by rw[e];exact O),e]
 ·obtain⟨f,Y,h2⟩:=h.aB r C cs U;obtain⟨f',h3,h4⟩:=D.aB r C _ Y;exact⟨f' ∘ f,by rw[<-List.map_map];exact h3,λl hl=>by show f' (f l)=l;rw[h2 l hl,h4 l hl]⟩
 ·rcases D.nw g with e | e
  ·rw[e];exact h.nw g
  ·exact .inr e
def iN.root{p pb:Nat->Bool}{σ D:S}(n:Nat)(x:aX)(C:p n=true)(hb:pb n=true)(h:iN p pb σ D):iN p pb σ ((D.drop n).root n x):=by
 refine h.trans ⟨λI=>A.CO I C hb,λr E y=>adp (JC E C) y,λr E cs O=>⟨Lf.drop n,?_,λl hl=>Lf.AK hl C⟩,λg=>A.adr _ _⟩
 show JA n x D.m r=_;rw[ado (JC E C),O];rfl
def iN.rt{p pb:Nat->Bool}{σ D:S}(n:Nat)(x:aX)(E:p n=true)(h:iN p pb σ D):iN p pb σ (D.root n x):=by
 have e:∀r,p r=false->(D.root n x).m r=D.m r:=λr C=>cN _ _ _ (JC C E)
 exact h.trans ⟨λ_=>rfl,λr C y=>by rw[e r C],λr C cs I=>⟨id,by rw[e r C,List.map_id];exact I,λ_ _=>rfl⟩,λ_=>.inl rfl⟩
/-! Roots that a call writes. -/
def adt(ns:aa Nat)(nr:aa (Nat×aX))(m:Nat->ah aX):Nat->ah aX:=λr=>match nr.lookup r with
 |some x=>some x
 |none=>bif dB r ns ||dB r []then none else (m r).map (aX.dR ns [])
structure WU (p:Nat->Bool) (ns:List Nat) (nr:List (Nat×aX)):Prop where
 ns:∀n,dB n ns=true->p n=true
 nr:∀n x,nr.lookup n=some x->p n=true
def aqW{p:Nat->Bool}{ns:aa Nat}{nr:aa (Nat×aX)}{m:Nat->ah aX}(hb:WU p ns nr){q:Nat}(h:p q=false):adt ns nr m q=(m q).map (aX.dR ns []):=by
 unfold adt;cases C:nr.lookup q with
 |some x=>rw[hb.nr q x C]at h;cases h
 | none=>
  cases D:dB q ns with
  |true=>rw[hb.ns q D]at h;cases h
  |false=>rfl
def WV(k:aa Nat):iq k []=false:=by
 unfold iq;split<;>rfl
def WW{p:Nat->Bool}{ns:aa Nat}(hb:∀ n,dB n ns=true->p n=true)(k:aa Nat)(h:iq k ns=true):jN p k=true:=by
 unfold iq at h;unfold jN;split at h
 next r C=>rw[C];exact hb _ h
 ·cases h
def Lf.aqX{p:Nat->Bool}{x:Lf}{ns:aa Nat}(h:x.nr p=true)(hb:∀ n,dB n ns=true->p n=true):x.dR ns []=x:=
 Lf.qm (Lf.tC (λk C=>WW hb k (by simp[wD,WV]at C;exact C.1)) h)
def A.WX{p pb:Nat->Bool}{x:A}{ns:aa Nat}(h:x.pQ p pb=true)(hb:∀ n,dB n ns=true->p n=true):x.dR ns []=x:=
 A.qm (A.tC (K:=wD ns []) (J:=va p pb) (λk C=>WW hb k (by simp[wD,WV]at C;exact C.1)) (λk C=>WW hb k (by simpa [wD,WV]using C)) (λr D=>by cases D) h)
def iN.dR{p pb:Nat->Bool}{σ C:S}(ns:aa Nat)(nr:aa (Nat×aX))(hb:WU p ns nr)(h:iN p pb σ C):iN p pb σ (C.dR ns [] nr):=by
 have e:∀r,p r=false->(C.dR ns [] nr).m r=(C.m r).map (aX.dR ns []):=λr D=>aqW hb D
 refine h.trans ⟨λE=>A.WX E hb.ns,λr D y=>?_,λr D cs I=>⟨Lf.dR ns [],?_,λl hl=>Lf.aqX hl hb.ns⟩,λg=>A.adr _ _⟩
 ·rw[e r D];cases C.m r with
  |none=>simp
  |some z=>cases z<;>simp[aX.dR,aX.cG]
 ·rw[e r D,I];rfl
end
end Go.Proofs.YtdfkhfiglknaoaaGreat
