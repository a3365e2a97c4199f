/-
  Running the program over pure contents, and that it follows (part 4). Nothing here is a claim.
-/
import Derived.Test.YtglnbhiaknohlaaGreatV3
set_option linter.unusedSimpArgs false
namespace Go.Proofs.YtglnbhiaknohlaaGreat
open Go.RowKit
set_option linter.unusedVariables false
abbrev dJ:=Nat->aj pE
def fm(P:Program)(Φ:dJ):Prop:=∀f c,Φ f=some c->enters P f/\RX P f c
def ef{X:Type}(o:Oper)(k:Nat->aj X):aj X:=
 match o.dst with
 |some d=>k d
 |none=>none
def fk:Op->Bool
 |.move _|.assign _|.pick .. |.build .. |.load .. |.binOp .. |.unOp .. |.convert .. |.fieldAddr .. |.field .. |.indexAddr .. |.index .. |.extract .. |.nilCheck _=>true
 |.call ⟨.builtin .len,_,_⟩|.call ⟨.builtin .max,_,_⟩|.call ⟨.builtin .min,_,_⟩=>true
 |.slice _ _ _ _ none=>true
 |_=>false
def cI{X:Type}(P:Program)(σ:S)(op:Op)(k:A->aj X):aj X:=
 match op with
 |.move x=>k (aE σ x)
 |.assign x=>k (aE σ x)
 | .pick c x y=>(match aE σ c with
  |.lf (.v (.bool b))=>bif b then k (aE σ x)else k (aE σ y)
  |_=>none)
 |.build t parts=>tu P σ t parts.toList k
 |.load t x=>iG P σ t (aE σ x) k
 |.binOp op t x y _=>kM P σ op t (aE σ x) (aE σ y) k
 |.unOp op _ x=>vK (aE σ x) λa=>Cf op a λz=>k (.lf (.v z))
 |.convert s d x=>nJ P σ s d (aE σ x) k
 |.fieldAddr s x f=>rZ P s (aE σ x) f k
 |.field s x f=>uP P s (aE σ x) f k
 |.indexAddr t x i=>om P σ t (aE σ x) (aE σ i) k
 |.index t x i=>xd P t (aE σ x) (aE σ i) k
 |.extract x i=>uL (aE σ x) i k
 |.nilCheck x=>KV (aE σ x) k
 |.call ⟨.builtin .len,⟨[x]⟩,⟨[t]⟩⟩=>l9 P σ t (aE σ x) k
 |.call ⟨.builtin .max,⟨[x,y]⟩,⟨[_,_]⟩⟩=>zE true (aE σ x) (aE σ y) k
 |.call ⟨.builtin .min,⟨[x,y]⟩,⟨[_,_]⟩⟩=>zE false (aE σ x) (aE σ y) k
 |.slice t x lo hi none=>qi P σ t (aE σ x) (lo.map (aE σ)) (hi.map (aE σ)) k
 |_=>none
def gC{X:Type}(P:Program)(N:Nat)(Φ:dJ)(σ:S)(o:Oper)(k:S->aj X):aj X:=
 match o.op with
 |.alloc e=>ef o λd=>qV P N σ d e k
 |.box e x=>ef o λd=>zS N σ d (aE σ x) k
 |.buildSlice t len parts=>ef o λd=>bif nP t then xE P N σ d t len parts.toList k else zC P N σ d t len parts.toList k
 | .store t x y=>(match o.dst with
  |none=>bif tL (aE σ x) (aE σ y)then qz P σ t (aE σ x) (aE σ y) k else mU P σ t (aE σ x) (aE σ y) k
  |some _=>none)
 |.makeSlice t l c=>ef o λd=>zq P N σ d t (aE σ l) (aE σ c) k
 | .call ⟨.value (.func f),args,_⟩=>(match Φ f with
  |some (.p c)=>ef o λd=>uT N σ d c args.toList k
  |some (.m c)=>lH N σ o.dst c args.toList k
  |some (.v c)=>ef o λd=>zX N σ d c args.toList k
  | some (.n F)=>ef o λd=>(match args.toList with
   |[x]=>zV N σ d F (aE σ x) k
   |_=>none)
  |some (.i c)=>zZ N σ o.dst c (args.toList.map (aE σ)++[]) k
  |some (.d c)=>zR N σ o.dst c args.toList k
  |some (.q c)=>ef o λd=>qk N σ d c args.toList k
  |some (.c c)=>z0 N σ o.dst c args.toList k
  |none=>none)
 |.call ⟨.builtin .append,⟨[x,y]⟩,⟨[t,C]⟩⟩=>bif Nat.beq t C then ef o λd=>bif nP t then xF P N σ d t (aE σ x) (aE σ y) k else bif FK t d x then xN P N σ d t (aE σ x) (aE σ y) k else pn P N σ d t (aE σ x) (aE σ y) k else none
 |.makeMap _ none=>ef o λd=>K8 N σ d k
 |.lookup t x i false=>FI P σ t (aE σ x) (aE σ i) λv=>gI N σ o.dst v k
 | .mapUpdate t x i v=>(match o.dst with
  |none=>FJ P σ t (aE σ x) (aE σ i) (aE σ v) k
  |some _=>none)
 | .call ⟨.value (.tmp t),args,_⟩=>(match K4 (aE σ (.tmp t))with
  | some (f,ex)=>(match Φ f with
   |some (.i c)=>zZ N σ o.dst c (args.toList.map (aE σ)++ex) k
   |_=>none)
  |none=>none)
 | .makeFunc (.func f) ⟨[]⟩ D=>(match FG σ D.toList with
  |some ps=>gI N σ o.dst (.fn f ps) k
  |none=>none)
 |.call ⟨.builtin .clear,⟨[x]⟩,⟨[t]⟩⟩=>zB P σ t (aE σ x) λE=>gI N E o.dst .undef k
 |_=>none
def cR{X:Type}(P:Program)(N:Nat)(Φ:dJ)(σ:S)(o:Oper)(k:S->aj X):aj X:=
 bif fk o.op then cI P σ o.op λv=>gI N σ o.dst v k else gC P N Φ σ o k
def m6{X:Type}(P:Program)(N:Nat)(Φ:dJ)(σ:S)(o:Oper)(k:S->aj X):aj X:=
 match o.op,o.dst with
 | .store t x y,none=>(match aE σ y with
  |.view [q] s i j=>xJ P σ q s i j t (aE σ x) k
  |_=>cR P N Φ σ o k)
 |.slice t x (some lo) (some hi) (some C),some d=>xK P σ t (aE σ x) (aE σ lo) (aE σ hi) (aE σ C) (bif Nat.blt d N then k (σ.set d .undef)else none)
 |_,_=>cR P N Φ σ o k
def e9(σ:S)(ops:Array Oper)(o:Oper):aj Bool:=
 match o.guard with
 |none=>some true
 | some (j,want)=>match (ops[j]?).bind (·.dst)with
  | some t=>(match σ.t t with
   |.lf (.v (.bool b))=>some (b==want)
   |.skip=>some false
   |_=>none)
  |none=>none
def FL(ops:Array Oper)(j:Nat):Bool:=ops.toList.any λo=>match o.guard with
 |some (i,_)=>Nat.beq i j
 |none=>false
def nQ{X:Type}(σ:S)(C:aj Tmp)(g:Bool)(k:S->aj X):aj X:=
 bif g then (match C with
  | some d=>(match σ.t d with
   |.lf (.v (.bool b))=>bif b then k (σ.set d (.lf (.v (.bool true))))else k (σ.set d (.lf (.v (.bool false))))
   |_=>k σ)
  |none=>k σ)else k σ
def tM{X:Type}(P:Program)(N:Nat)(Φ:dJ)(ops:Array Oper):Nat->aa Oper->S->(S->aj X)->aj X
 |_,[],σ,k=>k σ
 | j,o :: rest,σ,k=>match e9 σ ops o with
  |some true=>m6 P N Φ σ o λC=>nQ C o.dst (FL ops j) λD=>tM P N Φ ops (j+1) rest D k
  |some false=>gI N σ o.dst .skip λC=>tM P N Φ ops (j+1) rest C k
  |none=>none
/-! Regions whose order is open: what is listed is a set of bits. -/
def cS{X:Type}(P:Program)(N:Nat)(Φ:dJ)(ops:Array Oper)(σ:S)(o:Oper)(k:S->aj X):aj X:=
 match e9 σ ops o with
 |some true=>cR P N Φ σ o k
 |some false=>gI N σ o.dst .skip k
 |none=>none
def kR(ops:Array Oper)(L j:Nat):Bool:=!L.testBit j&&(match ops[j]? with
 |some o=>o.after.toList.all λe=>!Region.binds .any e ||L.testBit e.on
 |none=>false)
def FM(ops:Array Oper)(i W j:Nat):Bool:=(match ops[j]? with
 |some o=>o.after.toList.any λe=>Region.binds .any e&&(Nat.beq e.on i ||W.testBit e.on)
 |none=>false)
def waits(ops:Array Oper)(i:Nat):Nat->Nat->Nat->Nat
 |0,_,W=>W
 |n+1,j,W=>waits ops i n (j+1) (bif FM ops i W j then W |||2 ^ j else W)
def dK(o:Oper)(n:Nat):Bool:=match o.dst with
 | some d=>(match o.op with
  |.alloc _|.box .. |.buildSlice .. |.makeSlice ..=>Nat.beq n d
  |.call ⟨.value (.func _),_,_⟩=>Nat.ble (1000000000100000+1000*d) n
  |.call ⟨.builtin .append,_,_⟩=>Nat.beq n d
  |_=>false)
 |none=>false
def Lb(Φ:dJ)(op:Op):Bool:=fk op || (match op with
 |.alloc _|.box .. |.buildSlice .. |.makeSlice ..=>true
 | .call ⟨.value (.func f),_,_⟩=>(match Φ f with
  |some (.p _)=>true
  |some (.q _)=>true
  |_=>false)
 |_=>false)
def gM(g:Oper->Bool)(ops:Array Oper)(i L W:Nat):Nat->Nat->Bool
 |0,_=>false
 | f+1,j=>(!(Nat.beq j i || L.testBit j || W.testBit j)&&(match ops[j]? with
  |some C=>g C
  |none=>false)) ||gM g ops i L W f (j+1)
def CI(g:Oper->Bool)(ops:Array Oper)(C:Oper)(i L W:Nat):Nat->Nat->Bool
 |0,_=>true
 | n+1,j=>(Nat.beq j i || L.testBit j || (bif W.testBit j then FM ops i W j else (match ops[j]? with
  |some D=>g D&&C.apart ops D
  |none=>true)))&&CI g ops C i L W n (j+1)
def Lc(c:mZ):Bool:=c.ps.all λp=>match p with
 |.v _ _=>true
 |.p _ g _=>Nat.beq g 0
 |.s _ _=>false
def qB(ok:Nat->Nat->Bool)(σ:S):aa PK->aa Operand->Bool
 | .p _ _ _ :: ps,.tmp t :: xs=>(match σ.t t with
  |.aH r _=>ok t r
  |_=>false)&&qB ok σ ps xs
 |.v _ _::ps,_::xs=>qB ok σ ps xs
 |[],[]=>true
 |_,_=>false
def gZ(σ:S):aa PK->aa Operand->aa Nat
 | .p _ _ _ :: ps,x :: xs=>(match aE σ x with
  |.aH r _=>r::gZ σ ps xs
  |_=>gZ σ ps xs)
 |_::ps,_::xs=>gZ σ ps xs
 |_,_=>[]
def oG(Φ:dJ)(σ:S)(o:Oper):aa Nat:=match o.op with
 | .call ⟨.value (.func f),args,_⟩=>(match Φ f with
  |some (.m c)=>gZ σ c.ps args.toList
  |_=>[])
 |_=>[]
def jR(t:Nat)(o:Oper):Bool:=match o.dst with
 |some d=>Nat.beq d t
 |none=>false
def tN(o:Oper):Bool:=(match o.op with
 |.alloc _=>true
 |_=>false)&&o.guard.isNone&&(match o.dst with
 |some d=>Nat.blt d 20000
 |none=>false)
def m7(o:Oper):Bool:=(match o.op with
 |.alloc _=>true
 |.buildSlice t _ _=>!nP t
 |.makeSlice ..=>true
 |_=>false)&&(match o.dst with
 |some d=>Nat.blt d 20000
 |none=>false)
def isApp(o:Oper):Bool:=match o.op with
 |.call ⟨.builtin .append,⟨[x,_]⟩,⟨[t,C]⟩⟩=>!nP t&&Nat.beq t C && !Ab o.dst t x
 |_=>false
def R7(Φ:dJ)(ops:Array Oper)(i L W:Nat)(σ:S)(o:Oper):Bool:=match o.op with
 | .call ⟨.value (.func f),args,_⟩=>(match Φ f with
  |some (.m c)=>Lc c&&qB (λt r=>!gM (jR t) ops i L W ops.size 0 && !gM (λok=>dK ok r) ops i L W ops.size 0 && !gM isApp ops i L W ops.size 0) σ c.ps args.toList
  |_=>false)
 |_=>false
def A.jS(p pb:Nat->Bool):A->Bool
 |.lf x=>x.nr p
 |.agg cs=>cs.all (Lf.nr p)
 |.ct xs=>xs.all λq=>q.2.all (Lf.nr p)
 |.ptr k=>dI p k
 |.aH r _=>!pb r
 |.pk r _=>!pb r
 |.view k _ _ _=>dI p k
 |.fn _ cap=>cap.all λq=>!pb q.1
 |_=>true
def xO(σ:S)(o:Oper):aa Nat:=match o.op with
 | .store _ (.tmp t) _=>(match σ.t t with
  |.aH r _=>[r]
  |_=>[])
 | .call ⟨.builtin .append,⟨[.tmp t,_]⟩,⟨[_,_]⟩⟩=>(match σ.t t with
  |.lf (.own [r])=>[r]
  |_=>[])
 |_=>[]
def Ld(σ:S)(o:Oper):aa Nat:=match o.op with
 | .call ⟨.builtin .append,⟨[.tmp t,_]⟩,⟨[_,_]⟩⟩=>(match σ.t t with
  |.lf (.own [r])=>[r]
  |_=>[])
 |_=>[]
def aj2(t:Nat)(o:Oper):Bool:=match o.op with
 |.store _ (.tmp C) _=>Nat.beq C t
 |_=>false
def faR(ops:Array Oper)(i L W:Nat)(σ:S)(o:Oper):aa Nat:=match o.op,o.dst with
 | .fieldAddr _ (.tmp x) _,some t=>bif gM (aj2 t) ops i L W ops.size 0 then (match σ.t x with
  |.aH r _=>[r]
  |_=>[])else []
 |_,_=>[]
def xP(Φ:dJ)(ops:Array Oper)(i L W:Nat)(σ:S)(n:Nat):Bool:=
 gM (λo=>dK o n) ops i L W ops.size 0 ||gM (λo=>bV n (oG Φ σ o) ||bV n (xO σ o)) ops i L W ops.size 0
def tO(Φ:dJ)(ops:Array Oper)(i L W:Nat)(σ:S)(n:Nat):Bool:=
 xP Φ ops i L W σ n ||gM (λo=>bV n (faR ops i L W σ o)) ops i L W ops.size 0
def vh(σ:S)(ops:Array Oper)(i L W n:Nat):Bool:=gM (λo=>dK o n) ops i L W ops.size 0 ||gM (λo=>bV n (Ld σ o)) ops i L W ops.size 0
def xQ(Φ:dJ)(o:Oper):Bool:=match o.op with
 | .call ⟨.value (.func f),_,_⟩=>(match Φ f with
  |some (.p _)=>true
  |_=>false)
 |_=>false
def mj(Φ:dJ)(ops:Array Oper)(i L W t:Nat):Bool:=!gM (λok=>jR t ok && !(m7 ok ||isApp ok ||xQ Φ ok)) ops i L W ops.size 0
def R8(Φ:dJ)(ops:Array Oper)(i L W:Nat)(o:Oper):Bool:=match o.op with
 |.call ⟨.builtin .append,⟨[.tmp t,_]⟩,⟨[ty,C]⟩⟩=>mj Φ ops i L W t&&(!nP ty&&Nat.beq ty C && !Ab o.dst ty (.tmp t))
 |_=>false
def mm(Φ:dJ)(ops:Array Oper)(i L W:Nat)(σ:S)(x:Nat):Bool:=!gM (jR x) ops i L W ops.size 0&&(match σ.t x with
 |.aH r _=>tO Φ ops i L W σ r
 |.gG _=>true
 |_=>false)
def Le(Φ:dJ)(ops:Array Oper)(i L W:Nat)(σ:S)(o:Oper):Bool:=match o.op with
 |.fieldAddr _ (.tmp x) _=>mm Φ ops i L W σ x
 |_=>false
def Lg(Φ:dJ)(ops:Array Oper)(i L W:Nat)(σ:S)(t:Nat):Bool:=!gM (λok=>jR t ok && !(tN ok ||Le Φ ops i L W σ ok)) ops i L W ops.size 0
def ES(Φ:dJ)(ops:Array Oper)(i L W:Nat)(σ:S)(o:Oper):Bool:=match o.op with
 | .store _ (.tmp t) _=>o.dst.isNone&&Lg Φ ops i L W σ t&&(match σ.t t with
  |.ptr _=>false
  |_=>true)
 |_=>false
def R9(σ:S)(p:Nat->Bool)(o:Oper):Bool:=o.op.operands.toList.all λx=>(aE σ x).nr p
def Sa(σ:S)(p pb:Nat->Bool)(o:Oper):Bool:=(o.op.operands.toList.all λx=>(aE σ x).jS p pb)&&(match o.op with
 | .load _ x=>(match aE σ x with
  |.aH r _=>!p r
  |_=>true)
 |_=>true)
def YP(Φ:dJ)(ops:Array Oper)(L:Nat)(σ:S)(i:Nat):Bool:=match ops[i]? with
 | some C=>(fk C.op || (match e9 σ ops C with
  |some b=>!b
  |none=>false))&&Nat.beq ((L |||2 ^ i) &&& waits ops i ops.size 0 0) 0&&CI (λD=>Lb Φ D.op ||R7 Φ ops i L (waits ops i ops.size 0 0) σ D ||ES Φ ops i L (waits ops i ops.size 0 0) σ D ||R8 Φ ops i L (waits ops i ops.size 0 0) D) ops C i L (waits ops i ops.size 0 0) ops.size 0&&Sa σ (tO Φ ops i L (waits ops i ops.size 0 0) σ) (vh σ ops i L (waits ops i ops.size 0 0)) C
 |none=>false
def xR{X:Type}(P:Program)(N:Nat)(Φ:dJ)(ops:Array Oper)(L i:Nat)(σ:S)(o:Oper)(k:S->aj X):aj X:=
 match e9 σ ops o with
 |some true=>cI P σ o.op λv=>bif v.jS (tO Φ ops i L (waits ops i ops.size 0 0) σ) (vh σ ops i L (waits ops i ops.size 0 0))then gI N σ o.dst v k else none
 |some false=>gI N σ o.dst .skip k
 |none=>none
/-! A call may be taken first where all that is free beside it are new blocks. -/
def A.fk:A->Bool
 |.lf (.v _)=>true
 | .agg cs=>cs.all λl=>match l with
  |.v _=>true
  |_=>false
 |_=>false
def Sb(ops:Array Oper)(i L W:Nat)(σ:S)(o:Oper):Bool:=m7 o&&(match e9 σ ops o with
 |some b=>b
 | none=>false)&&(o.op.operands.toList.all λx=>(aE σ x).fk&&(match x with
  |.tmp t=>!gM (jR t) ops i L W ops.size 0
  |_=>true))&&(match o.guard with
 | some (g,_)=>(match (ops[g]?).bind (·.dst)with
  |some t=>!gM (jR t) ops i L W ops.size 0
  |none=>true)
 |none=>true)
def m8(Φ:dJ)(o:Oper):Bool:=match o.op with
 | .call ⟨.value (.func f),_,_⟩=>(match Φ f with
  |some (.p _)=>true
  |some (.m _)=>true
  |_=>false)
 |_=>false
def FN(o:Oper):Bool:=(match o.op with
 |.store _ (.tmp _) _=>true
 |_=>false)&&o.dst.isNone
def vi(σ:S)(o:Oper):Bool:=match o.op with
 | .store _ (.tmp t) _=>(match σ.t t with
  |.aH _ _=>true
  |_=>false)
 |_=>true
def FO(Φ:dJ)(o:Oper):Bool:=m8 Φ o ||m7 o ||isApp o ||FN o
def vj(σ:S)(p:Nat->Bool)(r:Nat):Bool:=match σ.m r with
 |some (.ax cs)=>cs.all (Lf.nr p)
 |_=>true
def CJ(o:Oper)(n:Nat):Bool:=jR n o
def YQ(Φ:dJ)(ops:Array Oper)(L:Nat)(σ:S)(i:Nat):Bool:=match ops[i]? with
 | some C=>FO Φ C&&Nat.beq ((L ||| 2 ^ i) &&& waits ops i ops.size 0 0) 0&&CI (Sb ops i L (waits ops i ops.size 0 0) σ) ops C i L (waits ops i ops.size 0 0) ops.size 0 &&
   R9 σ (λn=>gM (λo=>CJ o n) ops i L (waits ops i ops.size 0 0) ops.size 0) C&&(oG Φ σ C).all (vj σ (λn=>gM (λo=>CJ o n) ops i L (waits ops i ops.size 0 0) ops.size 0))&&vi σ C
 |none=>false
def qC(x:A)(n:Nat):aj V:=match x with
 | .ct xs=>(match xs[n]? with
  |some (false,[.v z])=>some z
  |_=>none)
 |_=>none
def Sc(ops:Array Oper)(L:Nat)(σ:S)(i:Nat):Bool:=match ops[i]?,(List.range ops.size).filter (λj=>!(Nat.beq j i || L.testBit j))with
 | some C,[E]=>(match C.op,C.dst,C.guard,ops[E]? with
  | .extract (.tmp x) n,some _,none,some D=>(match D.op,D.dst,D.guard with
   |.store _ a b,none,none=>(qC (σ.t x) n).isSome&&tL (aE σ a) (aE σ b)&&C.apart ops D
   |_,_,_=>false)
  |_,_,_,_=>false)
 |_,_=>false
def je{X:Type}(P:Program)(N:Nat)(Φ:dJ)(ops:Array Oper):Nat->Nat->S->(S->aj X)->aj X
 | 0,L,σ,k=>(match (List.range ops.size).filter (kR ops L)with
  |[]=>k σ
  |_=>none)
 | f+1,L,σ,k=>(match (List.range ops.size).filter (kR ops L)with
  |[]=>k σ
  | [i]=>(match ops[i]? with
   |some o=>cS P N Φ ops σ o λC=>nQ C o.dst (FL ops i) λD=>je P N Φ ops f (L |||2 ^ i) D k
   |none=>none)
  | rs=>(match rs.find? (YP Φ ops L σ)with
   | some i=>(match ops[i]? with
    |some o=>xR P N Φ ops L i σ o λC=>nQ C o.dst (FL ops i) λD=>je P N Φ ops f (L |||2 ^ i) D k
    |none=>none)
   | none=>(match rs.find? (YQ Φ ops L σ)with
    | some i=>(match ops[i]? with
     |some o=>cS P N Φ ops σ o λC=>nQ C o.dst (FL ops i) λD=>je P N Φ ops f (L |||2 ^ i) D k
     |none=>none)
    | none=>(match rs.find? (Sc ops L σ)with
     | some i=>(match ops[i]? with
      |some o=>cS P N Φ ops σ o λC=>nQ C o.dst (FL ops i) λD=>je P N Φ ops f (L |||2 ^ i) D k
      |none=>none)
     |none=>none))))
/-! A new slice of constants may come first,beside values and calls of contents. -/
def Lh:Op->Bool
 |.move _|.assign _|.load .. |.binOp .. |.unOp .. |.field .. |.fieldAddr .. |.index ..=>true
 |.call ⟨.builtin .len,_,_⟩=>true
 |_=>false
def Sd(Φ:dJ)(o:Oper):Bool:=Lh o.op || (match o.op with
 | .call ⟨.value (.func f),_,_⟩=>(match Φ f with
  |some (.p _)=>true
  |_=>false)
 |_=>false)
def early(Φ:dJ)(ops:Array Oper)(i:Nat):Bool:=match ops[i]? with
 | some o=>(match o.op with
  |.buildSlice ..=>true
  |_=>false)&&m7 o&&o.guard.isNone&&kR ops 0 i&&(o.op.operands.toList.all λx=>match x with
  |.const _=>true
  |_=>false)&&Nat.beq ((0 |||2 ^ i) &&& waits ops i ops.size 0 0) 0&&CI (Sd Φ) ops o i 0 (waits ops i ops.size 0 0) ops.size 0
 |none=>false
def xS{X:Type}(P:Program)(N:Nat)(Φ:dJ)(ops:Array Oper)(σ:S)(k:S->aj X):aj X:=
 match (List.range ops.size).find? (early Φ ops)with
 | some i=>(match ops[i]? with
  | some o=>(match o.dst with
   |some e=>cS P N Φ ops (σ.drop e) o λC=>je P N Φ ops (ops.size-1) (0 |||2 ^ i) C k
   |none=>none)
  |none=>none)
 |none=>je P N Φ ops ops.size 0 σ k
structure q5 where
 run:(X:Type)->S->(Exit->S->Option X)->Option X
abbrev mq:=Nat->aj q5
def fX{X:Type}(P:Program)(N:Nat)(Φ:dJ)(Λ:mq):Code->S->(Exit->S->aj X)->aj X
 |.skip,σ,k=>k .normal σ
 |.label _,σ,k=>k .normal σ
 |.ret,σ,k=>k .ret σ
 |.exit id,σ,k=>k (.exit id) σ
 |.region _ ops false,σ,k=>tM P N Φ ops 0 ops.toList σ λC=>k .normal C
 |.region _ ops true,σ,k=>bif P.follows .mixedOrders then je P N Φ ops ops.size 0 σ λC=>k .normal C else none
 | .seq x y,σ,k=>fX P N Φ Λ x σ λe C=>match e with
  |.normal=>fX P N Φ Λ y C k
  |e=>k e C
 | .cond c x y,σ,k=>match aE σ c with
  |.lf (.v (.bool b))=>bif b then fX P N Φ Λ x σ k else fX P N Φ Λ y σ k
  |_=>none
 | .block id c,σ,k=>match Λ id with
  |some b=>b.run X σ k
  | none=>fX P N Φ Λ c σ λe C=>match e with
   |.exit D=>if D=id then k .normal C else k (.exit D) C
   |e=>k e C
 |_,_,_=>none
def AW(P:Program)(w0:Wd)(N:Nat)(c:Code)(σ:S)(K:Exit->S->Prop):Prop:=
 ∀a w,R w0 N σ a w->c.wp P (λe D w'=>∃C,K e C/\R w0 N C D w') a w
def occs:Code->aa (Nat×Code)
 |.seq x y=>occs x++occs y
 |.cond _ x y=>occs x++occs y
 |.block id c=>(id,c)::occs c
 |_=>[]
def Ad(P:Program)(N:Nat)(c:Code)(b:q5):Prop:=∀(X:Type) σ k (r:X) w0,b.run X σ k=some r->AW P w0 N c σ λe C=>k e C=some r
def oH(P:Program)(N:Nat)(Λ:mq)(l:aa (Nat×Code)):Prop:=∀p∈l,∀b,Λ p.1=some b->Ad P N (.block p.1 p.2) b
section
variable {P:Program} {w w':World} {w0:Wd} {B N:Nat} {ah aD:bA} {ρ ρ':Nat->Loc} {σ:S} {a:Act} {X:Type} {d:Nat} {r:X} {o:Oper} {Φ:dJ} {Λ:mq}
theorem lA.mem{C:S}(D:o.dst=some d)(h:∀ ah ρ a w,Rl w0 N ah ρ σ a w->∃ w' aD ρ' v,(execOp a.eval o).run P w = .ok (.value v) w'/\Rl w0 N aD ρ' C (a.put (some d) v) w'):lA P w0 N o σ C:=by
 intro a w K Q hR E;obtain⟨ah,ρ,hR⟩:=hR;obtain⟨w',aD,ρ',v,I,J⟩:=h ah ρ a w hR;unfold Oper.wp;rw[I,Oper.upon_value,D];exact E _ _ ⟨aD,ρ',J⟩
theorem fT{k:Nat->aj X}(h:ef o k=some r):∃ d,o.dst=some d/\k d=some r:=by
 unfold ef at h;split at h
 next d C=>exact⟨d,C,h⟩
 ·cases h
theorem lK{s:Sem Value}{v:Value}(h:s.run P w = .ok v w'):(do pure (.value (<-s)):Sem Next).run P w = .ok (.value v) w':=by
 rw[eC,h];rfl
theorem CK{op:Op}{k:A->aj X}(h:cI P σ op k=some r):∃ v,k v=some r/\cx (λX k=>cI (X:=X) P σ op k) v/\∀ ah ρ a w (o:Oper),o.op=op->Rl w0 N ah ρ σ a w->∃ u,(execOp a.eval o).run P w = .ok (.value u) w/\RA w w0.heap.size ah ρ v u:=by
 unfold cI at h;split at h
 next x=>exact⟨_,h,λX k=>rfl,λah ρ a w o E hR=>⟨a.eval x,by simp[execOp,E],hR.aE x⟩⟩
 next x=>exact⟨_,h,λX k=>rfl,λah ρ a w o E hR=>⟨a.eval x,by simp[execOp,E],hR.aE x⟩⟩
 ·rename_i c x y;split at h
  ·rename_i b hb
   refine⟨bif b then aE σ x else aE σ y,by cases b<;>exact h,λX k=>by simp only[cI,hb];cases b<;>rfl,λah ρ a w o E hR=>?_⟩
   have hc:=hR.aE c;rw[hb]at hc;have hv:=hc.2.w5;cases b with
   |true=>exact⟨a.eval x,by simp[execOp,E,hv,asBool],hR.aE x⟩
   |false=>exact⟨a.eval y,by simp[execOp,E,hv,asBool],hR.aE y⟩
  ·cases h
 ·rename_i t parts;obtain⟨y,I,D⟩:=ajg h;obtain⟨Q,C,L⟩:=aia (w0:=w0) (N:=N) (k:=λz=>some z) (r:=y) (D.at_ _);injection C with C;subst C
  refine⟨_,I,λX k=>D.at_ _,λah ρ a w o E hR=>?_⟩
  obtain⟨v,J,O⟩:=L ah ρ a w hR;exact⟨v,by simp only[execOp,E];exact lK J,O⟩
 ·rename_i t x;obtain⟨y,I,D⟩:=FD h;obtain⟨Q,C,L⟩:=Xc (w0:=w0) (N:=N) (k:=λz=>some z) (r:=y) (D.at_ _);injection C with C;subst C
  refine⟨_,I,λX k=>D.at_ _,λah ρ a w o E hR=>?_⟩
  obtain⟨v,J,O⟩:=L ah ρ a w hR _ (hR.aE x);exact⟨v,by simp only[execOp,E];exact lK J,O⟩
 ·rename_i op t x y yt;obtain⟨z,I,D⟩:=ajb h;obtain⟨Z,C,L⟩:=ain (w0:=w0) (N:=N) (k:=λz=>some z) (r:=z) (D.at_ _);injection C with C;subst C
  refine⟨_,I,λX k=>D.at_ _,λah ρ a w o E hR=>?_⟩
  obtain⟨T,J,U⟩:=L ah ρ a w hR x y _ _ (hR.aE x) (hR.aE y);exact⟨T,by simp only[execOp,E];exact lK J,U⟩
 ·rename_i op t x;obtain⟨u,I,KT⟩:=CE h;obtain⟨z,h3,FC⟩:=Yo I;obtain⟨u',hx,C⟩:=Ka (k:=λz=>some z) (r:=u) (KT.at_ _);injection C with C;subst C;obtain⟨Z,Se,hp,L⟩:=ahP (P:=P) (k:=λz=>some z) (r:=z) (FC.at_ _);injection Se with Se;subst Se
  refine⟨_,h3,λX k=>(KT.at_ _).trans (FC.at_ _),λah ρ a w o E hR=>?_⟩
  have I:=hR.aE x;rw[hx]at I;obtain⟨T,J,U⟩:=L w _ ah [] _ I.2;exact⟨T,by simp only[execOp,E];exact lK J,V.EV hp,U⟩
 ·rename_i s d' x;obtain⟨y,I,D⟩:=ajk h;obtain⟨Q,C,L⟩:=aij (w0:=w0) (N:=N) (k:=λz=>some z) (r:=y) (D.at_ _);injection C with C;subst C
  refine⟨_,I,λX k=>D.at_ _,λah ρ a w o E hR=>?_⟩
  obtain⟨v,J,O⟩:=L ah ρ a w hR _ (hR.aE x);exact⟨v,by simp only[execOp,E];exact lK J,O⟩
 ·rename_i s x f;obtain⟨y,I,D⟩:=ajc h;obtain⟨Q,C,L⟩:=ahS (k:=λz=>some z) (r:=y) (D.at_ _);injection C with C;subst C
  refine⟨_,I,λX k=>D.at_ _,λah ρ a w o E hR=>?_⟩
  obtain⟨v,J,O⟩:=L w _ ah ρ _ (hR.aE x);exact⟨v,by simp only[execOp,E];exact lK J,O⟩
 ·rename_i s x f;obtain⟨y,I,D⟩:=ajh h;obtain⟨Q,C,L⟩:=aik (k:=λz=>some z) (r:=y) (D.at_ _);injection C with C;subst C
  refine⟨_,I,λX k=>D.at_ _,λah ρ a w o E hR=>?_⟩
  obtain⟨v,J,O⟩:=L w _ ah ρ _ (hR.aE x);exact⟨v,by simp only[execOp,E];exact lK J,O⟩
 ·rename_i t x i;obtain⟨y,I,D⟩:=ajd h;obtain⟨Q,C,L⟩:=ahT (w0:=w0) (N:=N) (k:=λz=>some z) (r:=y) (D.at_ _);injection C with C;subst C
  refine⟨_,I,λX k=>D.at_ _,λah ρ a w o E hR=>?_⟩
  obtain⟨v,J,O⟩:=L ah ρ a w hR _ _ (hR.aE x) (hR.aE i);exact⟨v,by simp only[execOp,E];exact lK J,O⟩
 ·rename_i t x i;obtain⟨y,I,D⟩:=aji h;obtain⟨Q,C,L⟩:=aii (k:=λz=>some z) (r:=y) (D.at_ _);injection C with C;subst C
  refine⟨_,I,λX k=>D.at_ _,λah ρ a w o E hR=>?_⟩
  obtain⟨v,J,O⟩:=L w _ ah ρ _ _ (hR.aE x) (hR.aE i);exact⟨v,by simp only[execOp,E];exact lK J,O⟩
 ·rename_i x i;obtain⟨y,I,D⟩:=ajf h;obtain⟨Q,C,L⟩:=ahV (P:=P) (k:=λz=>some z) (r:=y) (D.at_ _);injection C with C;subst C
  refine⟨_,I,λX k=>D.at_ _,λah ρ a w o E hR=>?_⟩
  obtain⟨v,J,O⟩:=L w _ ah ρ _ (hR.aE x);exact⟨v,by simp only[execOp,E];exact lK J,O⟩
 ·rename_i x;obtain⟨I,D,L⟩:=Yw (w:=default) (B:=0) (ah:=λ_=>none) (ρ:=λ_=>.de undef) h
  refine⟨_,I,λX k=>D.at_ _,λah ρ a w o E hR=>?_⟩
  obtain⟨_,_,L⟩:=Yw (w:=w) (B:=w0.heap.size) (ah:=ah) (ρ:=ρ) h;obtain⟨ad,hu⟩:=L _ (hR.aE x);refine⟨a.eval x,?_,hR.aE x⟩;simp only[execOp,E,hu];rfl
 ·rename_i x t;obtain⟨y,I,D⟩:=aje h
  refine⟨_,I,λX k=>D.at_ _,λah ρ a w o E hR=>?_⟩
  obtain⟨Q,C,L⟩:=ahU (w0:=w0) (N:=N) (ty:=o.type) (k:=λz=>some z) (r:=y) (D.at_ _);injection C with C;subst C;obtain⟨v,J,O⟩:=L ah ρ a w hR _ (hR.aE x);exact⟨v,by simp only[execOp,E,resolve,eC,Sem.run_pure,iD,invoke,builtin,List.map_toArray,ig,List.map_nil];rw[J];rfl,O⟩
 ·rename_i x y t T;obtain⟨z,I,D⟩:=Yp h;obtain⟨Z,C,L⟩:=XA (P:=P) (k:=λz=>some z) (r:=z) (D.at_ _);injection C with C;subst C
  refine⟨_,I,λX k=>D.at_ _,λah ρ a w o E hR=>?_⟩
  obtain⟨v,J,O⟩:=L w _ ah ρ t o.type _ _ (hR.aE x) (hR.aE y);refine⟨v,?_,O⟩;simp only[execOp,E,resolve,eC,Sem.run_pure,iD,invoke,builtin,List.map_toArray,ig,List.map_nil];have J:(Builtin.max_ #[t,T] o.type #[a.eval x,a.eval y]).run P w = .ok v w:=J;rw[J];rfl
 ·rename_i x y t T;obtain⟨z,I,D⟩:=Yp h;obtain⟨Z,C,L⟩:=XA (P:=P) (k:=λz=>some z) (r:=z) (D.at_ _);injection C with C;subst C
  refine⟨_,I,λX k=>D.at_ _,λah ρ a w o E hR=>?_⟩
  obtain⟨v,J,O⟩:=L w _ ah ρ t o.type _ _ (hR.aE x) (hR.aE y);refine⟨v,?_,O⟩;simp only[execOp,E,resolve,eC,Sem.run_pure,iD,invoke,builtin,List.map_toArray,ig,List.map_nil];have J:(Builtin.min_ #[t,T] o.type #[a.eval x,a.eval y]).run P w = .ok v w:=J;rw[J];rfl
 ·rename_i t x lo hi;obtain⟨y,I,D⟩:=ajl h;obtain⟨Q,C,L⟩:=aiq (w0:=w0) (N:=N) (k:=λz=>some z) (r:=y) (D.at_ _);injection C with C;subst C
  refine⟨_,I,λX k=>D.at_ _,λah ρ a w o E hR=>?_⟩
  have Y:∀ z:aj Operand,(∀ b,z.map (aE σ)=some b->∃ v,z.map a.eval=some v/\RA w w0.heap.size ah ρ b v)/\(z.map (aE σ)=none->z.map a.eval=none):=by
   intro z;cases z with
   |none=>exact⟨λb hb=>(by cases hb),λ_=>rfl⟩
   |some z=>exact⟨λb hb=>(by cases hb;exact⟨_,rfl,hR.aE z⟩),λhb=>(by cases hb)⟩
  obtain⟨v,J,U⟩:=L ah ρ a w hR _ _ _ (hR.aE x) (Y lo).1 (Y lo).2 (Y hi).1 (Y hi).2;exact⟨v,by simp only[execOp,E];exact lK J,U⟩
 ·cases h
theorem aj3{k:S->aj X}(Z:fm P Φ)(h:gC P N Φ σ o k=some r):∃ J,k J=some r/\lA P w0 N o σ J:=by
 unfold gC at h;split at h
 ·rename_i e C;obtain⟨d,D,h⟩:=fT h;obtain⟨J,h,L⟩:=ah2 (w0:=w0) h
  refine⟨J,h,.mem D λah ρ a w hR=>?_⟩
  obtain⟨w',aD,ρ',v,E,I⟩:=L ah ρ a w hR;exact⟨w',aD,ρ',v,by simp only[execOp,C];exact lK E,I⟩
 ·rename_i e x C;obtain⟨d,D,h⟩:=fT h;obtain⟨J,h,L⟩:=ajq (w0:=w0) (e:=e) h
  refine⟨J,h,.mem D λah ρ a w hR=>?_⟩
  obtain⟨w',aD,ρ',v,E,I⟩:=L ah ρ a w hR _ (hR.aE x);exact⟨w',aD,ρ',v,by simp only[execOp,C];exact lK E,I⟩
 ·rename_i t len parts C;obtain⟨d,D,h⟩:=fT h;cases hn:nP t with
  | true=>
   rw[hn,ak]at h;obtain⟨J,h,L⟩:=ajr (w0:=w0) h
   refine⟨J,h,.mem D λah ρ a w hR=>?_⟩
   obtain⟨w',aD,ρ',v,E,I⟩:=L ah ρ a w hR;exact⟨w',aD,ρ',v,by simp only[execOp,C];exact lK E,I⟩
  | false=>
   rw[hn,aq]at h;obtain⟨J,h,L⟩:=aif (w0:=w0) h
   refine⟨J,h,.mem D λah ρ a w hR=>?_⟩
   obtain⟨w',aD,ρ',v,E,I⟩:=L ah ρ a w hR;exact⟨w',aD,ρ',v,by simp only[execOp,C];exact lK E,I⟩
 ·rename_i t x y C;split at h
  ·rename_i D;cases hn:tL (aE σ x) (aE σ y)with
   | true=>
    rw[hn,ak]at h;obtain⟨J,h,L⟩:=ajx (w0:=w0) (N:=N) h
    refine⟨J,h,λa w K Q hR hK=>?_⟩
    obtain⟨ah,ρ,hR⟩:=hR;obtain⟨w',aD,E,I⟩:=L ah ρ a w hR _ _ (hR.aE x) (hR.aE y);have:(execOp a.eval o).run P w = .ok .skip w':=by
     simp only[execOp,C];rw[eC,E];rfl
    unfold Oper.wp;rw[this,Oper.upon_skip,D];exact hK _ _ ⟨aD,ρ,I⟩
   | false=>
    rw[hn,aq]at h;obtain⟨J,h,L⟩:=Xe (w0:=w0) (N:=N) h
    refine⟨J,h,λa w K Q hR hK=>?_⟩
    obtain⟨ah,ρ,hR⟩:=hR;obtain⟨w',E,I⟩:=L ah ρ a w hR _ _ (hR.aE x) (hR.aE y);have:(execOp a.eval o).run P w = .ok .skip w':=by
     simp only[execOp,C];rw[eC,E];rfl
    unfold Oper.wp;rw[this,Oper.upon_skip,D];exact hK _ _ ⟨ah,ρ,I⟩
  ·cases h
 ·rename_i t l c C;obtain⟨d,D,h⟩:=fT h;obtain⟨J,h,L⟩:=ah3 (w0:=w0) h
  refine⟨J,h,.mem D λah ρ a w hR=>?_⟩
  obtain⟨w',aD,ρ',v,E,I⟩:=L ah ρ a w hR _ _ (hR.aE l) (hR.aE c);exact⟨w',aD,ρ',v,by simp only[execOp,C];exact lK E,I⟩
 ·rename_i f args gW C;split at h
  next c O=>obtain⟨d,D,h⟩:=fT h;obtain⟨T,U⟩:=Z f _ O;exact aiu C D T U h
  next c O=>obtain⟨T,U⟩:=Z f _ O;exact aiQ C T U h
  next c O=>obtain⟨d,D,h⟩:=fT h;obtain⟨T,U⟩:=Z f _ O;exact ajB C D T U h
  ·rename_i F O;obtain⟨d,D,h⟩:=fT h;obtain⟨T,U⟩:=Z f _ O;split at h
   next x hx=>exact ajA C hx D T U h
   ·cases h
  next c O=>obtain⟨T,U⟩:=Z f _ O;exact YE (ex:=[]) C rfl T U h
  next c O=>obtain⟨T,U⟩:=Z f _ O;exact aiW C T U h
  next c O=>obtain⟨d,D,h⟩:=fT h;obtain⟨T,U⟩:=Z f _ O;exact aiv C D T U h
  next c O=>obtain⟨T,U⟩:=Z f _ O;exact ajI C T U h
  ·cases h
 ·rename_i x y t t' C;cases kK:Nat.beq t t' with
  |false=>rw[kK]at h;cases h
  | true=>
   rw[kK,ak]at h;obtain rfl:=bQ kK;obtain⟨d,D,h⟩:=fT h;have hh:∃ J,k J=some r/\∀ ah ρ a w,Rl w0 N ah ρ σ a w->∀ u v,RA w w0.heap.size ah ρ (aE σ x) u->RA w w0.heap.size ah ρ (aE σ y) v->
     ∃w' aD ρ' z,(Builtin.append_ #[t,t] o.type #[u,v]).run P w = .ok z w'/\Rl w0 N aD ρ' J (a.put (some d) z) w':=by
    cases hn:nP t with
    |true=>rw[hn,ak]at h;exact ajv h
    | false=>
     rw[hn,aq]at h;cases hk:FK t d x with
     |true=>rw[hk,ak]at h;exact aj0 h
     |false=>rw[hk,aq]at h;exact ah4 h
   obtain⟨J,h,L⟩:=hh
   refine⟨J,h,.mem D λah ρ a w hR=>?_⟩
   obtain⟨w',aD,ρ',v,E,I⟩:=L ah ρ a w hR _ _ (hR.aE x) (hR.aE y);refine⟨w',aD,ρ',v,?_,I⟩;simp only[execOp,C,resolve,eC,Sem.run_pure,iD,invoke,builtin,List.map_toArray,ig,List.map_nil];rw[E];rfl
 ·rename_i t C;obtain⟨d,D,h⟩:=fT h;obtain⟨J,h,L⟩:=ajT (w0:=w0) (t:=t) (P:=P) h
  refine⟨J,h,.mem D λah ρ a w hR=>?_⟩
  obtain⟨w',aD,ρ',v,E,I⟩:=L ah ρ a w hR;exact⟨w',aD,ρ',v,by simp only[execOp,C];exact lK E,I⟩
 ·rename_i t x i C;obtain⟨v,Y,_,L⟩:=YK (w0:=w0) (N:=N) h
  refine lA.val Y λah ρ a w hR=>?_
  obtain⟨y,E,I⟩:=L ah ρ a w hR _ _ (hR.aE x) (hR.aE i);exact⟨y,by simp only[execOp,C];exact lK E,I⟩
 ·rename_i t x i v C;split at h
  ·rename_i D;obtain⟨J,h,_,L⟩:=YL (w0:=w0) (N:=N) h
   refine⟨J,h,λa w K Q hR hK=>?_⟩
   obtain⟨ah,ρ,hR⟩:=hR;obtain⟨w',E,I⟩:=L ah ρ a w hR _ _ _ (hR.aE x) (hR.aE i) (hR.aE v);have:(execOp a.eval o).run P w = .ok .skip w':=by
    simp only[execOp,C];rw[eC,E];rfl
   unfold Oper.wp;rw[this,Oper.upon_skip,D];exact hK _ _ ⟨ah,ρ,I⟩
  ·cases h
 ·rename_i t args gW C;split at h
  ·rename_i f cap qW;split at h
   next c O=>obtain⟨T,U⟩:=Z f _ O;exact YE C qW T U h
   ·cases h
  ·cases h
 ·rename_i f Sf C;split at h
  ·rename_i ps pq;obtain⟨Y,h2⟩:=YF (w0:=w0) (N:=N) _ _ pq
   refine lA.val h λah ρ a w hR=>⟨.func (.func f) #[] (Sf.map a.eval),by simp[execOp,C,Instr.makeFunc],_,rfl,by simp[Y],λj p hp=>?_⟩
   obtain⟨b,off,e1,e2⟩:=h2 ah ρ a w hR j p hp;exact⟨b,off,e1,by simpa using e2⟩
  ·cases h
 ·rename_i x t C;obtain⟨qx,Y,L⟩:=ah7 (w0:=w0) (N:=N) (ty:=o.type) h;have run:∀ ah ρ a w,Rl w0 N ah ρ σ a w->∃ w',(execOp a.eval o).run P w = .ok (.value (.tuple #[])) w'/\Rl w0 N ah ρ qx a w':=by
   intro ah ρ a w hR;obtain⟨w',E,I⟩:=L ah ρ a w hR _ (hR.aE x);refine⟨w',?_,I⟩;simp only[execOp,C,resolve,eC,Sem.run_pure,iD,invoke,builtin,List.map_toArray,ig,List.map_nil];rw[E];rfl
  unfold gI at Y;split at Y
  ·rename_i D
   refine⟨_,Y,λa w K Q hR hK=>?_⟩
   obtain⟨ah,ρ,hR⟩:=hR;obtain⟨w',E,I⟩:=run ah ρ a w hR;unfold Oper.wp;rw[E,Oper.upon_value,D];exact hK _ _ ⟨ah,ρ,I⟩
  ·rename_i d D;cases hN:Nat.blt d N with
   |false=>rw[hN]at Y;cases Y
   | true=>
    rw[hN,ak]at Y
    refine⟨_,Y,.mem D λah ρ a w hR=>?_⟩
    obtain⟨w',E,I⟩:=run ah ρ a w hR;exact⟨w',ah,ρ,_,E,I.set trivial (by have:=cB hN;omega)⟩
 ·cases h
theorem Sg{k:S->aj X}(E:fm P Φ)(h:cR P N Φ σ o k=some r):∃ C,k C=some r/\lA P w0 N o σ C:=by
 unfold cR at h;cases D:fk o.op with
 | true=>
  rw[D,ak]at h;obtain⟨v,I,_,J⟩:=CK (w0:=w0) (N:=N) h;exact lA.val I λah ρ a w hR=>J ah ρ a w o rfl hR
 | false=>
  rw[D,aq]at h;exact aj3 E h
theorem aj4{k:S->aj X}(T:fm P Φ)(h:m6 P N Φ σ o k=some r):∃ D,k D=some r/\lA P w0 N o σ D:=by
 unfold m6 at h;split at h
 ·rename_i t x y E I;split at h
  ·rename_i q s i j Y;obtain⟨D,C,J⟩:=ajK (w0:=w0) (N:=N) h
   refine⟨D,C,λa w K Q hR Z=>?_⟩
   obtain⟨ah,ρ,hR⟩:=hR;have U:=hR.aE y;rw[Y]at U;obtain⟨w',aD,L,gf⟩:=J ah ρ a w hR _ _ (hR.aE x) U;have:(execOp a.eval o).run P w = .ok .skip w':=by
    simp only[execOp,E];rw[eC,L];rfl
   unfold Oper.wp;rw[this,Oper.upon_skip,I];exact Z _ _ ⟨aD,ρ,gf⟩
  ·exact Sg T h
 ·rename_i t x lo hi mx d E I;obtain⟨C,J⟩:=ajM (w0:=w0) (N:=N) h;cases O:Nat.blt d N with
  |false=>rw[O]at C;cases C
  | true=>
   rw[O,ak]at C
   refine⟨_,C,.mem I λah ρ a w hR=>?_⟩
   obtain⟨v,L⟩:=J ah ρ a w hR _ _ _ _ (hR.aE x) (hR.aE lo) (hR.aE hi) (hR.aE mx);refine⟨w,ah,ρ,v,?_,hR.set trivial (by have:=cB O;omega)⟩;simp only[execOp,E,gF];exact lK L
 ·exact Sg T h
/-! What an operation gives hangs on its operands and on the roots alone. -/
theorem CL{σ2:S}(C:σ2.m=σ.m)(x:Lf)(k:V->aj X):gJ σ2 x k=gJ σ x k:=by
 cases x<;>simp only[gJ,C]
theorem aj5{σ2:S}(C:σ2.m=σ.m)(t:TypeId)(x:A)(k:A->aj X):iG P σ2 t x k=iG P σ t x k:=by
 simp only[iG,C]
theorem aj6{σ2:S}(C:σ2.m=σ.m)(t:TypeId)(x i:A)(k:A->aj X):om P σ2 t x i k=om P σ t x i k:=by
 simp only[om,C]
theorem YR{σ2:S}(C:σ2.m=σ.m)(q:aa Nat)(s i j:Nat)(k:V->aj X):qT σ2 q s i j k=qT σ q s i j k:=by
 simp only[qT,C]
theorem aj7{σ2:S}(C:σ2.m=σ.m)(x:A)(k:V->aj X):o6 σ2 x k=o6 σ x k:=by
 cases x<;>simp only[o6,CL C,YR C]
theorem aj8{σ2:S}(C:σ2.m=σ.m)(t:TypeId)(x:A)(lo hi:aj A)(k:A->aj X):qi P σ2 t x lo hi k=qi P σ t x lo hi k:=by
 unfold qi;split
 ·simp only[nK,C]
 ·simp only[nK,C]
 ·rfl
theorem aj9{σ2:S}(D:σ2.m=σ.m)(t C:TypeId)(x:A)(k:A->aj X):nJ P σ2 t C x k=nJ P σ t C x k:=by
 unfold nJ;split<;>simp only[CL D]
theorem aka{σ2:S}(C:σ2.m=σ.m)(t:TypeId)(x:A)(k:A->aj X):l9 P σ2 t x k=l9 P σ t x k:=by
 cases x<;>simp only[l9,CL C]
theorem akb{σ2:S}(C:σ2.m=σ.m)(op:BinOp)(t:TypeId)(x y:A)(k:A->aj X):kM P σ2 op t x y k=kM P σ op t x y k:=by
 simp only[kM,CL C]
theorem Li{σ2:S}{op:BinOp}{t:TypeId}{x y:A}{k:A->aj X}(h:∀ l,x = .lf l->∀ (k:V->aj X),gJ σ2 l k=gJ σ l k):kM P σ2 op t x y k=kM P σ op t x y k:=by
 unfold kM;split
 ·rfl
 ·split
  ·exact h _ rfl _
  ·rfl
 ·rfl
theorem akc{σ2:S}(t:TypeId)(parts:aa (Nat×Operand))(h:∀ p∈parts,aE σ2 p.2=aE σ p.2)(k:A->aj X):tu P σ2 t parts k=tu P σ t parts k:=by
 have e:(parts.map λp=>(p.1,aE σ2 p.2))=parts.map λp=>(p.1,aE σ p.2):=ic λp C=>by rw[h p C]
 simp only[tu,e]
theorem Sh{σ2:S}(C:σ2.m=σ.m):∀ (xs:aa Lf) (k:aa V->aj X),mV σ2 xs k=mV σ xs k
 |[],k=>rfl
 | x :: xs,k=>by
  simp only[mV,CL C];congr 1;funext y;exact Sh C xs _
theorem YS{σ2:S}(C:σ2.m=σ.m)(x:A)(k:Pt->aj X):mb σ2 x k=mb σ x k:=by
 unfold mb;simp only[Sh C,YR C,C]
theorem YT{σ2:S}(C:σ2.m=σ.m):∀ (xs:aa Operand) (k:aa Pt->aj X),(∀ x∈xs,aE σ2 x=aE σ x)->jt σ2 xs k=jt σ xs k
 |[],k,_=>rfl
 | x :: xs,k,h=>by
  simp only[jt,YS C,h x (.head _)];congr 1;funext p;exact YT C xs _ (λy D=>h y (.tail _ D))
theorem akd{σ2:S}(C:σ2.m=σ.m)(x:A)(k:Pt->aj X):qX σ2 x k=qX σ x k:=by
 unfold qX;simp only[YS C,Sh C,C]
theorem YU{σ2:S}(C:σ2.m=σ.m):∀ (xs:aa Operand) (k:aa Pt->aj X),(∀ x∈xs,aE σ2 x=aE σ x)->mW σ2 xs k=mW σ xs k
 |[],k,_=>rfl
 | x :: xs,k,h=>by
  simp only[mW,akd C,h x (.head _)];congr 1;funext p;exact YU C xs _ (λy D=>h y (.tail _ D))
theorem CM{σ2:S}(op:Op)(C:σ2.m=σ.m)(h:∀ x∈op.operands,aE σ2 x=aE σ x)(k:A->aj X):cI P σ2 op k=cI P σ op k:=by
 unfold cI;split
 ·rw[h _ (by simp[Op.operands])]
 ·rw[h _ (by simp[Op.operands])]
 next c x y=>rw[h c (by simp[Op.operands]),h x (by simp[Op.operands]),h y (by simp[Op.operands])]
 next t parts=>exact akc t _ (λp E=>h p.2 (by simp only[Op.operands];exact List.mem_toArray.2 (List.mem_map_of_mem (f:=(·.2)) E))) k
 next t x=>rw[h x (by simp[Op.operands]),aj5 C]
 next op t x y yt=>rw[h x (by simp[Op.operands]),h y (by simp[Op.operands]),akb C]
 next op t x=>rw[h x (by simp[Op.operands])]
 next s d x=>rw[h x (by simp[Op.operands]),aj9 C]
 next s x f=>rw[h x (by simp[Op.operands])]
 next s x f=>rw[h x (by simp[Op.operands])]
 next t x i=>rw[h x (by simp[Op.operands]),h i (by simp[Op.operands]),aj6 C]
 next t x i=>rw[h x (by simp[Op.operands]),h i (by simp[Op.operands])]
 next x i=>rw[h x (by simp[Op.operands])]
 next x=>rw[h x (by simp[Op.operands])]
 next x t=>rw[h x (by simp[Op.operands,Call.operands]),aka C]
 next x y t I=>rw[h x (by simp[Op.operands,Call.operands]),h y (by simp[Op.operands,Call.operands])]
 next x y t I=>rw[h x (by simp[Op.operands,Call.operands]),h y (by simp[Op.operands,Call.operands])]
 ·rename_i t x lo hi;have e:∀ z:aj Operand,(∀ y,z=some y->aE σ2 y=aE σ y)->z.map (aE σ2)=z.map (aE σ):=by
   intro z J;cases z with
   |none=>rfl
   |some z=>exact bD some (J z rfl)
  rw[h x (by simp[Op.operands]),e lo (λy D=>h y (by subst D;simp[Op.operands])),e hi (λy D=>h y (by subst D;simp[Op.operands])),aj8 C]
 ·rfl
/-! .. and a root that it does not name is of no account. -/
def Lj(n:Nat)(x:aP)(m:Nat->aj aP):Nat->aj aP:=bL (λr=>bif Nat.beq r n then none else (m r).map (aP.drop n)) n (some x)
theorem YV{n:Nat}{x:aP}{m:Nat->aj aP}{q:Nat}(h:q≠n):Lj n x m q=(m q).map (aP.drop n):=by
 have hb:Nat.beq q n=false:=by
  cases hb:Nat.beq q n with
  |false=>rfl
  |true=>exact absurd (bQ hb) h
 unfold Lj;rw[cu _ _ _ h,hb];rfl
theorem vk{n:Nat}{x:aP}{m:Nat->aj aP}:∀ (q:aa Nat) (k:V->aj X),aY n q=false->fK (Lj n x m) q k=fK m q k
 |[],_,_=>rfl
 | [y],k,h=>by
  have D:y≠n:=by rintro rfl;simp[aY]at h
  simp only[fK,YV D];cases m y with
  |none=>rfl
  |some z=>cases z<;>rfl
 |[_,_],_,_=>rfl
 |[j,i,s],k,h=>rfl
 | j :: i :: s :: C :: q,k,h=>by
  have E:aY n (C::q)=false:=by simpa [aY]using h
  simp only[fK];exact vk (C::q) _ E
theorem ake{n:Nat}{t:TypeId}{cs:aa Lf}{y:A}(h:cx (λX k=>jL (X:=X) P t cs k) y):cx (λX k=>jL (X:=X) P t (cs.map (Lf.drop n)) k) (y.drop n):=by
 have C:=h.at_ (X:=A) (λz=>some z);unfold jL at C;split at C
 ·rename_i I E;split at C
  ·rename_i hl;split at C
   next D=>injection C with C;subst C;intro X k;simp only[jL,E,cZ,bk hl,D];rfl
   ·rename_i D;split at C
    next z=>injection C with C;subst C;intro X k;simp only[ij]at hl;simp only[jL,E,ig,List.map_nil,ij,bk hl,D];rfl
    ·cases C
   ·cases C
  ·cases C
 ·cases C
theorem A.q6{p pb:Nat->Bool}{x:A}{n:Nat}(h:x.jS p pb=true)(C:p n=true)(hb:pb n=true):x.drop n=x:=by
 cases x with
 |lf x=>exact bD A.lf (Lf.lJ h C)
 |agg cs=>exact bD A.agg (gB.lJ h C)
 |ct xs=>exact A.lJ (x:=.ct xs) (p:=p) h C
 |ptr k=>exact A.lJ (x:=.ptr k) (p:=p) h C
 |view k s i j=>exact A.lJ (x:=.view k s i j) (p:=p) h C
 |pk r j=>exact A.lJ (x:=.pk r j) (p:=pb) h hb
 |aH r j=>exact A.lJ (x:=.aH r j) (p:=pb) h hb
 |fn f cap=>exact A.lJ (x:=.fn f cap) (p:=pb) h hb
 |_=>rfl
theorem akf{p pb:Nat->Bool}{r j n:Nat}(h:(A.aH r j).jS p pb=true)(C:pb n=true):r≠n:=by
 rintro rfl;have h:(!pb r)=true:=h;rw[C]at h;cases h
theorem akg{p:Nat->Bool}{r j n:Nat}(h:(A.aH r j).nr p=true)(C:p n=true):r≠n:=by
 rintro rfl;have h:(!p r)=true:=h;rw[C]at h;cases h
theorem akh{p pb:Nat->Bool}{n:Nat}{x:aP}{op:Op}{v:A}(h:cx (λX k=>cI (X:=X) P σ op k) v)(O:p n=true)(Z:pb n=true)(T:∀ y∈op.operands,(aE σ y).jS p pb=true)(hv:v.jS p pb=true):
  cx (λX k=>cI (X:=X) P ((σ.drop n).root n x) op k) v:=by
 have J:∀ y∈op.operands,aE ((σ.drop n).root n x) y=aE σ y:=by
  intro y D;have:=A.q6 (T y D) O Z;cases y with
  |tmp t=>exact this
  |const v=>rfl
  |global g=>rfl
  |func f=>rfl
 have Q:((σ.drop n).root n x).m=Lj n x σ.m:=rfl;have Si:=A.q6 hv O Z;have dR:∀ y∈op.operands,aE ⟨((σ.drop n).root n x).t,σ.m⟩ y=aE σ y:=by
  intro y D;rw[<-J y D];cases y<;>rfl
 -- an operation that does not look at the roots
 have FP:(∀ (X:Type) (k:A->aj X),cI P ⟨((σ.drop n).root n x).t,σ.m⟩ op k=cI P ((σ.drop n).root n x) op k)->cx (λX k=>cI (X:=X) P ((σ.drop n).root n x) op k) v:=by
  intro he X k;exact(he X k).symm.trans ((CM (σ:=σ) (σ2:=⟨((σ.drop n).root n x).t,σ.m⟩) op rfl dR k).trans (h.at_ k))
 have E:=h.at_ (X:=A) (λz=>some z);unfold cI at E;split at E
 case h_5 t y=>
  intro X k;have D:=T y (by simp[Op.operands]);have L:=J y (by simp[Op.operands]);simp only[cI];rw[L];generalize aE σ y=u at E D;have hd:cx (λX k=>iG (X:=X) P σ t u k) v:=by
   obtain⟨y',C,Y⟩:=FD E;injection C with C;subst C;exact Y
  unfold iG at E ⊢;split at E
  ·cases E
  ·rename_i sz fE;split at E
   ·rename_i r' j;split at E
    next cs iQ=>obtain⟨y',C,Y⟩:=vb E;injection C with C;subst C;have U:=ake (n:=n) Y;rw[Si]at U;rw[Q,YV (akf D Z),iQ];simp only[gF,aP.drop];rw[<-List.map_drop,<-List.map_take];exact U.at_ k
    ·cases E
   ·obtain⟨y',C,Y⟩:=vb E;injection C with C;subst C;exact Y.at_ k
   ·rename_i j i s q;have hq:aY n q=false:=by
     have I:dI p (j::i::s::q)=true:=D;have:=qZ I O;cases q with
     | nil=>
      obtain⟨z,_,hg,_⟩:=qy _ _ E;cases hg
     |cons q0 q=>simpa [aY]using this
    rw[Q,vk q _ hq];have U:=hd.at_ k;unfold iG at U;rw[fE]at U;exact U
   ·cases E
 case h_6 op t x y yt=>
  intro X k;have hx:=T x (by simp[Op.operands]);have FQ:=J x (by simp[Op.operands]);have L:=J y (by simp[Op.operands]);have C:=h.at_ k;simp only[cI]at C ⊢;rw[FQ,L,<-C];generalize aE σ x=u at hx
  refine Li λl e k=>?_
  subst e;cases l with
  | own q=>
   have I:dI p q=true:=hx;simp only[gJ];rw[Q,vk q _ (qZ I O)]
  |v z=>rfl
  |dead=>rfl
 case h_11 t y i=>
  intro X k;have D:=T y (by simp[Op.operands]);have L:=J y (by simp[Op.operands]);have FR:=J i (by simp[Op.operands]);have C:=h.at_ k;simp only[cI]at C ⊢;rw[L,FR,<-C];generalize aE σ y=u at D;unfold om;split
  ·rfl
  ·split
   ·split
    ·rfl
    next q=>have I:dI p q=true:=D;rw[Q,vk q _ (qZ I O)]
    ·rfl
   ·rfl
 case h_8 t t2 y=>
  intro X k;have D:=T y (by simp[Op.operands]);have L:=J y (by simp[Op.operands]);have C:=h.at_ k;simp only[cI]at C ⊢;rw[L,<-C];generalize aE σ y=u at D;unfold nJ;split
  ·rfl
  ·rename_i z _;cases z with
   | own q=>
    have I:dI p q=true:=D;simp only[gJ];rw[Q,vk q _ (qZ I O)]
   |v z=>rfl
   |dead=>rfl
  ·rfl
 case h_15 y t=>
  intro X k;have D:=T y (by simp[Op.operands,Call.operands]);have L:=J y (by simp[Op.operands,Call.operands]);have C:=h.at_ k;simp only[cI]at C ⊢;rw[L,<-C];generalize aE σ y=u at D;unfold l9;split
  ·rename_i z;cases z with
   | own q=>
    have I:dI p q=true:=D;simp only[gJ];rw[Q,vk q _ (qZ I O)]
   |v z=>rfl
   |dead=>rfl
  ·rfl
  ·rfl
 case h_18 t y lo hi=>
  intro X k;have D:=T y (by simp[Op.operands]);have L:=J y (by simp[Op.operands]);have e:∀ z:aj Operand,(∀ y,z=some y->aE ((σ.drop n).root n x) y=aE σ y)->z.map (aE ((σ.drop n).root n x))=z.map (aE σ):=by
   intro z hz;cases z with
   |none=>rfl
   |some z=>exact bD some (hz z rfl)
  have C:=h.at_ k;simp only[cI]at C ⊢;rw[L,e lo (λy D=>J y (by subst D;simp[Op.operands])),e hi (λy D=>J y (by subst D;simp[Op.operands])),<-C];generalize aE σ y=u at D;unfold qi;split
  ·rename_i q;have I:dI p q=true:=D;unfold nK;split
   ·split
    ·rw[Q,vk q _ (qZ I O)]
    ·rfl
   ·rfl
  ·rename_i q s j;have I:dI p q=true:=D;unfold nK;split
   ·split
    ·rw[Q,vk q _ (qZ I O)]
    ·rfl
   ·rfl
  ·rfl
 case h_19=>cases E
 all_goals exact FP λX k=>rfl
/-! .. nor are roots that a call writes. -/
def Lk(ns:aa Nat)(nr:aa (Nat×aP))(m:Nat->aj aP):Nat->aj aP:=λr=>match nr.lookup r with
 |some x=>some x
 |none=>bif bV r ns ||bV r []then none else (m r).map (aP.bz ns [])
structure FT (p:Nat->Bool) (ns:List Nat) (nr:List (Nat×aP)):Prop where
 ns:∀n,bV n ns=true->p n=true
 nr:∀n x,nr.lookup n=some x->p n=true
theorem YW{p:Nat->Bool}{ns:aa Nat}{nr:aa (Nat×aP)}{m:Nat->aj aP}(hb:FT p ns nr){q:Nat}(h:p q=false):Lk ns nr m q=(m q).map (aP.bz ns []):=by
 unfold Lk;cases C:nr.lookup q with
 |some x=>rw[hb.nr q x C]at h;cases h
 | none=>
  cases D:bV q ns with
  |true=>rw[hb.ns q D]at h;cases h
  |false=>rfl
theorem Sj{p:Nat->Bool}{ns k:aa Nat}(h:dI p k=true)(hb:∀ n,bV n ns=true->p n=true):cy k ns=false:=by
 unfold dI at h;unfold cy;cases C:k.getLast? with
 |none=>rfl
 | some r=>
  rw[C]at h;have h:(!p r)=true:=h;show bV r ns=false;cases D:bV r ns with
  |false=>rfl
  |true=>rw[hb r D]at h;cases h
theorem Sk(k:aa Nat):cy k []=false:=by
 unfold cy;split<;>rfl
theorem Lf.sv{p:Nat->Bool}{x:Lf}{ns:aa Nat}(h:x.nr p=true)(hb:∀ n,bV n ns=true->p n=true):x.bz ns []=x:=by
 cases x with
 | own k=>
  have e:Lf.bz ns [] (.own k)=(bif cy k [] ||(cy k ns && !(Nat.beq k.length 1))then .dead else .own k):=rfl;rw[e,Sj h hb,Sk];rfl
 |v x=>rfl
 |dead=>rfl
theorem gB.sv{p:Nat->Bool}{xs:aa Lf}{ns:aa Nat}(h:xs.all (Lf.nr p)=true)(hb:∀ n,bV n ns=true->p n=true):xs.map (Lf.bz ns [])=xs:=by
 conv=>rhs;rw[<-List.map_id xs]
 exact ic λx C=>Lf.sv (cv.1 h x C) hb
theorem A.sv{p:Nat->Bool}{x:A}{ns:aa Nat}(h:x.nr p=true)(hb:∀ n,bV n ns=true->p n=true):x.bz ns []=x:=by
 cases x with
 |lf x=>exact bD A.lf (Lf.sv h hb)
 |agg cs=>exact bD A.agg (gB.sv h hb)
 | ct xs=>
  refine bD A.ct ?_
  conv=>rhs;rw[<-List.map_id xs]
  refine ic λq C=>?_
  have:=gB.sv (cv.1 h q C) hb;simp only[id];rw[this]
 | ptr k=>
  have e:A.bz ns [] (.ptr k)=(bif cy k [] ||cy k ns then .undef else .ptr k):=rfl;rw[e,Sj h hb,Sk];rfl
 | view k s i j=>
  have e:A.bz ns [] (.view k s i j)=(bif cy k [] ||cy k ns then .undef else .view k s i j):=rfl;rw[e,Sj h hb,Sk];rfl
 |pk r j=>rfl
 |aH r j=>rfl
 | fn f cap=>
  have e:A.bz ns [] (.fn f cap)=(bif cap.any (λp=>bV p.1 [])then .undef else .fn f cap):=rfl;have:cap.any (λp=>bV p.1 [])=false:=by
   rw[iW];intro q C hb;cases hb
  rw[e,this];rfl
 |_=>rfl
theorem A.CN{p pb:Nat->Bool}{x:A}{ns:aa Nat}(h:x.jS p pb=true)(hb:∀ n,bV n ns=true->p n=true):x.bz ns []=x:=by
 cases x with
 |lf x=>exact A.sv (x:=.lf x) (p:=p) h hb
 |agg cs=>exact A.sv (x:=.agg cs) (p:=p) h hb
 |ct xs=>exact A.sv (x:=.ct xs) (p:=p) h hb
 |ptr k=>exact A.sv (x:=.ptr k) (p:=p) h hb
 |view k s i j=>exact A.sv (x:=.view k s i j) (p:=p) h hb
 |pk r j=>rfl
 |aH r j=>rfl
 | fn f cap=>
  have e:A.bz ns [] (.fn f cap)=(bif cap.any (λp=>bV p.1 [])then .undef else .fn f cap):=rfl;have:cap.any (λp=>bV p.1 [])=false:=by
   rw[iW];intro q C hb;cases hb
  rw[e,this];rfl
 |_=>rfl
theorem xT{p:Nat->Bool}{ns:aa Nat}{nr:aa (Nat×aP)}{m:Nat->aj aP}(hb:FT p ns nr):∀ (q:aa Nat) (k:V->aj X),dI p q=true->fK (Lk ns nr m) q k=fK m q k
 |[],_,_=>rfl
 | [y],k,h=>by
  have D:p y=false:=by simpa [dI]using h
  simp only[fK,YW hb D];cases m y with
  |none=>rfl
  |some z=>cases z<;>rfl
 |[_,_],_,_=>rfl
 |[j,i,s],k,h=>rfl
 | j :: i :: s :: C :: q,k,h=>by
  have E:dI p (C::q)=true:=by simpa [dI,List.getLast?_cons_cons]using h
  simp only[fK];exact xT hb (C::q) _ E
theorem aki{ns:aa Nat}{t:TypeId}{cs:aa Lf}{y:A}(h:cx (λX k=>jL (X:=X) P t cs k) y):cx (λX k=>jL (X:=X) P t (cs.map (Lf.bz ns [])) k) (y.bz ns []):=by
 have C:=h.at_ (X:=A) (λz=>some z);unfold jL at C;split at C
 ·rename_i I E;split at C
  ·rename_i hl;split at C
   next D=>injection C with C;subst C;intro X k;simp only[jL,E,cZ,bk hl,D];rfl
   ·rename_i D;split at C
    next z=>injection C with C;subst C;intro X k;simp only[ij]at hl;simp only[jL,E,ig,List.map_nil,ij,bk hl,D];rfl
    ·cases C
   ·cases C
  ·cases C
 ·cases C
theorem akj{p pb:Nat->Bool}{ns:aa Nat}{nr:aa (Nat×aP)}{op:Op}{v:A}(h:cx (λX k=>cI (X:=X) P σ op k) v)(hb:FT p ns nr)(Q:∀ y∈op.operands,(aE σ y).jS p pb=true)(hv:v.jS p pb=true)(Y:∀ t y r j,op = .load t y->aE σ y = .aH r j->p r=false):
  cx (λX k=>cI (X:=X) P (σ.bz ns [] nr) op k) v:=by
 have J:∀ y∈op.operands,aE (σ.bz ns [] nr) y=aE σ y:=by
  intro y D;have:=A.CN (Q y D) hb.ns;cases y with
  |tmp t=>exact this
  |const v=>rfl
  |global g=>rfl
  |func f=>rfl
 have O:(σ.bz ns [] nr).m=Lk ns nr σ.m:=rfl;have Si:=A.CN hv hb.ns;have dR:∀ y∈op.operands,aE ⟨(σ.bz ns [] nr).t,σ.m⟩ y=aE σ y:=by
  intro y D;rw[<-J y D];cases y<;>rfl
 have FP:(∀ (X:Type) (k:A->aj X),cI P ⟨(σ.bz ns [] nr).t,σ.m⟩ op k=cI P (σ.bz ns [] nr) op k)->cx (λX k=>cI (X:=X) P (σ.bz ns [] nr) op k) v:=by
  intro he X k;exact(he X k).symm.trans ((CM (σ:=σ) (σ2:=⟨(σ.bz ns [] nr).t,σ.m⟩) op rfl dR k).trans (h.at_ k))
 have E:=h.at_ (X:=A) (λz=>some z);unfold cI at E;split at E
 case h_5 t y=>
  intro X k;have D:=Q y (by simp[Op.operands]);have L:=J y (by simp[Op.operands]);simp only[cI];rw[L];have Y:=λr j e=>Y t y r j rfl e
  generalize aE σ y=u at E D Y;have hd:cx (λX k=>iG (X:=X) P σ t u k) v:=by
   obtain⟨Z,C,U⟩:=FD E;injection C with C;subst C;exact U
  unfold iG at E ⊢;split at E
  ·cases E
  ·rename_i sz fE;split at E
   ·rename_i r' j;split at E
    next cs iQ=>obtain⟨Z,C,U⟩:=vb E;injection C with C;subst C;have T:=aki (ns:=ns) U;rw[Si]at T;have hp:p r'=false:=Y r' _ rfl;rw[O,YW hb hp,iQ];simp only[gF,aP.bz];rw[<-List.map_drop,<-List.map_take];exact T.at_ k
    ·cases E
   ·obtain⟨Z,C,U⟩:=vb E;injection C with C;subst C;exact U.at_ k
   ·rename_i j i s q;have hq:dI p q=true:=by
     have I:dI p (j::i::s::q)=true:=D;cases q with
     | nil=>
      obtain⟨z,_,hg,_⟩:=qy _ _ E;cases hg
     |cons q0 q=>simpa [dI,List.getLast?_cons_cons]using I
    rw[O,xT hb q _ hq];have T:=hd.at_ k;unfold iG at T;rw[fE]at T;exact T
   ·cases E
 case h_6 op t x y yt=>
  intro X k;have hx:=Q x (by simp[Op.operands]);have FQ:=J x (by simp[Op.operands]);have L:=J y (by simp[Op.operands]);have C:=h.at_ k;simp only[cI]at C ⊢;rw[FQ,L,<-C];generalize aE σ x=u at hx
  refine Li λl e k=>?_
  subst e;cases l with
  | own q=>
   have I:dI p q=true:=hx;simp only[gJ];rw[O,xT hb q _ I]
  |v z=>rfl
  |dead=>rfl
 case h_11 t y i=>
  intro X k;have D:=Q y (by simp[Op.operands]);have L:=J y (by simp[Op.operands]);have FR:=J i (by simp[Op.operands]);have C:=h.at_ k;simp only[cI]at C ⊢;rw[L,FR,<-C];generalize aE σ y=u at D;unfold om;split
  ·rfl
  ·split
   ·split
    ·rfl
    next q=>have I:dI p q=true:=D;rw[O,xT hb q _ I]
    ·rfl
   ·rfl
 case h_8 t t2 y=>
  intro X k;have D:=Q y (by simp[Op.operands]);have L:=J y (by simp[Op.operands]);have C:=h.at_ k;simp only[cI]at C ⊢;rw[L,<-C];generalize aE σ y=u at D;unfold nJ;split
  ·rfl
  ·rename_i z _;cases z with
   | own q=>
    have I:dI p q=true:=D;simp only[gJ];rw[O,xT hb q _ I]
   |v z=>rfl
   |dead=>rfl
  ·rfl
 case h_15 y t=>
  intro X k;have D:=Q y (by simp[Op.operands,Call.operands]);have L:=J y (by simp[Op.operands,Call.operands]);have C:=h.at_ k;simp only[cI]at C ⊢;rw[L,<-C];generalize aE σ y=u at D;unfold l9;split
  ·rename_i z;cases z with
   | own q=>
    have I:dI p q=true:=D;simp only[gJ];rw[O,xT hb q _ I]
   |v z=>rfl
   |dead=>rfl
  ·rfl
  ·rfl
 case h_18 t y lo hi=>
  intro X k;have D:=Q y (by simp[Op.operands]);have L:=J y (by simp[Op.operands]);have e:∀ z:aj Operand,(∀ y,z=some y->aE (σ.bz ns [] nr) y=aE σ y)->z.map (aE (σ.bz ns [] nr))=z.map (aE σ):=by
   intro z hz;cases z with
   |none=>rfl
   |some z=>exact bD some (hz z rfl)
  have C:=h.at_ k;simp only[cI]at C ⊢;rw[L,e lo (λy D=>J y (by subst D;simp[Op.operands])),e hi (λy D=>J y (by subst D;simp[Op.operands])),<-C];generalize aE σ y=u at D;unfold qi;split
  ·rename_i q;have I:dI p q=true:=D;unfold nK;split
   ·split
    ·rw[O,xT hb q _ I]
    ·rfl
   ·rfl
  ·rename_i q s j;have I:dI p q=true:=D;unfold nK;split
   ·split
    ·rw[O,xT hb q _ I]
    ·rfl
   ·rfl
  ·rfl
 case h_19=>cases E
 all_goals exact FP λX k=>rfl
/-! .. nor is a root that is written. -/
theorem tP{p:Nat->Bool}{n:Nat}{x:aP}{m:Nat->aj aP}(C:p n=true):∀ (q:aa Nat) (k:V->aj X),dI p q=true->fK (bL m n (some x)) q k=fK m q k
 |[],_,_=>rfl
 | [y],k,h=>by
  have D:p y=false:=by simpa [dI]using h
  simp only[fK];rw[cu _ _ _ (by rintro rfl;rw[C]at D;cases D)]
 |[_,_],_,_=>rfl
 |[j,i,s],k,h=>rfl
 | j :: i :: s :: E :: q,k,h=>by
  have I:dI p (E::q)=true:=by simpa [dI,List.getLast?_cons_cons]using h
  simp only[fK];exact tP C (E::q) _ I
theorem akk{p pb:Nat->Bool}{n:Nat}{x:aP}{op:Op}{v:A}(h:cx (λX k=>cI (X:=X) P σ op k) v)(O:p n=true)(T:∀ y∈op.operands,(aE σ y).jS p pb=true)(hv:v.jS p pb=true)(Y:∀ t y r j,op = .load t y->aE σ y = .aH r j->p r=false):
  cx (λX k=>cI (X:=X) P (σ.root n x) op k) v:=by
 have J:∀ y∈op.operands,aE (σ.root n x) y=aE σ y:=by
  intro y D;cases y<;>rfl
 have Q:(σ.root n x).m=bL σ.m n (some x):=rfl;have dR:∀ y∈op.operands,aE ⟨(σ.root n x).t,σ.m⟩ y=aE σ y:=by
  intro y D;rw[<-J y D];cases y<;>rfl
 have FP:(∀ (X:Type) (k:A->aj X),cI P ⟨(σ.root n x).t,σ.m⟩ op k=cI P (σ.root n x) op k)->cx (λX k=>cI (X:=X) P (σ.root n x) op k) v:=by
  intro he X k;exact(he X k).symm.trans ((CM (σ:=σ) (σ2:=⟨(σ.root n x).t,σ.m⟩) op rfl dR k).trans (h.at_ k))
 have E:=h.at_ (X:=A) (λz=>some z);unfold cI at E;split at E
 case h_5 t y=>
  intro X k;have D:=T y (by simp[Op.operands]);have L:=J y (by simp[Op.operands]);simp only[cI];rw[L];have Y:=λr j e=>Y t y r j rfl e
  generalize aE σ y=u at E D Y;have hd:cx (λX k=>iG (X:=X) P σ t u k) v:=by
   obtain⟨y',C,U⟩:=FD E;injection C with C;subst C;exact U
  unfold iG at E ⊢;split at E
  ·cases E
  ·rename_i sz fE;split at E
   ·rename_i r' j;split at E
    next cs iQ=>obtain⟨y',C,U⟩:=vb E;injection C with C;subst C;have hp:p r'=false:=Y r' _ rfl;rw[Q,cu _ _ _ (by rintro rfl;rw[O]at hp;cases hp),iQ];exact U.at_ k
    ·cases E
   ·obtain⟨y',C,U⟩:=vb E;injection C with C;subst C;exact U.at_ k
   ·rename_i j i s q;have hq:dI p q=true:=by
     have I:dI p (j::i::s::q)=true:=D;cases q with
     | nil=>
      obtain⟨z,_,hg,_⟩:=qy _ _ E;cases hg
     |cons q0 q=>simpa [dI,List.getLast?_cons_cons]using I
    rw[Q,tP O q _ hq];have Z:=hd.at_ k;unfold iG at Z;rw[fE]at Z;exact Z
   ·cases E
 case h_6 op t x y yt=>
  intro X k;have hx:=T x (by simp[Op.operands]);have FQ:=J x (by simp[Op.operands]);have L:=J y (by simp[Op.operands]);have C:=h.at_ k;simp only[cI]at C ⊢;rw[FQ,L,<-C];generalize aE σ x=u at hx
  refine Li λl e k=>?_
  subst e;cases l with
  | own q=>
   have I:dI p q=true:=hx;simp only[gJ];rw[Q,tP O q _ I]
  |v z=>rfl
  |dead=>rfl
 case h_11 t y i=>
  intro X k;have D:=T y (by simp[Op.operands]);have L:=J y (by simp[Op.operands]);have FR:=J i (by simp[Op.operands]);have C:=h.at_ k;simp only[cI]at C ⊢;rw[L,FR,<-C];generalize aE σ y=u at D;unfold om;split
  ·rfl
  ·split
   ·split
    ·rfl
    next q=>have I:dI p q=true:=D;rw[Q,tP O q _ I]
    ·rfl
   ·rfl
 case h_8 t t2 y=>
  intro X k;have D:=T y (by simp[Op.operands]);have L:=J y (by simp[Op.operands]);have C:=h.at_ k;simp only[cI]at C ⊢;rw[L,<-C];generalize aE σ y=u at D;unfold nJ;split
  ·rfl
  ·rename_i z _;cases z with
   | own q=>
    have I:dI p q=true:=D;simp only[gJ];rw[Q,tP O q _ I]
   |v z=>rfl
   |dead=>rfl
  ·rfl
 case h_15 y t=>
  intro X k;have D:=T y (by simp[Op.operands,Call.operands]);have L:=J y (by simp[Op.operands,Call.operands]);have C:=h.at_ k;simp only[cI]at C ⊢;rw[L,<-C];generalize aE σ y=u at D;unfold l9;split
  ·rename_i z;cases z with
   | own q=>
    have I:dI p q=true:=D;simp only[gJ];rw[Q,tP O q _ I]
   |v z=>rfl
   |dead=>rfl
  ·rfl
  ·rfl
 case h_18 t y lo hi=>
  intro X k;have D:=T y (by simp[Op.operands]);have L:=J y (by simp[Op.operands]);have e:∀ z:aj Operand,(∀ y,z=some y->aE (σ.root n x) y=aE σ y)->z.map (aE (σ.root n x))=z.map (aE σ):=by
   intro z hz;cases z with
   |none=>rfl
   |some z=>exact bD some (hz z rfl)
  have C:=h.at_ k;simp only[cI]at C ⊢;rw[L,e lo (λy D=>J y (by subst D;simp[Op.operands])),e hi (λy D=>J y (by subst D;simp[Op.operands])),<-C];generalize aE σ y=u at D;unfold qi;split
  ·rename_i q;have I:dI p q=true:=D;unfold nK;split
   ·split
    ·rw[Q,tP O q _ I]
    ·rfl
   ·rfl
  ·rename_i q s j;have I:dI p q=true:=D;unfold nK;split
   ·split
    ·rw[Q,tP O q _ I]
    ·rfl
   ·rfl
  ·rfl
 case h_19=>cases E
 all_goals exact FP λX k=>rfl
end
def fB(σ:S):aj Tmp->A->S
 |none,_=>σ
 |some d,v=>σ.set d v
inductive gD (p pb:Nat->Bool):S->S->Prop
 |refl (σ:S):gD p pb σ σ
 |root {σ dG:S} (n:Nat) (x:aP):p n=true->pb n=true->gD p pb σ dG->gD p pb σ ((dG.drop n).root n x)
 |bz {σ dG:S} (ns:List Nat) (nr:List (Nat×aP)):FT p ns nr->gD p pb σ dG->gD p pb σ (dG.bz ns [] nr)
 |rt {σ dG:S} (n:Nat) (x:aP):p n=true->gD p pb σ dG->gD p pb σ (dG.root n x)
section
variable {P:Program} {w w':World} {w0:Wd} {B N:Nat} {ah aD:bA} {ρ ρ':Nat->Loc} {σ:S} {a:Act} {X:Type} {d:Nat} {r:X} {o:Oper} {Φ:dJ} {p pb:Nat->Bool} {e:Nat} {x:aP} {u:A}
theorem jf{C:aj Tmp}{x:A}{k:S->aj X}(h:gI N σ C x k=some r):k (fB σ C x)=some r/\∀ (σ2:S),cx (λX k=>gI (X:=X) N σ2 C x k) (fB σ2 C x):=by
 unfold gI at h;split at h
 ·exact⟨h,λ_ X k=>rfl⟩
 ·rename_i d;cases D:Nat.blt d N with
  |false=>rw[D]at h;cases h
  |true=>rw[D]at h;exact⟨h,λ_ X k=>by simp only[gI,D,ak];rfl⟩
theorem YX[Inhabited Wd]{f:Nat}{C:aj Tmp}{c:sr}{xs:aa A}{k:S->aj X}(E:su P f c)(h:zZ N σ C c xs k=some r):∃ D,k D=some r/\cx (λX k=>zZ (X:=X) N σ C c xs k) D:=by
 unfold zZ at h;obtain⟨I,y,J,L,_⟩:=E _ _ _ _ _ _ h;obtain⟨O,Q⟩:=jf J;exact⟨_,O,λX k=>(L X _).trans ((Q I).at_ k)⟩
theorem gD.t{σ D:S}(h:gD p pb σ D){g:Nat}(E:(σ.t g).jS p pb=true):D.t g=σ.t g:=by
 induction h with
 |refl=>rfl
 | root n x I hb _ C=>
  show (A.drop n _)=_;rw[C];exact A.q6 E I hb
 | bz ns nr hb _ C=>
  show (A.bz ns [] _)=_;rw[C];exact A.CN E hb.ns
 |rt n x I _ C=>exact C
theorem gD.bp{σ C:S}(h:gD p pb σ C){t r j:Nat}(D:σ.t t = .aH r j)(E:pb r=false):C.t t = .aH r j:=by
 rw[<-D];refine h.t ?_;rw[D];show (!pb r)=true;rw[E];rfl
def hD(p:Nat->Bool):A->Prop
 |.aH r _=>p r=true
 |.ptr _=>False
 |_=>True
theorem hD.drop{x:A}(h:hD p x)(n:Nat):hD p (x.drop n):=by
 cases x with
 | aH r j=>
  have e:A.drop n (.aH r j)=(bif Nat.beq r n then .undef else .aH r j):=rfl;rw[e];cases Nat.beq r n with
  |true=>trivial
  |false=>exact h
 |ptr k=>exact h.elim
 | view k s i j=>
  have e:A.drop n (.view k s i j)=(bif aY n k then .undef else .view k s i j):=rfl;rw[e];cases aY n k<;>trivial
 | pk r j=>
  have e:A.drop n (.pk r j)=(bif Nat.beq r n then .undef else .pk r j):=rfl;rw[e];cases Nat.beq r n<;>trivial
 | fn f cap=>
  have e:A.drop n (.fn f cap)=(bif cap.any (λp=>Nat.beq p.1 n)then .undef else .fn f cap):=rfl;rw[e];cases (cap.any λp=>Nat.beq p.1 n)<;>trivial
 |_=>trivial
theorem hD.bz{x:A}(h:hD p x)(ns cn:aa Nat):hD p (x.bz ns cn):=by
 cases x with
 | aH r j=>
  have e:A.bz ns cn (.aH r j)=(bif bV r cn then .undef else .aH r j):=rfl;rw[e];cases bV r cn with
  |true=>trivial
  |false=>exact h
 |ptr k=>exact h.elim
 | view k s i j=>
  have e:A.bz ns cn (.view k s i j)=(bif cy k cn ||cy k ns then .undef else .view k s i j):=rfl;rw[e];cases (cy k cn ||cy k ns)<;>trivial
 | pk r j=>
  have e:A.bz ns cn (.pk r j)=(bif bV r cn then .undef else .pk r j):=rfl;rw[e];cases bV r cn<;>trivial
 | fn f cap=>
  have e:A.bz ns cn (.fn f cap)=(bif cap.any (λp=>bV p.1 cn)then .undef else .fn f cap):=rfl;rw[e];cases (cap.any λp=>bV p.1 cn)<;>trivial
 |_=>trivial
theorem gD.st{D:Nat->Bool}{σ E:S}(h:gD p pb σ E){t:Nat}(I:hD D (σ.t t)):hD D (E.t t):=by
 induction h with
 |refl=>exact I
 |root n x J hb _ C=>exact C.drop n
 |bz ns nr hb _ C=>exact C.bz ns []
 |rt n x J _ C=>exact C
theorem gD.pF{σ C:S}(h:gD p pb σ C){x:Operand}(D:(aE σ x).jS p pb=true):aE C x=aE σ x:=by
 cases x with
 |tmp t=>exact h.t D
 |const v=>rfl
 |global g=>rfl
 |func f=>rfl
theorem gD.val{σ I:S}(h:gD p pb σ I){op:Op}{v:A}(Q:cx (λX k=>cI (X:=X) P σ op k) v)(E:∀ y∈op.operands,(aE σ y).jS p pb=true)(L:v.jS p pb=true)(T:∀ t y r j,op = .load t y->aE σ y = .aH r j->p r=false):cx (λX k=>cI (X:=X) P I op k) v:=by
 have hl:∀ {I:S},gD p pb σ I->∀ t y r j,op = .load t y->aE I y = .aH r j->p r=false:=by
  intro I C t y r j e h;refine T t y r j e ?_;rw[<-C.pF (E y (by rw[e];simp[Op.operands]))];exact h
 induction h with
 |refl=>exact Q
 | root n x O hb C J=>
  exact akh J O hb (λy D=>by rw[C.pF (E y D)];exact E y D) L
 | bz ns nr hb C J=>
  exact akj J hb (λy D=>by rw[C.pF (E y D)];exact E y D) L (hl C)
 | rt n x O C J=>
  exact akk J O (λy D=>by rw[C.pF (E y D)];exact E y D) L (hl C)
theorem gD.trans{σ E I:S}(h:gD p pb σ E)(J:gD p pb E I):gD p pb σ I:=by
 induction J with
 |refl=>exact h
 |root n x D hb _ C=>exact .root n x D hb C
 |bz ns nr hb _ C=>exact .bz ns nr hb C
 |rt n x D _ C=>exact .rt n x D C
theorem vm:∀ (xs:aa V) (c:Nat) (σ:S),(∀ n,c<=n->p n=true/\pb n=true)->gD p pb σ (fO c σ xs)
 |[],c,σ,h=>.refl σ
 | x :: xs,c,σ,h=>by
  simp only[fO];cases D:x.aA with
  |true=>exact vm xs (c+1) σ (λn C=>h n (by omega))
  |false=>exact .trans (.root c (.sl x) (h c (dV _)).1 (h c (dV _)).2 (.refl σ)) (vm xs (c+1) _ (λn C=>h n (by omega)))
theorem Ae:∀ (ps:aa Pt) (c:Nat) (σ:S),(∀ n,c<=n->p n=true/\pb n=true)->gD p pb σ (iK c σ ps)
 |[],c,σ,h=>.refl σ
 |q::ps,c,σ,h=>(vm q.2 c σ h).trans (Ae ps _ _ (λn C=>h n (by omega)))
theorem vn{σ2:S}{ops:Array Oper}(h:∀ g b t,o.guard=some (g,b)->(ops[g]?).bind (·.dst)=some t->σ2.t t=σ.t t):e9 σ2 ops o=e9 σ ops o:=by
 unfold e9;split
 ·rfl
 ·rename_i g b C;split
  next t D=>rw[h g b t C D]
  ·rfl
def lM(p pb:Nat->Bool)(x:A):Prop:=∀r,x = .lf (.own [r])->p r=true/\pb r=true
theorem lM.drop{p pb:Nat->Bool}{x:A}(h:lM p pb x)(n:Nat):lM p pb (x.drop n):=by
 intro r C;refine h r ?_;cases x with
 | lf l=>
  cases l with
  | own k=>
   have e:A.drop n (.lf (.own k)) = .lf (bif aY n k then .dead else .own k):=rfl;rw[e]at C;cases hb:aY n k with
   |true=>rw[hb]at C;cases C
   |false=>rw[hb]at C;exact C
  |v z=>cases C
  |dead=>cases C
 | aH q j=>
  have e:A.drop n (.aH q j)=(bif Nat.beq q n then .undef else .aH q j):=rfl;rw[e]at C;cases hb:Nat.beq q n<;>rw[hb]at C<;>cases C
 | ptr k=>
  have e:A.drop n (.ptr k)=(bif aY n k then .undef else .ptr k):=rfl;rw[e]at C;cases hb:aY n k<;>rw[hb]at C<;>cases C
 | view k s i j=>
  have e:A.drop n (.view k s i j)=(bif aY n k then .undef else .view k s i j):=rfl;rw[e]at C;cases hb:aY n k<;>rw[hb]at C<;>cases C
 | pk q j=>
  have e:A.drop n (.pk q j)=(bif Nat.beq q n then .undef else .pk q j):=rfl;rw[e]at C;cases hb:Nat.beq q n<;>rw[hb]at C<;>cases C
 | fn f cap=>
  have e:A.drop n (.fn f cap)=(bif cap.any (λp=>Nat.beq p.1 n)then .undef else .fn f cap):=rfl;rw[e]at C;cases hb:(cap.any λp=>Nat.beq p.1 n)<;>rw[hb]at C<;>cases C
 |_=>cases C
theorem lM.bz{p pb:Nat->Bool}{x:A}(h:lM p pb x)(ns cn:aa Nat):lM p pb (x.bz ns cn):=by
 intro r C;refine h r ?_;cases x with
 | lf l=>
  have e:A.bz ns cn (.lf l) = .lf (l.bz ns cn):=rfl;rw[e]at C;injection C with C;unfold Lf.bz at C;split at C
  next k=>cases hb:(cy k cn ||(cy k ns && !Nat.beq k.length 1))<;>simp_all
  ·rw[C]
 | aH q j=>
  have e:A.bz ns cn (.aH q j)=(bif bV q cn then .undef else .aH q j):=rfl;rw[e]at C;cases hb:bV q cn<;>rw[hb]at C<;>cases C
 | ptr k=>
  unfold A.bz at C;simp only at C;exfalso;revert C;cases (cy k cn ||cy k ns)<;>simp
 | view k s i j=>
  have e:A.bz ns cn (.view k s i j)=(bif cy k cn ||cy k ns then .undef else .view k s i j):=rfl;rw[e]at C;cases hb:(cy k cn ||cy k ns)<;>rw[hb]at C<;>cases C
 | pk q j=>
  have e:A.bz ns cn (.pk q j)=(bif bV q cn then .undef else .pk q j):=rfl;rw[e]at C;cases hb:bV q cn<;>rw[hb]at C<;>cases C
 | fn f cap=>
  have e:A.bz ns cn (.fn f cap)=(bif cap.any (λp=>bV p.1 cn)then .undef else .fn f cap):=rfl;rw[e]at C;cases hb:(cap.any λp=>bV p.1 cn)<;>rw[hb]at C<;>cases C
 |_=>cases C
theorem gD.tg{D E:Nat->Bool}{σ I:S}(h:gD p pb σ I){t:Nat}(J:lM D E (σ.t t)):lM D E (I.t t):=by
 induction h with
 |refl=>exact J
 |root n x L hb _ C=>exact C.drop n
 |bz ns nr hb _ C=>exact C.bz ns []
 |rt n x L _ C=>exact C
structure q7 (P:Program) (N:Nat) (Φ:dJ) (o:Oper) (p pb:Nat->Bool) (qx τ:S) where
 G:S->S
 u:A
 eq:τ=fB (G qx) o.dst u
 run:∀σ2:S,(∀x∈o.op.operands,aE σ2 x=aE qx x)->σ2.m=qx.m->cR P N Φ σ2 o some=some (fB (G σ2) o.dst u)
 grow:∀σ,gD p pb σ (G σ)
 set:∀(σ:S) d v,(A.jS p pb v)=true->G (σ.set d v)=(G σ).set d v
 bp:isApp o=false->∀(σ:S) t r j,σ.t t = .aH r j->dK o r=false->(G σ).t t = .aH r j
theorem q7.new{E:S}{d:Nat}(I:o.dst=some d)(C:p d=true/\pb d=true)(L:dK o d=true)(x:aP)(u:A){J:S}(e:J=((E.drop d).root d x).set d u)
  (D:∀σ2:S,(∀x∈o.op.operands,aE σ2 x=aE E x)->cR P N Φ σ2 o some=some (((σ2.drop d).root d x).set d u)):Nonempty (q7 P N Φ o p pb E J):=
 ⟨{ G:=λσ=>(σ.drop d).root d x,u:=u,eq:=by rw[I];exact e,run:=λσ2 h _=>by rw[D σ2 h,I];rfl,grow:=λσ=>.root d x C.1 C.2 (.refl σ),
    set:=λσ e v O=>by rw[S.drop_set d (A.q6 O C.1 C.2)];rfl
    bp:=λ_ σ t r j Q D=>by
     show A.drop d (σ.t t)=_;rw[Q];have:Nat.beq r d=false:=by
      cases hb:Nat.beq r d with
      |false=>rfl
      |true=>rw[bQ hb,L]at D;cases D
     simp only[A.drop,this,aq] }⟩
theorem akl[Inhabited Wd](fo:fm P Φ){τ:S}(E:Lb Φ o.op=true)(hp:∀ n,dK o n=true->p n=true/\pb n=true)(h:cR P N Φ σ o some=some τ):Nonempty (q7 P N Φ o p pb σ τ):=by
 have h0:=h;unfold cR at h;cases U:fk o.op with
 | true=>
  rw[U,ak]at h;obtain⟨v,D,J,_⟩:=CK (w0:=default) (N:=N) h;obtain⟨O,h3⟩:=jf D;injection O with O
  refine⟨{ G:=λσ=>σ,u:=v,eq:=O.symm,run:=λσ2 C Y=>?_,grow:=.refl,set:=λ_ _ _ _=>rfl,bp:=λ_ _ _ _ _ h _=>h }⟩
  unfold cR;rw[U,ak,CM o.op Y C];refine(J.at_ _).trans ?_;exact(h3 σ2).at_ _
 | false=>
  rw[U,aq]at h;have dB:∀σ2,cR P N Φ σ2 o some=gC P N Φ σ2 o some:=λσ2=>by unfold cR;rw[U,aq]
  unfold gC at h dB;unfold Lb at E;rw[U,Bool.false_or]at E;split at h
  ·rename_i e C;obtain⟨d,J,h⟩:=fT h;obtain⟨x,y,D,_,O⟩:=Yq h;injection D with D;have L:dK o d=true:=by unfold dK;rw[J,C];exact Nat.beq_refl d
   refine q7.new J (hp d L) L x y D.symm λσ2 _=>?_
   rw[dB,C];simp only[ef,J];exact(O σ2).at_ _
  ·rename_i e x C;obtain⟨d,J,h⟩:=fT h;obtain⟨y,u,D,O⟩:=Yv h;injection D with D;have L:dK o d=true:=by unfold dK;rw[J,C];exact Nat.beq_refl d
   refine q7.new J (hp d L) L _ _ D.symm λσ2 Q=>?_
   rw[dB,C];simp only[ef,J];rw[Q x (by rw[C];simp[Op.operands])];exact(O σ2).at_ _
  ·rename_i t len parts C;obtain⟨d,J,h⟩:=fT h;have L:dK o d=true:=by unfold dK;rw[J,C];exact Nat.beq_refl d
   cases I:nP t with
   | true=>
    rw[I,ak]at h;obtain⟨y,u,D,O⟩:=Yy h;injection D with D
    refine q7.new J (hp d L) L _ _ D.symm λσ2 Q=>?_
    rw[dB,C];simp only[ef,J,I,ak]
    refine(O σ2 λq hq=>Q _ ?_).at_ _
    rw[C];simp only[Op.operands];exact List.mem_toArray.2 (List.mem_map_of_mem (f:=(·.2)) hq)
   | false=>
    rw[I,aq]at h;obtain⟨y,D,O⟩:=RN h;injection D with D
    refine q7.new J (hp d L) L _ _ D.symm λσ2 Q=>?_
    rw[dB,C];simp only[ef,J,I,aq]
    refine(O σ2 λq hq=>Q _ ?_).at_ _
    rw[C];simp only[Op.operands];exact List.mem_toArray.2 (List.mem_map_of_mem (f:=(·.2)) hq)
  next t x y C=>rw[C]at E;cases E
  ·rename_i t l c C;obtain⟨d,J,h⟩:=fT h;obtain⟨y,D,O⟩:=RM h;injection D with D;have L:dK o d=true:=by unfold dK;rw[J,C];exact Nat.beq_refl d
   refine q7.new J (hp d L) L _ _ D.symm λσ2 Q=>?_
   rw[dB,C];simp only[ef,J];rw[Q l (by rw[C];simp[Op.operands]),Q c (by rw[C];simp[Op.operands])];exact(O σ2).at_ _
  ·rename_i f args gW C;split at h
   rotate_left
   next c T=>rw[C]at E;simp[T]at E
   next c T=>rw[C]at E;simp[T]at E
   next F T=>rw[C]at E;simp[T]at E
   next c T=>rw[C]at E;simp[T]at E
   next c T=>rw[C]at E;simp[T]at E
   ·rename_i c T;obtain⟨d,J,h⟩:=fT h;obtain⟨res,pG,D,O,h3⟩:=ajp (fo f _ T).2 h;injection O with O;subst O;have L:∀ n,1000000000100000+1000*d<=n->dK o n=true:=λn I=>by unfold dK;rw[J,C];exact iE I
    have Z:∀n,1000000000100000+1000*d<=n->p n=true/\pb n=true:=λn I=>hp n (L n I)
    have xU:∀ σ2:S,(∀ x∈o.op.operands,aE σ2 x=aE σ x)->σ2.m=σ.m->∀ (X:Type) (k:aa Pt->aj X),mW σ2 args.toList k=mW σ args.toList k:=by
     intro σ2 Q Y X k
     refine YU Y _ _ λx hx=>Q x ?_
     rw[C];simp only[Op.operands,Call.operands];simp only[Array.mem_append]
     first
      |exact .inr (by simpa using hx)
      |exact .inl (by simpa using hx)
    unfold nO at D h3;cases res with
    | one q=>
     simp only at D h3;split at D
     ·rename_i y hy;injection D with D
      refine⟨{ G:=λσ=>fO (1000000000100000+1000*d) σ q.2,u:=y,eq:=by rw[J];exact D.symm,run:=λσ2 Q Y=>?_,grow:=λσ=>vm q.2 _ σ Z,set:=λσ e v U=>CG v q.2 _ σ λn I=>A.q6 U (Z n I).1 (Z n I).2,bp:=λ_ σ t r j E hr=>(vm (p:=dK o) (pb:=dK o) q.2 _ σ (λn I=>⟨L n I,L n I⟩)).bp E hr }⟩
      rw[dB,C];simp only[ef,J,T];exact(h3 σ2 ((fO (1000000000100000+1000*d) σ2 q.2).set d y) (xU σ2 Q Y) (by rw[hy])).at_ _
     ·cases D
    | ct ps=>
     injection D with D
     refine⟨{ G:=λσ=>iK (1000000000100000+1000*d) σ ps,u:=_,eq:=by rw[J];exact D.symm,run:=λσ2 Q Y=>?_,grow:=λσ=>Ae ps _ σ Z,set:=λσ e v U=>KU v ps _ σ λn I=>A.q6 U (Z n I).1 (Z n I).2,bp:=λ_ σ t r j E hr=>(Ae (p:=dK o) (pb:=dK o) ps _ σ (λn I=>⟨L n I,L n I⟩)).bp E hr }⟩
     rw[dB,C];simp only[ef,J,T];exact(h3 σ2 _ (xU σ2 Q Y) rfl).at_ _
   next c T=>rw[C]at E;simp[T]at E
   ·cases h
   ·rename_i c T;obtain⟨d,J,h⟩:=fT h;obtain⟨res,pG,D,O,h3⟩:=CF (fo f _ T).2 h;injection O with O;subst O;have L:∀ n,1000000000100000+1000*d<=n->dK o n=true:=λn I=>by unfold dK;rw[J,C];exact iE I
    have Z:∀n,1000000000100000+1000*d<=n->p n=true/\pb n=true:=λn I=>hp n (L n I)
    have xU:∀ σ2:S,(∀ x∈o.op.operands,aE σ2 x=aE σ x)->σ2.m=σ.m->∀ (X:Type) (k:aa Pt->aj X),jt σ2 args.toList k=jt σ args.toList k:=by
     intro σ2 Q Y X k
     refine YT Y _ _ λx hx=>Q x ?_
     rw[C];simp only[Op.operands,Call.operands];simp only[Array.mem_append]
     first
      |exact .inr (by simpa using hx)
      |exact .inl (by simpa using hx)
    unfold nO at D h3;cases res with
    | one q=>
     simp only at D h3;split at D
     ·rename_i y hy;injection D with D
      refine⟨{ G:=λσ=>fO (1000000000100000+1000*d) σ q.2,u:=y,eq:=by rw[J];exact D.symm,run:=λσ2 Q Y=>?_,grow:=λσ=>vm q.2 _ σ Z,set:=λσ e v U=>CG v q.2 _ σ λn I=>A.q6 U (Z n I).1 (Z n I).2,bp:=λ_ σ t r j E hr=>(vm (p:=dK o) (pb:=dK o) q.2 _ σ (λn I=>⟨L n I,L n I⟩)).bp E hr }⟩
      rw[dB,C];simp only[ef,J,T];exact(h3 σ2 ((fO (1000000000100000+1000*d) σ2 q.2).set d y) (xU σ2 Q Y) (by rw[hy])).at_ _
     ·cases D
    | ct ps=>
     injection D with D
     refine⟨{ G:=λσ=>iK (1000000000100000+1000*d) σ ps,u:=_,eq:=by rw[J];exact D.symm,run:=λσ2 Q Y=>?_,grow:=λσ=>Ae ps _ σ Z,set:=λσ e v U=>KU v ps _ σ λn I=>A.q6 U (Z n I).1 (Z n I).2,bp:=λ_ σ t r j E hr=>(Ae (p:=dK o) (pb:=dK o) ps _ σ (λn I=>⟨L n I,L n I⟩)).bp E hr }⟩
     rw[dB,C];simp only[ef,J,T];exact(h3 σ2 _ (xU σ2 Q Y) rfl).at_ _
  next x y t t' C=>rw[C]at E;cases E
  next t C=>rw[C]at E;cases E
  next t x i C=>rw[C]at E;cases E
  next t x i v C=>rw[C]at E;cases E
  next t args gW C=>rw[C]at E;cases E
  next f Sf C=>rw[C]at E;cases E
  next x t C=>rw[C]at E;cases E
  ·cases h
theorem Ll[Inhabited Wd](Y:fm P Φ){k:S->aj X}(h:cR P N Φ σ o k=some r):∃ E,k E=some r/\∀ (Z:Type) (T:S->aj Z),cR P N Φ σ o T=T E:=by
 unfold cR at h ⊢;cases hv:fk o.op with
 | true=>
  rw[hv,ak]at h;obtain⟨v,C,I,_⟩:=CK (w0:=default) (N:=N) h;obtain⟨D,L⟩:=jf C
  refine⟨_,D,λZ T=>?_⟩
  rw[ak];exact(I.at_ (λv=>gI N σ o.dst v T)).trans ((L σ).at_ _)
 | false=>
  rw[hv,aq]at h;show ∃E,k E=some r/\∀(Z:Type) (T:S->aj Z),gC P N Φ σ o T=T E;unfold gC at h ⊢;split at h
  ·obtain⟨d,I,h⟩:=fT h;obtain⟨x,y,C,_,D⟩:=Yq h;exact⟨_,C,λ_ _=>by simp only[ef,I];exact(D σ).at_ _⟩
  ·obtain⟨d,I,h⟩:=fT h;obtain⟨y,u,C,D⟩:=Yv h;exact⟨_,C,λ_ _=>by simp only[ef,I];exact(D σ).at_ _⟩
  ·rename_i t len parts O;obtain⟨d,I,h⟩:=fT h;cases Q:nP t with
   | true=>
    rw[Q,ak]at h;obtain⟨y,u,C,D⟩:=Yy h;exact⟨_,C,λ_ _=>by simp only[ef,I,ak];exact(D σ λ_ _=>rfl).at_ _⟩
   | false=>
    rw[Q,aq]at h;obtain⟨y,C,D⟩:=RN h;exact⟨_,C,λ_ _=>by simp only[ef,I,aq];exact(D σ λ_ _=>rfl).at_ _⟩
  ·split at h
   ·rename_i t x y O _ I;cases Q:tL (aE σ x) (aE σ y)with
    | true=>
     rw[Q,ak]at h;obtain⟨E,C,D⟩:=ajy h;exact⟨E,C,λ_ _=>by simp only[ak];exact D.at_ _⟩
    | false=>
     rw[Q,aq]at h;obtain⟨E,C,D⟩:=Yt h;exact⟨E,C,λ_ _=>by simp only[aq];exact D.at_ _⟩
   ·cases h
  ·obtain⟨d,I,h⟩:=fT h;obtain⟨y,C,D⟩:=RM h;exact⟨_,C,λ_ _=>by simp only[ef,I];exact(D σ).at_ _⟩
  ·rename_i f args gW O;split at h
   next c J=>obtain⟨d,I,h⟩:=fT h;obtain⟨res,E,C,D,L⟩:=CF (Y f _ J).2 h;exact⟨E,D,λ_ _=>by simp only[ef,I];exact(L σ E (λ_ _=>rfl) C).at_ _⟩
   next c J=>obtain⟨E,C,D⟩:=RZ h;exact⟨E,C,λ_ _=>D.at_ _⟩
   next c J=>obtain⟨d,I,h⟩:=fT h;obtain⟨E,C,D⟩:=ajC h;exact⟨E,C,λ_ _=>by simp only[ef,I];exact D.at_ _⟩
   ·rename_i F J;obtain⟨d,I,h⟩:=fT h;split at h
    next x hx=>obtain⟨E,C,D⟩:=ajz h;exact⟨E,C,λ_ _=>by simp only[ef,I];exact D.at_ _⟩
    ·cases h
   next c J=>obtain⟨E,C,D⟩:=YX (Y f _ J).2 h;exact⟨E,C,λ_ _=>D.at_ _⟩
   next c J=>obtain⟨E,C,D⟩:=aja (λh=>let ⟨E,g1,g2⟩:=RZ h;⟨E,g1,λX k=>g2 X k⟩) h;exact⟨E,C,D⟩
   next c J=>obtain⟨d,I,h⟩:=fT h;obtain⟨E,C,D⟩:=ajo (Y f _ J).2 h;exact⟨E,C,λ_ _=>by simp only[ef,I];exact D.at_ _⟩
   next c J=>obtain⟨E,C,D⟩:=ajJ h;exact⟨E,C,D⟩
   ·cases h
  ·rename_i x y t t' O;cases kK:Nat.beq t t' with
   |false=>rw[kK]at h;cases h
   | true=>
    rw[kK,ak]at h;obtain⟨d,I,h⟩:=fT h;cases Q:nP t with
    | true=>
     rw[Q,ak]at h;obtain⟨E,C,D⟩:=ajw h;exact⟨E,C,λ_ _=>by simp only[ak,ef,I];exact D.at_ _⟩
    | false=>
     rw[Q,aq]at h;cases hk:FK t d x with
     | true=>
      rw[hk,ak]at h;obtain⟨E,C,D⟩:=aj1 h;exact⟨E,C,λ_ _=>by simp only[ak,aq,ef,I,hk];exact D.at_ _⟩
     | false=>
      rw[hk,aq]at h;obtain⟨E,C,D⟩:=ajm h;exact⟨E,C,λ_ _=>by simp only[ak,aq,ef,I,hk];exact D.at_ _⟩
  next t O=>obtain⟨d,I,h⟩:=fT h;obtain⟨E,C,D⟩:=ajU h;exact⟨E,C,λ_ _=>by simp only[ef,I];exact D.at_ _⟩
  next t x i O=>obtain⟨v,C,D,_⟩:=YK (w0:=default) (N:=N) h;obtain⟨L,U⟩:=jf C;exact⟨_,L,λ_ _=>(D.at_ _).trans ((U σ).at_ _)⟩
  ·rename_i t x i v O;split at h
   next I=>obtain⟨E,C,D,_⟩:=YL (w0:=default) (N:=N) h;exact⟨E,C,λ_ _=>D.at_ _⟩
   ·cases h
  ·rename_i t args gW O;split at h
   ·rename_i f cap qW;split at h
    next c J=>obtain⟨E,C,D⟩:=YX (Y f _ J).2 h;exact⟨E,C,λ_ _=>D.at_ _⟩
    ·cases h
   ·cases h
  ·rename_i f Sf O;split at h
   next ps pq=>obtain⟨L,U⟩:=jf h;exact⟨_,L,λ_ _=>(U σ).at_ _⟩
   ·cases h
  ·obtain⟨qx,C,D⟩:=ah8 h;obtain⟨L,U⟩:=jf C;exact⟨_,L,λ_ _=>(D _ _).trans ((U qx).at_ _)⟩
  ·cases h
theorem akm[Inhabited Wd](D:fm P Φ){k:S->aj X}(h:cR P N Φ σ o k=some r):∃ C,k C=some r/\cR P N Φ σ o some=some C:=
 let ⟨C,E,I⟩:=Ll D h
 ⟨C,E,I S some⟩
theorem Ln[Inhabited Wd](D:fm P Φ){ops:Array Oper}{k:S->aj X}(h:cS P N Φ ops σ o k=some r):∃ C,k C=some r/\cS P N Φ ops σ o some=some C:=by
 unfold cS at h ⊢;split at h
 ·exact akm D h
 ·obtain⟨E,I⟩:=jf h;exact⟨_,E,(I σ).at_ _⟩
 ·cases h
theorem Sl{ops:Array Oper}{b:Bool}(h:e9 σ ops o=some b):∀ g c t,o.guard=some (g,c)->(ops[g]?).bind (·.dst)=some t->(σ.t t).jS p pb=true:=by
 intro g c t C D;unfold e9 at h;rw[C]at h;simp only[D]at h;split at h
 next hb=>rw[hb];rfl
 next hb=>rw[hb];rfl
 ·cases h
theorem Af{ops:Array Oper}{d:Nat}(h:d ∉ o.looksAt ops)(v:A){x:Operand}(C:x∈o.op.operands):aE (σ.set d v) x=aE σ x:=by
 cases x with
 | tmp t=>
  have:t≠d:=by
   rintro rfl;exact h (List.mem_append_left _ (List.mem_filterMap.2 ⟨.tmp t,by simpa using C,rfl⟩))
  exact cu _ _ _ this
 |_=>rfl
theorem Lo{ops:Array Oper}{d:Nat}(h:d ∉ o.looksAt ops)(v:A):∀ g b t,o.guard=some (g,b)->(ops[g]?).bind (·.dst)=some t->(σ.set d v).t t=σ.t t:=by
 intro g b t C D;have:t≠d:=by
  rintro rfl;refine h (List.mem_append_right _ ?_);rw[C];simp only[D];simp
 exact cu _ _ _ this
def mw(P:Program)(ops:Array Oper)(C:Oper)(p pb:Nat->Bool)(v:A)(σ:S):Prop:=
 (e9 σ ops C=some true/\fk C.op=true/\cx (λX k=>cI (X:=X) P σ C.op k) v/\(∀y∈C.op.operands,(aE σ y).jS p pb=true)/\v.jS p pb=true/\∀t y r j,C.op = .load t y->aE σ y = .aH r j->p r=false)\/(e9 σ ops C=some false/\v = .skip)
theorem mw.grow{ops:Array Oper}{O:Oper}{v:A}(h:mw P ops O p pb v σ){Q:S}(C:gD p pb σ Q):mw P ops O p pb v Q:=by
 rcases h with ⟨D,I,Z,E,T,U⟩|⟨D,I⟩
 ·refine .inl ⟨?_,I,C.val Z E T U,λy Y=>?_,T,λt y r j e h=>?_⟩
  ·rw[vn λg b t J L=>C.t (Sl D g b t J L)];exact D
  ·rw[C.pF (E y Y)];exact E y Y
  ·exact U t y r j e (by rw[<-C.pF (E y (by rw[e];simp[Op.operands]))];exact h)
 ·refine .inr ⟨?_,I⟩;rw[vn λg b t J L=>C.t (Sl D g b t J L)];exact D
theorem mw.set{ops:Array Oper}{D:Oper}{v u:A}(h:mw P ops D p pb v σ){d:Nat}(C:d ∉ D.looksAt ops):mw P ops D p pb v (σ.set d u):=by
 rcases h with ⟨E,I,L,O,Q,T⟩|⟨E,I⟩
 ·refine .inl ⟨?_,I,λX k=>?_,λy J=>?_,Q,λt y r j e h=>?_⟩
  ·rw[vn (Lo C u)];exact E
  ·exact(CM (σ:=σ) (σ2:=σ.set d u) D.op rfl (λx U=>Af C u U) k).trans (L.at_ k)
  ·rw[Af C u J];exact O y J
  ·exact T t y r j e (by rw[<-Af C u (by rw[e];simp[Op.operands])];exact h)
 ·refine .inr ⟨?_,I⟩;rw[vn (Lo C u)];exact E
theorem mw.put{ops:Array Oper}{C:Oper}{v u:A}(h:mw P ops C p pb v σ){D:aj Tmp}(E:∀ d,D=some d->d ∉ C.looksAt ops):mw P ops C p pb v (fB σ D u):=by
 cases D with
 |none=>exact h
 |some d=>exact h.set (E d rfl)
theorem mw.nr{ops:Array Oper}{C:Oper}{v:A}(h:mw P ops C p pb v σ):v.jS p pb=true:=by
 rcases h with ⟨_,_,_,_,D,_⟩|⟨_,E⟩
 ·exact D
 ·rw[E];rfl
theorem YY{x y:aj Tmp}(v u:A)(h:∀ d,x=some d->y≠some d):fB (fB σ x v) y u=fB (fB σ y u) x v:=by
 cases x with
 |none=>rfl
 | some d=>cases y with
  |none=>rfl
  |some e=>exact S.set_set (λC=>h d rfl (bD some C)) v u
theorem akn(x:aj Tmp)(v:A):(fB σ x v).m=σ.m:=by cases x<;>rfl
theorem Lp{ops:Array Oper}{C:aj Tmp}(h:∀ d,C=some d->d ∉ o.looksAt ops)(v:A){x:Operand}(D:x∈o.op.operands):aE (fB σ C v) x=aE σ x:=by
 cases C with
 |none=>rfl
 |some d=>exact Af (h d rfl) v D
theorem ako{ops:Array Oper}{C:aj Tmp}(h:∀ d,C=some d->d ∉ o.looksAt ops)(v:A):e9 (fB σ C v) ops o=e9 σ ops o:=by
 cases C with
 |none=>rfl
 |some d=>exact vn (Lo (h d rfl) v)
/-! Calls that write blocks alone. -/
theorem YZ{σ2:S}(C:σ2.m=σ.m)(ns:aa Nat):∀ (xs:aa Lf) (k:aa V->aj X),oD σ2 ns xs k=oD σ ns xs k
 |[],k=>rfl
 | x :: xs,k=>by
  simp only[oD,CL C];congr 2;funext y;exact YZ C ns xs _
theorem akp{σ2:S}(C:σ2.m=σ.m)(ns:aa Nat)(x:A)(k:Pt->aj X):nM σ2 ns x k=nM σ ns x k:=by
 unfold nM;split<;>simp only[YZ C,C]
theorem akq{σ2:S}(C:σ2.m=σ.m)(p:PK)(x:A):tG σ2 p x=tG σ p x:=by
 cases p<;>simp only[tG,C]
theorem Y0{σ2:S}(C:σ2.m=σ.m):∀ (ps:aa PK) (xs:aa Operand),(∀ x∈xs,aE σ2 x=aE σ x)->jd σ2 ps xs=jd σ ps xs
 |[],[],_=>rfl
 |[],_::_,_=>rfl
 |_::_,[],_=>rfl
 | p :: ps,x :: xs,h=>by
  simp only[jd];rw[h x (.head _),akq C,Y0 C ps xs (λy D=>h y (.tail _ D))]
theorem Lq{σ2:S}(E:σ2.m=σ.m)(ns:aa Nat):∀ (ps:aa PK) (xs:aa Operand) (C:aa Mu) (k:lF ps->aj X),(∀ x∈xs,aE σ2 x=aE σ x)->gY σ2 ns ps xs C k=gY σ ns ps xs C k
 |[],[],[],k,_=>rfl
 | .v b t :: ps,x :: xs,C,k,h=>by
  simp only[gY];rw[h x (.head _),akp E];congr 1;funext p;congr 1;split
  ·exact Lq E ns ps xs C _ (λy D=>h y (.tail _ D))
  ·rfl
 | .p t g off :: ps,x :: xs,.ax I cs J :: C,k,h=>by
  simp only[gY];split
  ·exact Lq E ns ps xs C _ (λy D=>h y (.tail _ D))
  ·rfl
 | .s t g :: ps,x :: xs,.sl q L :: C,k,h=>by
  simp only[gY];split
  ·exact Lq E ns ps xs C _ (λy D=>h y (.tail _ D))
  ·rfl
 |[],[],_::_,k,_=>rfl
 |[],_::_,_,k,_=>rfl
 |.v _ _::_,[],_,k,_=>rfl
 |.p _ _ _::_,[],_,k,_=>rfl
 |.s _ _::_,[],_,k,_=>rfl
 |.p _ _ _::_,_::_,[],k,_=>rfl
 |.s _ _::_,_::_,[],k,_=>rfl
 |.p _ _ _::_,_::_,.sl _ _::_,k,_=>rfl
 |.s _ _::_,_::_,.ax _ _ _::_,k,_=>rfl
theorem akr{m:Nat->aj aP}{l:Lf}{v:V}{q:Nat}(h:tF m l=some (v,some q)):v.aA=false:=by
 unfold tF at h;split at h
 ·simp at h
 ·split at h
  ·rename_i y _;cases C:y.aA with
   |true=>rw[C]at h;simp at h
   | false=>
    rw[C,aq]at h;simp only[fh,gT]at h;rw[<-h.1];exact C
  ·cases h
 ·cases h
theorem Y1{m:Nat->aj aP}:∀ {cs:aa Lf} {C:aa (V×aj Nat)},qv m cs=some C->(∀ v∈C,v.1.aA=true)->∀ v∈C,v.2=none
 |[],C,h,_=>by injection h with h;subst h;simp
 | c :: cs,C,h,D=>by
  unfold qv at h;split at h
  ·rename_i v L E I;injection h with h;subst h;intro u hu;rcases fF.1 hu with rfl | hu
   ·obtain⟨x,q⟩:=u;cases q with
    |none=>rfl
    |some q=>have:=akr E;rw[D _ (.head _)]at this;cases this
   ·exact Y1 I (λv J=>D v (.tail _ J)) u hu
  ·cases h
theorem Y2{i:Nat}:∀ (C:aa (V×aj Nat)) (j:Nat),(∀ v∈C,v.2=none)->Cx i j C=[]
 |[],_,_=>rfl
 | (x,q) :: C,j,h=>by
  have:=h _ (.head _);simp only at this;subst this;exact Y2 C (j+1) (λv D=>h v (.tail _ D))
theorem Sm:∀ (C:aa Nat) (xs:aa V),(∀ x∈xs,x.aA=true)->tJ C xs=[]/\sn C xs=[]
 |[],[],_=>⟨rfl,rfl⟩
 |[],_::_,_=>⟨rfl,rfl⟩
 |_::_,[],_=>⟨rfl,rfl⟩
 | n :: C,x :: xs,h=>by
  simp only[tJ,sn,h x (.head _),ak];exact Sm C xs (λx D=>h x (.tail _ D))
def CO(ps:aa PK):Bool:=ps.all λp=>match p with
 |.v _ _=>true
 |.p _ g _=>Nat.beq g 0
 |.s _ _=>false
theorem Sn{ns:aa Nat}:∀ (ps:aa PK) (xs:aa Operand) (D:aa Mu) (k:lF ps->aj X),CO ps=true->jd σ ps xs=some D->gY σ ns ps xs D k=some r->∀ (i E c0:Nat) (y:sg (eE ps)),
  (∀p∈kr i D,p.1∈gZ σ ps xs)/\mg c0 E D (gX (eE ps) y)=[]/\∀(T cn:aa Nat),∀p∈kQ T cn c0 E D (gX (eE ps) y),p.1∈gZ σ ps xs
 | [],[],D,k,_,C,h=>by
  injection C with C;subst C;intro i E c0 y;exact⟨(λp hp=>by cases hp),by simp[mg],(λ_ _ p hp=>by simp[kQ]at hp)⟩
 | .v b t :: ps,x :: xs,D,k,O,C,h=>by
  have qU:jd σ ps xs=some D:=by
   unfold jd at C;split at C
   next mu Q I J=>exact(tH I).elim
   next Q I J=>rw[J];exact C
   ·cases C
  have o8:CO ps=true:=by simpa [CO]using O
  unfold gY at h;obtain⟨p,J,_⟩:=YC h;cases hb:p.1==b with
  |false=>rw[hb]at J;cases J
  | true=>
   rw[hb,ak]at J;split at J
   ·intro i E c0 y;exact Sn ps xs D _ o8 qU J i E c0 y
   ·cases J
 | .p t g off :: ps,x :: xs,D,k,O,C,h=>by
  unfold jd at C;split at C
  ·rename_i mu Q I J;injection C with C;subst C;have I:=tH I;cases mu with
   |sl=>exact I.elim
   | ax U cs L=>
    have I:aE σ x = .aH U off/\xx σ (.ax U cs L):=I;have O:Nat.beq g 0=true/\CO ps=true:=by simpa [CO]using O
    have hg:=bQ O.1;subst hg;unfold gY at h;split at h
    ·rename_i z Y;have Y:dec t 0 (L.map (·.1))=some z:=Y;have hw:=lu t 0 _ z Y;have Z:∀ v∈L,v.1.aA=true:=by
      intro v hv;obtain⟨j,hj⟩:=List.mem_iff_getElem?.1 hv;have Lr:(L.map (·.1))[j]?=some v.1:=by rw[cO,hj];rfl
      have uI:j<(enc t 0 z).length:=by rw[<-hw.1];exact(c7.1 Lr).1
      have hk:=hw.2 j _ _ Lr (bK uI);have m9:=jr t 0 z (by omega) j _ (bK uI);cases Z:v.1.aA with
      |true=>rfl
      |false=>rw[hk.Rp Z]at m9;cases m9
     have hn:=Y1 I.2.2.1 Z;intro i E c0 y;obtain⟨k1,k2,k3⟩:=Sn ps xs Q _ O.2 J h (i+1) (E+1+L.length) c0 y.2;have Y3:∀ u∈enc t 0 y.1,u.aA=true:=by
      intro u hu;obtain⟨j,hj⟩:=List.mem_iff_getElem?.1 hu;exact jr t 0 y.1 (by omega) j u hj
     have zU:gZ σ (.p t 0 off::ps) (x::xs)=U::gZ σ ps xs:=by simp only[gZ,I.1]
     rw[zU]
     refine⟨λp hp=>?_,?_,λT cn p hp=>?_⟩
     ·simp only[kr,Y2 L 0 hn,List.nil_append]at hp;rcases fF.1 hp with rfl | hp
      ·exact .head _
      ·exact .tail _ (k1 p hp)
     ·show tJ (me c0 (E+1) L) (enc t 0 y.1)++mg c0 (E+1+L.length) Q (gX (eE ps) y.2)=[]
      rw[(Sm _ _ Y3).1,k2];rfl
     ·have hp:p∈(U,aP.ax (oE T cn (me c0 (E+1) L) cs (enc t 0 y.1))) :: (sn (me c0 (E+1) L) (enc t 0 y.1)++kQ T cn c0 (E+1+L.length) Q (gX (eE ps) y.2)):=hp;rw[(Sm _ _ Y3).2,List.nil_append]at hp;rcases fF.1 hp with rfl | hp
      ·exact .head _
      ·exact .tail _ (k3 T cn p hp)
    ·cases h
  next Q I J=>exact(tH I).elim
  ·cases C
 |.s t g::ps,x::xs,D,k,O,C,h=>by simp[CO]at O
 |[],_::_,D,k,_,C,h=>by cases C
 |_::_,[],D,k,_,C,h=>by cases C
theorem S.Ls{ns:aa Nat}{nr:aa (Nat×aP)}(v:A)(h:v.bz ns []=v):(σ.set d v).bz ns [] nr=(σ.bz ns [] nr).set d v:=by
 refine S.ext' (λk=>?_) λ_=>rfl
 show (bL σ.t d v k).bz ns []=bL (λk=>(σ.t k).bz ns []) d v k;by_cases C:k=d
 ·subst C;rw[bO,bO];exact h
 ·rw[cu _ _ _ C,cu _ _ _ C]
theorem Lt{n:Nat}{x:aP}:∀ {l:aa (Nat×aP)},l.lookup n=some x->(n,x)∈l
 |[],h=>by cases h
 | q :: l,h=>by
  rw[List.lookup_cons]at h;cases hb:n==q.1 with
  | true=>
   rw[hb]at h;have e:n=q.1:=by simpa using hb
   injection h with h;rw[e,<-h];exact .head _
  |false=>rw[hb]at h;exact .tail _ (Lt h)
theorem aks{τ:S}{f:Nat}{args:Array Operand}{gW:Array TypeId}{c:mZ}(ho:o.op = .call { callee:=.value (.func f),args,argTypes:=gW })(hc:Φ f=some (.m c))(hfl:Lc c=true)(hp:∀ n,dK o n=true->p n=true/\pb n=true)(xB:∀ n∈gZ σ c.ps args.toList,p n=true)
  (h:cR P N Φ σ o some=some τ):Nonempty (q7 P N Φ o p pb σ τ):=by
 have dB:∀ σ2,cR P N Φ σ2 o some=lH N σ2 o.dst c args.toList some:=by
  intro σ2;unfold cR;rw[show fk o.op=false by rw[ho];rfl,aq];simp only[gC,ho,hc]
 rw[dB]at h;have xU:∀ σ2:S,(∀ x∈o.op.operands,aE σ2 x=aE σ x)->∀ x∈args.toList,aE σ2 x=aE σ x:=by
  intro σ2 E x Y;refine E x ?_;rw[ho];simp only[Op.operands,Call.operands];simp only[Array.mem_append]
  first
   |exact .inr (by simpa using Y)
   |exact .inl (by simpa using Y)
 unfold lH at h;split at h
 ·rename_i Q so;cases lI:(once (kr 0 Q)&&Nat.ble Q.length 40)with
  |false=>rw[lI]at h;cases h
  | true=>
   rw[lI,ak]at h;have akt:=Sn c.ps args.toList Q _ hfl so h;obtain⟨x,C,hd⟩:=zY _ _ _ _ h;split at C
   ·rename_i y hy;obtain⟨k1,k2,k3⟩:=akt 0 (eI c.ro y.1).len (gA o.dst) y.2;unfold xz at C;rw[k2]at C;generalize iA:zL N Q (gX (eE c.ps) y.2) []=ok at C;cases ok with
    |false=>cases C
    | true=>
     rw[ak]at C;generalize zm:(kr 0 Q).map (·.1)=ns at C hd;generalize Fz:kQ ns [] (gA o.dst) (eI c.ro y.1).len Q (gX (eE c.ps) y.2)=nr at C;have T:FT p ns nr:=by
      refine⟨λn D=>?_,λn x Y=>?_⟩
      ·rw[<-zm]at D;obtain⟨q,hq,e⟩:=List.mem_map.1 (sk.1 D);rw[<-e];exact xB _ (k1 q hq)
      ·rw[<-Fz]at Y;exact xB _ (k3 ns [] _ (Lt Y))
     have mz:∀ σ2:S,(∀ x∈o.op.operands,aE σ2 x=aE σ x)->σ2.m=σ.m->lH N σ2 o.dst c args.toList some=mh N (σ2.bz ns [] nr) o.dst (eI c.ro y.1) some:=by
      intro σ2 E J;simp only[lH];rw[Y0 J _ _ (xU σ2 E),so];simp only[lI,ak];rw[zm,Lq J _ _ _ _ _ (xU σ2 E)];refine(hd S _).trans ?_;simp only[hy,xz,k2,iA,ak,Fz]
     have So:∀ (σ:S) t r j,σ.t t = .aH r j->(σ.bz ns [] nr).t t = .aH r j:=by
      intro σ t r j L;show A.bz ns [] (σ.t t)=_;rw[L];rfl
     generalize lG:eI c.ro y.1=res at C mz;cases I:o.dst with
     | none=>
      rw[I]at C;have C:some (σ.bz ns [] nr)=some τ:=C;injection C with C;exact⟨{ G:=λσ=>σ.bz ns [] nr,u:=.undef,eq:=by rw[I];exact C.symm,run:=λσ2 E J=>by rw[dB,mz σ2 E J,I];rfl,grow:=λσ=>.bz ns nr T (.refl σ),set:=λσ e v O=>S.Ls v (A.CN O T.ns),bp:=λ_ σ t r j L _=>So σ t r j L }⟩
     | some d=>
      rw[I]at C;have Z:∀n,1000000000100000+1000*d<=n->dK o n=true:=λn D=>by unfold dK;rw[I,ho];exact iE D
      have U:∀n,1000000000100000+1000*d<=n->p n=true/\pb n=true:=λn D=>hp n (Z n D)
      obtain⟨pG,h3,FC⟩:=YD C;injection h3 with h3;subst h3;cases hN:Nat.blt d N with
      |false=>simp only[mh,hN,aq]at C;cases C
      | true=>
       simp only[mh,hN,ak]at C;cases res with
       | one q=>
        simp only at C;split at C
        next u hu=>injection C with C;exact⟨{ G:=λσ=>fO (1000000000100000+1000*d) (σ.bz ns [] nr) q.2,u:=u,eq:=by rw[I];exact C.symm,run:=λσ2 E J=>by rw[dB,mz σ2 E J,I];simp only[mh,hN,ak,hu];rfl,grow:=λσ=>(gD.bz ns nr T (.refl σ)).trans (vm q.2 _ _ U),set:=λσ e v O=>by rw[S.Ls v (A.CN O T.ns),CG v q.2 _ _ λn D=>A.q6 O (U n D).1 (U n D).2],bp:=λ_ σ t r j L hr=>(vm (p:=dK o) (pb:=dK o) q.2 _ _ (λn D=>⟨Z n D,Z n D⟩)).bp (So σ t r j L) hr }⟩
        ·cases C
       | ct ps=>
        injection C with C;exact⟨{ G:=λσ=>iK (1000000000100000+1000*d) (σ.bz ns [] nr) ps,u:=_,eq:=by rw[I];exact C.symm,run:=λσ2 E J=>by rw[dB,mz σ2 E J,I];simp only[mh,hN,ak];rfl,grow:=λσ=>(gD.bz ns nr T (.refl σ)).trans (Ae ps _ _ U),set:=λσ e v O=>by rw[S.Ls v (A.CN O T.ns),KU v ps _ _ λn D=>A.q6 O (U n D).1 (U n D).2],bp:=λ_ σ t r j L hr=>(Ae (p:=dK o) (pb:=dK o) ps _ _ (λn D=>⟨Z n D,Z n D⟩)).bp (So σ t r j L) hr }⟩
   ·cases C
 ·cases h
def Calm(Φ:dJ)(ok:Nat->Nat->Bool)(qD mj p pb:Nat->Bool)(σ:S)(o:Oper):Prop:=
 Lb Φ o.op=true\/(∃f args D c,o.op = .call { callee:=.value (.func f),args:=args,argTypes:=D }/\Φ f=some (.m c)/\Lc c=true/\qB ok σ c.ps args.toList=true/\∀n∈gZ σ c.ps args.toList,p n=true)\/
 (∃ty t y,o.op = .store ty (.tmp t) y/\o.dst=none/\qD t=true/\hD p (σ.t t))\/
 ∃x y t C,o.op = .call ⟨.builtin .append,⟨[.tmp x,y]⟩,⟨[t,C]⟩⟩/\mj x=true/\(nP t=false/\Nat.beq t C=true/\Ab o.dst t (.tmp x)=false)/\lM p pb (σ.t x)
theorem aku{T:S}{ty:TypeId}{t:Tmp}{y:Operand}(I:o.op = .store ty (.tmp t) y)(Q:o.dst=none)(C:hD p (σ.t t))(h:cR P N Φ σ o some=some T):Nonempty (q7 P N Φ o p pb σ T):=by
 have Fv:∀ (x:A) (z:A),(∀ k,x ≠ .ptr k)->tL x z=false:=by
  intro x z D;unfold tL;split
  ·exact absurd rfl (D _)
  ·rfl
 have U:∀ σ2:S,(∀ k,σ2.t t ≠ .ptr k)->cR P N Φ σ2 o some=mU P σ2 ty (σ2.t t) (aE σ2 y) some:=by
  intro σ2 Lu;unfold cR;rw[show fk o.op=false by rw[I];rfl,aq];simp only[gC,I,Q];rw[show tL (aE σ2 (.tmp t)) (aE σ2 y)=false from Fv _ _ Lu,aq];rfl
 rw[U σ (λk J=>by rw[J]at C;exact C)]at h;cases D:σ.t t with
 | aH E j=>
  rw[D]at h C;have hp:p E=true:=C;have key:∃ x,∀ σ2:S,σ2.m=σ.m->∀ v,v=aE σ y->mU P σ2 ty (.aH E j) v some=some (σ2.root E x):=by
   unfold mU at h;split at h
   ·rename_i n xs hn qf;split at h
    ·rename_i hlen;simp only at h;split at h
     ·rename_i cs iQ;split at h
      ·rename_i hj;cases hl:xs.all Lf.live with
       |false=>rw[hl]at h;cases h
       | true=>
        refine⟨.ax (splice cs j xs),λσ2 L v Y=>?_⟩
        subst Y;simp only[mU,hn,qf,bk hlen,L,iQ,bk hj,hl,ak];simp only[S.root,L]
      ·cases h
     ·cases h
    ·cases h
   ·cases h
  obtain⟨x,Z⟩:=key;have O:=Z σ rfl _ rfl;rw[h]at O;injection O with O
  refine⟨{ G:=λσ=>σ.root E x,u:=.undef,eq:=by rw[Q];exact O,run:=λσ2 q8 L=>?_,grow:=λσ=>.rt E x hp (.refl σ),set:=λσ d v Y=>rfl,bp:=λ_ σ t r j ht _=>ht }⟩
  have e1:σ2.t t = .aH E j:=(q8 (.tmp t) (by rw[I];simp[Op.operands])).trans D;rw[U σ2 (λk J=>by rw[e1]at J;cases J),e1,Z σ2 L _ (q8 y (by rw[I];simp[Op.operands])),Q];rfl
 |ptr k=>rw[D]at C;exact C.elim
 | _=>
  rw[D]at h;exfalso;revert h;unfold mU;split
  ·split<;>exact λh=>by cases h
  ·exact λh=>by cases h
def cz(e:Nat)(x:aP)(u:A)(σ:S):S:=((σ.drop e).root e x).set e u
def mA(e:Nat)(u:A):Prop:=u = .aH e 0\/u = .lf (.own [e])
structure nR (x:aP):Prop where
 drop:∀n,x.drop n=x
 bz:∀ns cn,x.bz ns cn=x
theorem Y4(h:tN o=true):∃ t,∃ e:Nat,o.op = .alloc t/\o.guard=none/\o.dst=some e/\e<20000:=by
 unfold tN at h;rw[aK,aK]at h;obtain⟨⟨D,E⟩,C⟩:=h;split at D
 ·rename_i t I;split at C
  next e J=>exact⟨t,e,I,by simpa using E,J,cB C⟩
  ·cases C
 ·cases D
theorem akv{ops:Array Oper}{t:TypeId}{e:Nat}(D:o.op = .alloc t)(J:o.guard=none)(L:o.dst=some e){E:S}(h:cS P N Φ ops σ o some=some E):∃ x,nR x/\E=cz e x (.aH e 0) σ/\∀ σ2,cS P N Φ ops σ2 o some=some (cz e x (.aH e 0) σ2):=by
 have I:∀ σ2,cS P N Φ ops σ2 o some=qV P N σ2 e t some:=by
  intro σ2;unfold cS e9;rw[J];simp only;unfold cR;rw[show fk o.op=false by rw[D];rfl,aq];simp only[gC,D,ef,L]
 rw[I]at h;unfold qV at h;split at h
 ·rename_i z O;unfold gV at h;cases C:Nat.blt e N with
  |false=>rw[C]at h;cases h
  | true=>
   rw[C,ak]at h;injection h with h;have Q:∀(n:Nat) v,(iy v).drop n=iy v:=λn v=>by unfold iy;split<;>rfl
   have T:∀(ns cn:aa Nat) v,(iy v).bz ns cn=iy v:=λns cn v=>by unfold iy;split<;>rfl
   refine⟨.ax (z.cells.toList.map iy),⟨λn=>?_,λns cn=>?_⟩,h.symm,λσ2=>(I σ2).trans ?_⟩
   ·simp only[aP.drop,List.map_map];congr 1;exact ic λv _=>Q n v
   ·simp only[aP.bz,List.map_map];congr 1;exact ic λv _=>T ns cn v
   ·unfold qV gV;rw[O,C];rfl
 ·cases h
theorem FU{σ2:S}:∀ (ps:aa PK) (xs:aa Operand),(∀ x∈xs,aE σ2 x=aE σ x)->gZ σ2 ps xs=gZ σ ps xs
 |[],[],_=>rfl
 |[],_::_,_=>rfl
 |.v _ _::_,[],_=>rfl
 |.p _ _ _::_,[],_=>rfl
 |.s _ _::_,[],_=>rfl
 |.v _ _::ps,x::xs,h=>by simp only[gZ];exact FU ps xs (λy C=>h y (.tail _ C))
 |.s _ _::ps,x::xs,h=>by simp only[gZ];exact FU ps xs (λy C=>h y (.tail _ C))
 | .p _ _ _ :: ps,x :: xs,h=>by
  simp only[gZ];rw[h x (.head _),FU ps xs (λy C=>h y (.tail _ C))]
theorem Sq{ok:Nat->Nat->Bool}{σ2:S}(D:∀ t r j,σ.t t = .aH r j->ok t r=true->σ2.t t = .aH r j):∀ (ps:aa PK) (xs:aa Operand),qB ok σ ps xs=true->qB ok σ2 ps xs=true/\gZ σ2 ps xs=gZ σ ps xs
 |[],[],_=>⟨rfl,rfl⟩
 |[],_::_,h=>by cases h
 |.v _ _::_,[],h=>by cases h
 |.p _ _ _::_,[],h=>by cases h
 |.s _ _::_,[],h=>by cases h
 |.s _ _::_,_::_,h=>by cases h
 | .v _ _ :: ps,x :: xs,h=>by
  simp only[qB]at h ⊢;simp only[gZ];exact Sq D ps xs h
 | .p _ _ _ :: ps,x :: xs,h=>by
  cases x with
  | tmp t=>
   simp only[qB,aK]at h;obtain⟨C,I⟩:=h;obtain⟨J,L⟩:=Sq D ps xs I;split at C
   ·rename_i O j E;have e:=D t O j E C;refine⟨?_,?_⟩
    ·simp only[qB,aK];exact⟨by rw[e];exact C,J⟩
    ·simp only[gZ,aE,e,E,L]
   ·cases C
  |const v=>simp[qB]at h
  |global g=>simp[qB]at h
  |func f=>simp[qB]at h
theorem Calm.fN{ok:Nat->Nat->Bool}{qD mj:Nat->Bool}{σ2:S}(h:Calm Φ ok qD mj p pb σ o)(J:∀ t r j,σ.t t = .aH r j->ok t r=true->σ2.t t = .aH r j)(L:∀ t,qD t=true->hD p (σ.t t)->hD p (σ2.t t))(O:∀ t,mj t=true->lM p pb (σ.t t)->lM p pb (σ2.t t)):Calm Φ ok qD mj p pb σ2 o:=by
 rcases h with h|⟨f,args,Q,c,E,C,D,I,T⟩|⟨ty,t,y,E,C,D,I⟩|⟨x,y,t,U,E,C,Y,D⟩
 ·exact .inl h
 ·obtain⟨Z,k2⟩:=Sq J _ _ I;exact .inr (.inl ⟨f,args,Q,c,E,C,D,Z,by rw[k2];exact T⟩)
 ·exact .inr (.inr (.inl ⟨ty,t,y,E,C,D,L t D I⟩))
 ·exact .inr (.inr (.inr ⟨x,y,t,U,E,C,Y,O x C D⟩))
theorem FV{ops:Array Oper}(Q:m7 o=true)(T:e9 σ ops o=some true){τ:S}(h:cS P N Φ ops σ o some=some τ):∃ (e:Nat) (x:aP) (u:A),o.dst=some e/\e<20000/\nR x/\mA e u/\τ=cz e x u σ/\
  ∀σ2,e9 σ2 ops o=some true->(∀y∈o.op.operands,aE σ2 y=aE σ y)->cS P N Φ ops σ2 o some=some (cz e x u σ2):=by
 have U:fk o.op=false->∀ σ2,e9 σ2 ops o=some true->cS P N Φ ops σ2 o some=gC P N Φ σ2 o some:=by
  intro hv σ2 J;unfold cS;rw[J];simp only;unfold cR;rw[hv,aq]
 have Y5:∀y:V,nR (.sl y):=λy=>⟨λ_=>rfl,λ_ _=>rfl⟩
 unfold m7 at Q;rw[aK]at Q;obtain⟨Y,Z⟩:=Q;split at Z
 ·rename_i e D;have dn:e<20000:=cB Z;split at Y
  ·rename_i t C;have I:=U (by rw[C];rfl);rw[I σ T]at h;simp only[gC,C,ef,D]at h;unfold qV at h;split at h
   ·rename_i z hz;unfold gV at h;cases hN:Nat.blt e N with
    |false=>rw[hN]at h;cases h
    | true=>
     rw[hN,ak]at h;injection h with h;have E:∀(n:Nat) v,(iy v).drop n=iy v:=λn v=>by unfold iy;split<;>rfl
     have L:∀(ns cn:aa Nat) v,(iy v).bz ns cn=iy v:=λns cn v=>by unfold iy;split<;>rfl
     refine⟨e,.ax (z.cells.toList.map iy),.aH e 0,D,dn,⟨λn=>?_,λns cn=>?_⟩,.inl rfl,h.symm,λσ2 J _=>(I σ2 J).trans ?_⟩
     ·simp only[aP.drop,List.map_map];congr 1;exact ic λv _=>E n v
     ·simp only[aP.bz,List.map_map];congr 1;exact ic λv _=>L ns cn v
     ·simp only[gC,C,ef,D];unfold qV gV;rw[hz,hN];rfl
   ·cases h
  ·rename_i t len parts C;have I:=U (by rw[C];rfl);rw[I σ T]at h;have hn:nP t=false:=by simpa using Y
   simp only[gC,C,ef,D,hn,aq]at h;obtain⟨y,E,L⟩:=RN h;injection E with E
   refine⟨e,.sl y,.lf (.own [e]),D,dn,Y5 y,.inr rfl,E.symm,λσ2 J O=>(I σ2 J).trans ?_⟩
   simp only[gC,C,ef,D,hn,aq]
   refine(L σ2 λq hq=>O _ ?_).at_ _
   rw[C];simp only[Op.operands];exact List.mem_toArray.2 (List.mem_map_of_mem (f:=(·.2)) hq)
  ·rename_i t l c C;have I:=U (by rw[C];rfl);rw[I σ T]at h;simp only[gC,C,ef,D]at h;obtain⟨y,E,L⟩:=RM h;injection E with E
   refine⟨e,.sl y,.lf (.own [e]),D,dn,Y5 y,.inr rfl,E.symm,λσ2 J O=>(I σ2 J).trans ?_⟩
   simp only[gC,C,ef,D];rw[O l (by rw[C];simp[Op.operands]),O c (by rw[C];simp[Op.operands])];exact(L σ2).at_ _
  ·cases Y
 ·cases Z
theorem Lv{d:Nat}{t:TypeId}{y z:A}{Q:S}(h:pn P N σ d t y z some=some Q):∃ (r:Nat) (v:V),Q=((σ.drop r).root r (.sl v)).set d (.lf (.own [r]))/\(r=d\/y = .lf (.own [r]))/\
  ∀σ2:S,(∀(k:V->aj S),o6 σ2 z k=o6 σ z k)->(∀r v,y = .lf (.own [r])->σ.m r=some (.sl v)->σ2.m r=some (.sl v))->pn P N σ2 d t y z some=some (((σ2.drop r).root r (.sl v)).set d (.lf (.own [r]))):=by
 unfold pn at h;split at h
 ·rename_i e J T;cases I:(Nat.beq (full J) 0&&(zeroOf P e).any (λz=>Nat.beq z.cells.size (aC J)))with
  |false=>rw[I]at h;cases h
  | true=>
   rw[I,ak]at h;obtain⟨yv,C,U⟩:=RL h;clear h;split at C
   ·cases C
   ·rename_i l2 Y;split at C
    ·cases D:aT l2.length with
     |false=>rw[D]at C;cases C
     | true=>
      rw[D,ak]at C;cases L:Nat.blt d N with
      |false=>unfold gV at C;rw[L]at C;cases C
      | true=>
       have E:=C;unfold gV at E;rw[L,ak]at E;injection E with E
       refine⟨d,.sl J 2 false l2,E.symm,.inl rfl,λσ2 O Z=>?_⟩
       simp only[pn,T,I,ak];refine(O _).trans ((U.at_ _).trans ?_);simp only[Y,D,ak];unfold gV;rw[L,ak]
    ·rename_i rr;split at C
     ·rename_i t' o q l hm;split at C
      ·rename_i kK;cases D:(Nat.blt d N&&(Nat.blt rr N || Nat.ble 60000 rr)&&aT (l.length+l2.length))with
       |false=>rw[D]at C;cases C
       | true=>
        rw[D,ak]at C;injection C with C
        refine⟨rr,_,C.symm,.inr rfl,λσ2 O Z=>?_⟩
        simp only[pn,T,I,ak];refine(O _).trans ((U.at_ _).trans ?_);simp only[Y,Z rr _ rfl hm,aG kK,D,ak]
      ·cases C
     ·cases C
    ·cases C
 ·cases h
theorem Sr(h:isApp o=true):∃ x y t C,o.op = .call ⟨.builtin .append,⟨[x,y]⟩,⟨[t,C]⟩⟩/\nP t=false/\Nat.beq t C=true/\Ab o.dst t x=false:=by
 unfold isApp at h;split at h
 ·rw[aK,aK]at h;exact⟨_,_,_,_,by assumption,by simpa using h.1.1,h.1.2,by simpa using h.2⟩
 ·cases h
theorem FW{x y:Operand}{t D:TypeId}(E:o.op = .call ⟨.builtin .append,⟨[x,y]⟩,⟨[t,D]⟩⟩)(I:nP t=false)(J:Nat.beq t D=true)(C:Ab o.dst t x=false)(σ:S):cR P N Φ σ o some=ef o λd=>pn P N σ d t (aE σ x) (aE σ y) some:=by
 unfold cR;rw[show fk o.op=false by rw[E];rfl,aq];simp only[gC,E,I,J,aq,ak];unfold ef;cases L:o.dst with
 |none=>rfl
 | some d=>
  rw[L]at C;have C:FK t d x=false:=C;simp only[C,aq]
theorem akw{O:S}{x:Tmp}{y:Operand}{t Q:TypeId}(C:o.op = .call ⟨.builtin .append,⟨[.tmp x,y]⟩,⟨[t,Q]⟩⟩)(E:nP t=false)(I:Nat.beq t Q=true)(J:Ab o.dst t (.tmp x)=false)(Z:∀ n,dK o n=true->p n=true/\pb n=true)(kL:lM p pb (σ.t x))(h:cR P N Φ σ o some=some O):Nonempty (q7 P N Φ o p pb σ O):=by
 rw[FW C E I J]at h;obtain⟨d,L,h⟩:=fT h;obtain⟨r,v,ju,hr,mz⟩:=Lv h;have D:p r=true/\pb r=true:=by
  rcases hr with hr|hr
  ·rw[hr];exact Z d (by unfold dK;rw[L,C];exact Nat.beq_refl d)
  ·exact kL r hr
 refine⟨{ G:=λσ=>(σ.drop r).root r (.sl v),u:=.lf (.own [r]),eq:=by rw[L];exact ju,run:=λσ2 T U=>?_,grow:=λσ=>.root r _ D.1 D.2 (.refl σ),set:=λσ e v' hv=>(by rw[S.drop_set r (A.q6 hv D.1 D.2)];rfl),bp:=λY=>(by rw[isApp,C]at Y;simp[E,I,J]at Y) }⟩
 rw[FW C E I J];unfold ef;rw[L];simp only;rw[T (.tmp x) (by rw[C];simp[Op.operands,Call.operands]),T y (by rw[C];simp[Op.operands,Call.operands]),mz σ2 (λk=>aj7 U _ k) (λr' v' _ h'=>by rw[U];exact h')];rfl
theorem akx[Inhabited Wd](fo:fm P Φ){ok:Nat->Nat->Bool}{qD mj mm:Nat->Bool}(hX:∀ x,mm x=true->hD p (σ.t x)){ops:Array Oper}{oi D:Oper}{v:A}{τ:S}(hF:mw P ops oi p pb v σ)(ha:oi.apart ops D=true)(J:Calm Φ ok qD mj p pb σ D)(hp:∀ n,dK D n=true->p n=true/\pb n=true)
  (h:cS P N Φ ops (fB σ oi.dst v) D some=some τ):∃ O,cS P N Φ ops σ D some=some O/\τ=fB O oi.dst v/\mw P ops oi p pb v O/\(isApp D=false->∀ t r j,σ.t t = .aH r j->D.dst≠some t->dK D r=false->O.t t = .aH r j)/\
   (∀t,hD p (σ.t t)->(D.dst≠some t\/(tN D=true/\p t=true)\/∃s x f,D.op = .fieldAddr s (.tmp x) f/\mm x=true)->hD p (O.t t))/\
   ∀t,lM p pb (σ.t t)->(D.dst≠some t\/(m7 D=true/\p t=true/\pb t=true)\/(isApp D=true\/xQ Φ D=true))->lM p pb (O.t t):=by
 obtain⟨a1,a2,a3⟩:=Oper.apart_spec ha;have CP:∀ (σ:S) (u:A) t,D.dst≠some t->(fB σ D.dst u).t t=σ.t t:=by
  intro σ u t J;cases L:D.dst with
  |none=>rfl
  |some d=>exact cu _ _ _ (by rintro rfl;exact J L)
 have CQ:∀ O,cS P N Φ ops σ D some=some O->∀ t,tN D=true->D.dst=some t->p t=true->hD p (O.t t):=by
  intro O C t CQ L R1;obtain⟨ty,e,E,Q,h3,_⟩:=Y4 CQ;rw[h3]at L;injection L with L;subst L;obtain⟨x,_,e1,_⟩:=akv E Q h3 C;rw[e1];show hD p (bL _ e (.aH e 0) e);rw[bO];exact R1
 have fin:∀ O,cS P N Φ ops σ D some=some O->(∀ t,D.dst≠some t->hD p (σ.t t)->hD p (O.t t))->∀ t,hD p (σ.t t)->(D.dst≠some t\/(tN D=true/\p t=true)\/∃ s x f,D.op = .fieldAddr s (.tmp x) f/\mm x=true)->hD p (O.t t):=by
  intro O C hk t J Ss;rcases Ss with Y|⟨E,Q⟩|⟨s,x,f,E,Q⟩
  ·exact hk t Y J
  ·by_cases L:D.dst=some t
   ·exact CQ O C t E L Q
   ·exact hk t L J
  ·by_cases L:D.dst=some t
   ·unfold cS at C;split at C
    ·unfold cR at C;rw[show fk D.op=true by rw[E];rfl,ak]at C;rw[E]at C;simp only[cI]at C;have hx:=hX x Q;have hx:hD p (aE σ (.tmp x)):=hx;generalize aE σ (.tmp x)=z at hx C;have key:∀ v,gI N σ D.dst v some=some O->hD p v->hD p (O.t t):=by
      intro v hv hA;obtain⟨I,_⟩:=jf hv;injection I with I;rw[<-I,L];show hD p (bL σ.t t v t);rw[bO];exact hA
     unfold rZ at C;split at C
     ·cases C
     ·split at C
      ·split at C
       ·exact key _ C hx
       ·exact key _ C trivial
       ·exact hx.elim
       ·cases C
      ·cases C
    ·obtain⟨I,_⟩:=jf C;injection I with I;rw[<-I,L];show hD p (bL σ.t t .skip t);rw[bO];trivial
    ·cases C
   ·exact hk t L J
 have aky:=J;have Y6:∀ O,cS P N Φ ops σ D some=some O->(∀ t,D.dst≠some t->lM p pb (σ.t t)->lM p pb (O.t t))->∀ t,lM p pb (σ.t t)->(D.dst≠some t\/(m7 D=true/\p t=true/\pb t=true)\/(isApp D=true\/xQ Φ D=true))->lM p pb (O.t t):=by
  intro O C hk t J Ss;rcases Ss with Y|⟨E,Q⟩|akz|Ag
  ·exact hk t Y J
  ·by_cases L:D.dst=some t
   ·cases Z:e9 σ ops D with
    |none=>unfold cS at C;rw[Z]at C;cases C
    | some b=>
     cases b with
     | true=>
      obtain⟨e,x,u,I,g2,g3,g4,g5,_⟩:=FV E Z C;rw[L]at I;injection I with I;subst I;rw[g5];intro r hr;have hr:bL _ t u t = .lf (.own [r]):=hr;rw[bO]at hr;rcases g4 with g4|g4
      ·rw[g4]at hr;cases hr
      ·rw[g4]at hr;injection hr with hr;injection hr with hr;injection hr with hr;subst hr;exact Q
     | false=>
      unfold cS at C;rw[Z]at C;obtain⟨I,_⟩:=jf C;injection I with I;rw[<-I,L];intro r hr;have hr:bL σ.t t .skip t = .lf (.own [r]):=hr;rw[bO]at hr;cases hr
   ·exact hk t L J
  ·by_cases L:D.dst=some t
   ·obtain⟨x,y,t1,t2,I,g2,g3,g4⟩:=Sr akz;have hT:lM p pb (aE σ x):=by
     rcases aky with q|⟨f,args,gW,c,U,_⟩|⟨ty,tt,yy,U,_⟩|⟨x',y',t1',t2',U,q2,q3,q4⟩
     ·rw[I]at q;cases q
     ·rw[I]at U;cases U
     ·rw[I]at U;cases U
     ·rw[I]at U;injection U with U;injection U with _ U _;injection U with U;injection U with U _;subst U;exact q4
    cases Z:e9 σ ops D with
    |none=>unfold cS at C;rw[Z]at C;cases C
    | some b=>
     cases b with
     | true=>
      unfold cS at C;rw[Z]at C;have C:cR P N Φ σ D some=some O:=C;rw[FW I g2 g3 g4]at C;obtain⟨d,sw,C⟩:=fT C;rw[L]at sw;injection sw with sw;subst sw;obtain⟨r,v,ju,hr,_⟩:=Lv C;rw[ju];intro r' gH;have gH:bL ((σ.drop r).root r (.sl v)).t t (.lf (.own [r])) t = .lf (.own [r']):=gH;rw[bO]at gH;injection gH with gH;injection gH with gH;injection gH with gH;subst gH;rcases hr with hr|hr
      ·rw[hr];exact hp t (by unfold dK;rw[L,I];exact Nat.beq_refl t)
      ·exact hT r hr
     | false=>
      unfold cS at C;rw[Z]at C;obtain⟨I,_⟩:=jf C;injection I with I;rw[<-I,L];intro r hr;have hr:bL σ.t t .skip t = .lf (.own [r]):=hr;rw[bO]at hr;cases hr
   ·exact hk t L J
  ·by_cases L:D.dst=some t
   ·cases Z:e9 σ ops D with
    |none=>unfold cS at C;rw[Z]at C;cases C
    | some b=>
     cases b with
     | true=>
      unfold cS at C;rw[Z]at C;have C:cR P N Φ σ D some=some O:=C;unfold xQ at Ag;split at Ag
      ·rename_i f args gW ho;split at Ag
       ·rename_i c hc;unfold cR at C;rw[show fk D.op=false by rw[ho];rfl,aq]at C;simp only[gC,ho,hc]at C;obtain⟨d,sw,C⟩:=fT C;rw[L]at sw;injection sw with sw;subst sw;obtain⟨res,pG,E,Q,_⟩:=CF (fo f _ hc).2 C;injection Q with Q;subst Q;have oF:∀ n,1000000000100000+1000*t<=n->p n=true/\pb n=true:=λn hn=>hp n (by unfold dK;rw[L,ho];exact iE hn)
        intro r hr;unfold nO at E;cases res with
        | one q=>
         simp only at E;split at E
         ·rename_i y T;injection E with E;rw[<-E]at hr;have hr:bL _ t y t=A.lf (Lf.own [r]):=hr;rw[bO]at hr;subst hr;obtain⟨b,vs⟩:=q;cases b with
          |true=>cases T
          | false=>
           match vs,T with
           | [v],T=>
            have T:some (A.lf (bif v.aA then Lf.v v else Lf.own [1000000000100000+1000*t]))=some (A.lf (Lf.own [r])):=T;injection T with T;injection T with T;cases hf:v.aA with
            |true=>rw[hf]at T;cases T
            | false=>
             rw[hf]at T;injection T with T;injection T with T;subst T;exact oF _ (dV _)
         ·cases E
        | ct ps=>
         injection E with E;rw[<-E]at hr;have hr:bL _ t _ t=A.lf (Lf.own [r]):=hr;rw[bO]at hr;cases hr
       ·cases Ag
      ·cases Ag
     | false=>
      unfold cS at C;rw[Z]at C;obtain⟨I,_⟩:=jf C;injection I with I;rw[<-I,L];intro r hr;have hr:bL σ.t t .skip t = .lf (.own [r]):=hr;rw[bO]at hr;cases hr
   ·exact hk t L J
 unfold cS at h;rw[ako a1]at h;split at h
 ·rename_i Z;have akA:Nonempty (q7 P N Φ D p pb (fB σ oi.dst v) τ):=by
   rcases J with J|⟨f,args,gW,c,E,Q,h3,h4,h5⟩|⟨ty,t,y,E,Q,h3,h4⟩|⟨x,y,t1,t2,E,Q,hn,h3⟩
   ·exact akl fo J hp h
   ·refine aks E Q h3 hp ?_ h;rw[FU]
    ·exact h5
    ·intro x hx;refine Lp a1 v ?_;rw[E];simp only[Op.operands,Call.operands];simp only[Array.mem_append]
     first
      |exact .inr (by simpa using hx)
      |exact .inl (by simpa using hx)
   ·refine aku E Q ?_ h;have e1:aE (fB σ oi.dst v) (.tmp t)=aE σ (.tmp t):=Lp a1 v (by rw[E];simp[Op.operands]);have e1:(fB σ oi.dst v).t t=σ.t t:=e1;rw[e1];exact h4
   ·refine akw E hn.1 hn.2.1 hn.2.2 hp ?_ h;have e1:aE (fB σ oi.dst v) (.tmp x)=aE σ (.tmp x):=Lp a1 v (by rw[E];simp[Op.operands,Call.operands]);have e1:(fB σ oi.dst v).t x=σ.t x:=e1;rw[e1];exact h3
  obtain⟨G,u,e,hr,hg,hs,Y7⟩:=akA;have pH:cS P N Φ ops σ D some=some (fB (G σ) D.dst u):=by
   unfold cS;rw[Z];exact hr σ (λx hx=>(Lp a1 v hx).symm) (akn _ _).symm
  refine⟨fB (G σ) D.dst u,pH,?_,(hF.grow (hg σ)).put a3,λAh t r j J Y oF=>?_,fin _ pH λt Y J=>?_,Y6 _ pH λt Y J=>?_⟩
  ·refine e.trans ?_;have:∀ dst,G (fB σ dst v)=fB (G σ) dst v:=by
    intro dst;cases dst with
    |none=>rfl
    |some d=>exact hs σ d v hF.nr
   rw[this];exact YY _ _ a2
  ·rw[CP _ _ t Y];exact Y7 Ah σ t r j J oF
  ·rw[CP _ _ t Y];exact(hg σ).st J
  ·rw[CP _ _ t Y];exact(hg σ).tg J
 ·rename_i Z;obtain⟨E,Q⟩:=jf h;injection E with E;have pH:cS P N Φ ops σ D some=some (fB σ D.dst .skip):=by
   unfold cS;rw[Z];exact(Q σ).at_ _
  exact⟨fB σ D.dst .skip,pH,by rw[<-E];exact YY _ _ a2,hF.put a3,λ_ t r j J Y _=>(by rw[CP _ _ t Y];exact J),fin _ pH λt Y J=>(by rw[CP _ _ t Y];exact J),Y6 _ pH λt Y J=>(by rw[CP _ _ t Y];exact J)⟩
 ·cases h
def Any(P:Program)(N:Nat)(Φ:dJ)(ops:Array Oper)(K:S->Prop):Nat->Nat->S->Prop
 |0,L,σ=>(∀j,kR ops L j=false)/\K σ
 |f+1,L,σ=>((∀j,kR ops L j=false)->K σ)/\∀j,kR ops L j=true->∃o C,ops[j]?=some o/\cS P N Φ ops σ o some=some C/\Any P N Φ ops K f (L |||2 ^ j) C
theorem qE(L i j:Nat):(L ||| 2 ^ i).testBit j=(L.testBit j || decide (i=j)):=by
 rw[Nat.testBit_or,Nat.testBit_two_pow]
theorem FX{ops:Array Oper}{L j:Nat}:kR ops L j=true ↔ L.testBit j=false/\∃ o,ops[j]?=some o/\∀ e∈o.after,Region.binds .any e=true->L.testBit e.on=true:=by
 unfold kR;rw[aK,fM];refine and_congr Iff.rfl ?_;cases D:ops[j]? with
 |none=>simp
 | some o=>
  simp only[cv,fh,exists_eq_left'];constructor
  ·intro h e C hb;have:=h e (by simpa using C);rw[hb]at this
   simpa using this
  ·intro h e C;cases hb:Region.binds .any e with
   |false=>rfl
   |true=>simpa using h e (by simpa using C) hb
theorem Su{ops:Array Oper}{L i j:Nat}(h:kR ops L j=true)(C:j≠i):kR ops (L ||| 2 ^ i) j=true:=by
 rw[FX]at h ⊢;obtain⟨D,o,E,I⟩:=h
 refine⟨?_,o,E,λe J hb=>?_⟩
 ·rw[qE,D];simpa using λh=>C h.symm
 ·rw[qE,I e J hb];rfl
theorem mw.step{ops:Array Oper}{C:Oper}{v:A}(J:mw P ops C p pb v σ)(I:∀ σ:S,gI N σ C.dst v some=some (fB σ C.dst v)):cS P N Φ ops σ C some=some (fB σ C.dst v):=by
 unfold cS;rcases J with ⟨D,E,L,_,_,_⟩|⟨D,E⟩
 ·rw[D];show cR P N Φ σ C some=_;unfold cR;rw[E,ak];exact(L.at_ _).trans (I σ)
 ·rw[D,<-E];exact I σ
theorem Lw{K:S->Prop}{ops:Array Oper}{i W:Nat}{Q:Oper}(hi:ops[i]?=some Q)(hW:∀ j C,ops[j]?=some C->W.testBit j=true->∃ e∈C.after,Region.binds .any e=true/\(e.on=i\/W.testBit e.on=true))(E:S->S)(I:Nat->S->Prop)
  (r1:∀L σ,I L σ->cS P N Φ ops σ Q some=some (E σ))
  (r2:∀L σ j C T,I L σ->ops[j]?=some C->j≠i->L.testBit j=false->W.testBit j=false->cS P N Φ ops (E σ) C some=some T->∃J,cS P N Φ ops σ C some=some J/\T=E J/\I (L |||2 ^ j) J):
  ∀(f L:Nat) (σ:S),(∀j,W.testBit j=true->L.testBit j=false)->kR ops L i=true->I L σ->Any P N Φ ops K f (L |||2 ^ i) (E σ)->Any P N Φ ops K (f+1) L σ:=by
 intro f
 induction f with
 | zero=>
  intro L σ sx O U H
  refine⟨λh=>absurd (h i) (by rw[O];simp),λj Y=>?_⟩
  by_cases D:j=i
  ·subst D;exact⟨Q,_,hi,r1 L σ U,H⟩
  ·have:=Su Y D;rw[H.1 j]at this;cases this
 | succ f ih=>
  intro L σ sx O U H
  refine⟨λh=>absurd (h i) (by rw[O];simp),λj Y=>?_⟩
  by_cases D:j=i
  ·subst D;exact⟨Q,_,hi,r1 L σ U,H⟩
  ·obtain⟨C,T,Z,ju,H'⟩:=H.2 j (Su Y D);obtain⟨Y8,oj',Lx,mz⟩:=FX.1 Y;rw[Z]at Lx;injection Lx with Lx;subst Lx;have q9:W.testBit j=false:=by
    cases q9:W.testBit j with
    |false=>rfl
    | true=>
     obtain⟨e,he,hb,lI⟩:=hW j C Z q9;have h1:=mz e he hb;rcases lI with lI|lI
     ·rw[lI,(FX.1 O).1]at h1;cases h1
     ·rw[sx _ lI]at h1;cases h1
   obtain⟨J,hs,tQ,hI'⟩:=r2 L σ j C T U Z D Y8 q9 ju
   refine⟨C,J,Z,hs,ih (L |||2 ^ j) J (λk hk=>?_) (Su O (Ne.symm D)) hI' ?_⟩
   ·rw[qE,sx k hk];have:j≠k:=by rintro rfl;rw[q9]at hk;cases hk
    simpa using this
   ·rw[<-tQ];have:L ||| 2 ^ j ||| 2 ^ i=L ||| 2 ^ i ||| 2 ^ j:=by rw[Nat.or_assoc,Nat.or_comm (2 ^ j),<-Nat.or_assoc]
    rw[this];exact H'
theorem akB[Inhabited Wd](fo:fm P Φ){ok:Nat->Nat->Bool}{qD mj mm:Nat->Bool}{K:S->Prop}{ops:Array Oper}{i W:Nat}{I:Oper}{v:A}(hi:ops[i]?=some I)(hN:∀ σ:S,gI N σ I.dst v some=some (fB σ I.dst v))
  (hW:∀j C,ops[j]?=some C->W.testBit j=true->∃e∈C.after,Region.binds .any e=true/\(e.on=i\/W.testBit e.on=true)) (f L:Nat) (σ:S)
  (iA:∀t r,ok t r=true->∀j C,ops[j]?=some C->j≠i->L.testBit j=false->W.testBit j=false->C.dst≠some t/\dK C r=false/\isApp C=false)
  (Ly:∀x,mm x=true->∀j C,ops[j]?=some C->j≠i->L.testBit j=false->W.testBit j=false->C.dst≠some x) (hX:∀x,mm x=true->hD p (σ.t x))
  (Lz:∀t,qD t=true->∀j C,ops[j]?=some C->j≠i->L.testBit j=false->W.testBit j=false->C.dst≠some t\/(tN C=true/\p t=true)\/∃s x f,C.op = .fieldAddr s (.tmp x) f/\mm x=true)
  (LA:∀t,mj t=true->∀j C,ops[j]?=some C->j≠i->L.testBit j=false->W.testBit j=false->C.dst≠some t\/(m7 C=true/\p t=true/\pb t=true)\/(isApp C=true\/xQ Φ C=true))
  (Ai:∀j C,ops[j]?=some C->j≠i->L.testBit j=false->W.testBit j=false->I.apart ops C=true/\Calm Φ ok qD mj p pb σ C/\∀n,dK C n=true->p n=true/\pb n=true)
  (sx:∀j,W.testBit j=true->L.testBit j=false) (hr:kR ops L i=true) (hF:mw P ops I p pb v σ) (H:Any P N Φ ops K f (L |||2 ^ i) (fB σ I.dst v)):Any P N Φ ops K (f+1) L σ:=by
 refine Lw hi hW (λσ=>fB σ I.dst v)
  (λL σ=>mw P ops I p pb v σ/\(∀ t r,ok t r=true->∀ j C,ops[j]?=some C->j≠i->L.testBit j=false->W.testBit j=false->C.dst≠some t/\dK C r=false/\isApp C=false)/\
   ((∀x,mm x=true->∀j C,ops[j]?=some C->j≠i->L.testBit j=false->W.testBit j=false->C.dst≠some x)/\∀x,mm x=true->hD p (σ.t x))/\
   (∀t,qD t=true->∀j C,ops[j]?=some C->j≠i->L.testBit j=false->W.testBit j=false->C.dst≠some t\/(tN C=true/\p t=true)\/∃s x f,C.op = .fieldAddr s (.tmp x) f/\mm x=true)/\
   (∀t,mj t=true->∀j C,ops[j]?=some C->j≠i->L.testBit j=false->W.testBit j=false->C.dst≠some t\/(m7 C=true/\p t=true/\pb t=true)\/(isApp C=true\/xQ Φ C=true))/\
   ∀j C,ops[j]?=some C->j≠i->L.testBit j=false->W.testBit j=false->I.apart ops C=true/\Calm Φ ok qD mj p pb σ C/\∀n,dK C n=true->p n=true/\pb n=true)
  (λL σ h=>h.1.step hN) (λL σ j C τ h U Y Z q9 ju=>?_) f L σ sx hr ⟨hF,iA,⟨Ly,hX⟩,Lz,LA,Ai⟩ H
 obtain⟨hF,iA,⟨Ly,hX⟩,Lz,LA,Ai⟩:=h;obtain⟨c1,c2,c3⟩:=Ai j C U Y Z q9;obtain⟨dG,hs,tQ,hF',K1,kL,hta⟩:=akx (mm:=mm) fo hX hF c1 c2 c3 ju;have hL:∀ k,(L ||| 2 ^ j).testBit k=false->L.testBit k=false:=by
  intro k D;rw[qE,lZ]at D;exact D.1
 refine⟨dG,hs,tQ,hF',λt r E k J D O Q T=>iA t r E k J D O (hL k Q) T,⟨λx hx k J D O Q T=>Ly x hx k J D O (hL k Q) T,λx hx=>kL x (hX x hx) (.inl (Ly x hx j C U Y Z q9))⟩,λt E k J D O Q T=>Lz t E k J D O (hL k Q) T,λt E k J D O Q T=>LA t E k J D O (hL k Q) T,λk J D O Q T=>?_⟩
 obtain⟨d1,d2,d3⟩:=Ai k J D O (hL k Q) T
 refine⟨d1,d2.fN (λt r j' E h=>?_) (λt h E=>kL t E (Lz t h j C U Y Z q9)) (λt h E=>hta t E (LA t h j C U Y Z q9)),d3⟩
 obtain⟨e1,e2,e3⟩:=iA t r h j C U Y Z q9;exact K1 e3 t r j' E e1 e2
theorem Lf.oI(l:Lf)(a b:Nat):(l.drop a).drop b=(l.drop b).drop a:=by
 cases l with
 | own k=>
  have C:∀n,Lf.drop n (.own k)=(bif aY n k then .dead else .own k):=λ_=>rfl
  rw[C a,C b];cases D:aY a k<;>cases hb:aY b k<;>simp[Lf.drop,D,hb]
 |v x=>rfl
 |dead=>rfl
theorem gB.oI(l:aa Lf)(a b:Nat):(l.map (Lf.drop a)).map (Lf.drop b)=(l.map (Lf.drop b)).map (Lf.drop a):=by
 rw[List.map_map,List.map_map];exact ic λx _=>Lf.oI x a b
theorem A.oI(y:A)(a b:Nat):(y.drop a).drop b=(y.drop b).drop a:=by
 cases y with
 |lf x=>exact bD A.lf (Lf.oI x a b)
 |agg cs=>exact bD A.agg (gB.oI cs a b)
 | ct xs=>
  refine bD A.ct ?_;rw[List.map_map,List.map_map]
  refine ic λq _=>?_
  simp only[Function.comp];rw[gB.oI]
 | ptr k=>
  have C:∀n,A.drop n (.ptr k)=(bif aY n k then .undef else .ptr k):=λ_=>rfl
  rw[C a,C b];cases D:aY a k<;>cases hb:aY b k<;>simp[A.drop,D,hb]
 | view k s i j=>
  have C:∀n,A.drop n (.view k s i j)=(bif aY n k then .undef else .view k s i j):=λ_=>rfl
  rw[C a,C b];cases D:aY a k<;>cases hb:aY b k<;>simp[A.drop,D,hb]
 | pk r j=>
  have C:∀n,A.drop n (.pk r j)=(bif Nat.beq r n then .undef else .pk r j):=λ_=>rfl
  rw[C a,C b];cases D:Nat.beq r a<;>cases hb:Nat.beq r b<;>simp only[ak,aq,A.drop,D,hb]
 | aH r j=>
  have C:∀n,A.drop n (.aH r j)=(bif Nat.beq r n then .undef else .aH r j):=λ_=>rfl
  rw[C a,C b];cases D:Nat.beq r a<;>cases hb:Nat.beq r b<;>simp only[ak,aq,A.drop,D,hb]
 | fn f cap=>
  have C:∀n,A.drop n (.fn f cap)=(bif cap.any (λp=>Nat.beq p.1 n)then .undef else .fn f cap):=λ_=>rfl
  rw[C a,C b];cases D:cap.any (λp=>Nat.beq p.1 a)<;>cases hb:cap.any (λp=>Nat.beq p.1 b)<;>simp only[ak,aq,A.drop,D,hb]
 |_=>rfl
theorem aP.oI(y:aP)(a b:Nat):(y.drop a).drop b=(y.drop b).drop a:=by
 cases y with
 |ax cs=>exact bD aP.ax (gB.oI cs a b)
 |sl y=>rfl
 |mp l=>rfl
 | gh xs=>
  refine bD aP.gh ?_;rw[List.map_map,List.map_map];exact ic λx _=>A.oI x a b
theorem Lf.sy(l:Lf)(a:Nat)(ns cn:aa Nat):(l.drop a).bz ns cn=(l.bz ns cn).drop a:=by
 cases l with
 | own k=>
  have C:Lf.drop a (.own k)=(bif aY a k then .dead else .own k):=rfl;have D:Lf.bz ns cn (.own k)=(bif cy k cn ||(cy k ns && !(Nat.beq k.length 1))then .dead else .own k):=rfl;rw[C,D];cases E:aY a k<;>cases hb:(cy k cn ||(cy k ns && !(Nat.beq k.length 1)))<;>simp only[ak,aq,Lf.drop,Lf.bz,E,hb]
 |v x=>rfl
 |dead=>rfl
theorem gB.sy(l:aa Lf)(a:Nat)(ns cn:aa Nat):(l.map (Lf.drop a)).map (Lf.bz ns cn)=(l.map (Lf.bz ns cn)).map (Lf.drop a):=by
 rw[List.map_map,List.map_map];exact ic λx _=>Lf.sy x a ns cn
theorem A.sy(y:A)(a:Nat)(ns cn:aa Nat):(y.drop a).bz ns cn=(y.bz ns cn).drop a:=by
 cases y with
 |lf x=>exact bD A.lf (Lf.sy x a ns cn)
 |agg cs=>exact bD A.agg (gB.sy cs a ns cn)
 | ct xs=>
  refine bD A.ct ?_;rw[List.map_map,List.map_map]
  refine ic λq _=>?_
  simp only[Function.comp];rw[gB.sy]
 | ptr k=>
  have C:A.drop a (.ptr k)=(bif aY a k then .undef else .ptr k):=rfl;have D:A.bz ns cn (.ptr k)=(bif cy k cn ||cy k ns then .undef else .ptr k):=rfl;rw[C,D];cases E:aY a k<;>cases hb:(cy k cn ||cy k ns)<;>simp only[ak,aq,A.drop,A.bz,E,hb]
 | view k s i j=>
  have C:A.drop a (.view k s i j)=(bif aY a k then .undef else .view k s i j):=rfl;have D:A.bz ns cn (.view k s i j)=(bif cy k cn ||cy k ns then .undef else .view k s i j):=rfl;rw[C,D];cases E:aY a k<;>cases hb:(cy k cn ||cy k ns)<;>simp only[ak,aq,A.drop,A.bz,E,hb]
 | pk r j=>
  have C:A.drop a (.pk r j)=(bif Nat.beq r a then .undef else .pk r j):=rfl;have D:A.bz ns cn (.pk r j)=(bif bV r cn then .undef else .pk r j):=rfl;rw[C,D];cases E:Nat.beq r a<;>cases hb:bV r cn<;>simp only[ak,aq,A.drop,A.bz,E,hb]
 | aH r j=>
  have C:A.drop a (.aH r j)=(bif Nat.beq r a then .undef else .aH r j):=rfl;have D:A.bz ns cn (.aH r j)=(bif bV r cn then .undef else .aH r j):=rfl;rw[C,D];cases E:Nat.beq r a<;>cases hb:bV r cn<;>simp only[ak,aq,A.drop,A.bz,E,hb]
 | fn f cap=>
  have C:A.drop a (.fn f cap)=(bif cap.any (λp=>Nat.beq p.1 a)then .undef else .fn f cap):=rfl;have D:A.bz ns cn (.fn f cap)=(bif cap.any (λp=>bV p.1 cn)then .undef else .fn f cap):=rfl;rw[C,D];cases E:cap.any (λp=>Nat.beq p.1 a)<;>cases hb:cap.any (λp=>bV p.1 cn)<;>simp only[ak,aq,A.drop,A.bz,E,hb]
 |_=>rfl
theorem aP.sy(y:aP)(a:Nat)(ns cn:aa Nat):(y.drop a).bz ns cn=(y.bz ns cn).drop a:=by
 cases y with
 |ax cs=>exact bD aP.ax (gB.sy cs a ns cn)
 |sl y=>rfl
 |mp l=>rfl
 | gh xs=>
  refine bD aP.gh ?_;rw[List.map_map,List.map_map];exact ic λx _=>A.sy x a ns cn
theorem LB{a b:Nat}(h:a≠b):Nat.beq a b=false:=by
 cases hb:Nat.beq a b with
 |false=>rfl
 |true=>exact absurd (bQ hb) h
theorem mA.drop(h:mA e u){n:Nat}(C:e≠n):u.drop n=u:=by
 rcases h with rfl|rfl
 ·simp only[A.drop,LB C,aq]
 ·have:aY n [e]=false:=by simp[aY,C]
  simp only[A.drop,Lf.drop,this,aq]
theorem mA.bz(h:mA e u){ns cn:aa Nat}(D:bV e ns=false)(C:bV e cn=false):u.bz ns cn=u:=by
 rcases h with rfl|rfl
 ·simp only[A.bz,C,aq]
 ·have E:cy [e] ns=false:=D;have I:cy [e] cn=false:=C;simp only[A.bz,Lf.bz,E,I];rfl
theorem qF(k:Nat):(cz e x u σ).t k=if k=e then u else (σ.t k).drop e:=by
 by_cases C:k=e
 ·subst C;rw[bk rfl];exact bO _ _ _
 ·rw[bB C];exact cu _ _ _ C
theorem nc(n:Nat):(cz e x u σ).m n=if n=e then some x else (σ.m n).map (aP.drop e):=by
 show bL (λr=>bif Nat.beq r e then none else (σ.m r).map (aP.drop e)) e (some x) n=_;by_cases C:n=e
 ·subst C;rw[bk rfl,bO]
 ·rw[bB C,cu _ _ _ C,LB C];rfl
theorem Sv(c:Nat)(y:aP)(k:Nat):((σ.drop c).root c y).t k=(σ.t k).drop c:=rfl
theorem Sw(c:Nat)(y:aP)(n:Nat):((σ.drop c).root c y).m n=if n=c then some y else (σ.m n).map (aP.drop c):=by
 show bL (λr=>bif Nat.beq r c then none else (σ.m r).map (aP.drop c)) c (some y) n=_;by_cases C:n=c
 ·subst C;rw[bk rfl,bO]
 ·rw[bB C,cu _ _ _ C,LB C];rfl
theorem Y9{c:Nat}(z:V)(I:nR x)(J:mA e u)(L:e≠c):((cz e x u σ).drop c).root c (.sl z)=cz e x u ((σ.drop c).root c (.sl z)):=by
 refine S.ext' (λk=>?_) λn=>?_
 ·rw[Sv,qF,qF,Sv];by_cases C:k=e
  ·rw[bk C,bk C];exact J.drop L
  ·rw[bB C,bB C];exact A.oI _ _ _
 ·rw[Sw,nc,nc,Sw];by_cases D:n=c
  ·rw[bk D,bB (by omega),bk D];rfl
  ·rw[bB D];by_cases E:n=e
   ·rw[bk E,bk E];simp only[gF,I.drop]
   ·rw[bB E,bB E,bB D,Option.map_map,Option.map_map];congr 1;funext y;exact aP.oI y e c
theorem CR(C:nR x)(D:mA e u):∀ (xs:aa V) (c:Nat) (σ:S),e<c->fO c (cz e x u σ) xs=cz e x u (fO c σ xs)
 |[],c,σ,_=>rfl
 | y :: xs,c,σ,h=>by
  simp only[fO];cases E:y.aA with
  |true=>exact CR C D xs (c+1) σ (by omega)
  | false=>
   simp only[aq];rw[Y9 y C D (by omega)];exact CR C D xs (c+1) _ (by omega)
theorem LC(C:nR x)(D:mA e u):∀ (ps:aa Pt) (c:Nat) (σ:S),e<c->iK c (cz e x u σ) ps=cz e x u (iK c σ ps)
 |[],c,σ,_=>rfl
 | q :: ps,c,σ,h=>by
  simp only[iK];rw[CR C D _ _ _ h];exact LC C D ps _ _ (by omega)
theorem xV{v:A}(D:d≠e)(E:v.drop e=v):(cz e x u σ).set d v=cz e x u (σ.set d v):=by
 refine S.ext' (λk=>?_) λn=>?_
 ·show bL (cz e x u σ).t d v k=_;rw[qF];show _=if k=e then u else (bL σ.t d v k).drop e;by_cases C:k=d
  ·subst C;rw[bO,bB D,bO,E]
  ·rw[cu _ _ _ C,cu _ _ _ C,qF]
 ·show (cz e x u σ).m n=_;rw[nc,nc];rfl
theorem Sx{v:A}{C:aj Tmp}(D:C≠some e)(E:v.drop e=v):fB (cz e x u σ) C v=cz e x u (fB σ C v):=by
 cases C with
 |none=>rfl
 |some d=>exact xV (by rintro rfl;exact D rfl) E
theorem akC{ns cn:aa Nat}{nr:aa (Nat×aP)}(L:nR x)(O:mA e u)(E:bV e ns=false)(I:bV e cn=false)(J:∀ q∈nr,q.1≠e/\q.2.drop e=q.2):(cz e x u σ).bz ns cn nr=cz e x u (σ.bz ns cn nr):=by
 have hl:nr.lookup e=none:=by
  cases hl:nr.lookup e with
  |none=>rfl
  |some y=>exact absurd rfl (J _ (Lt hl)).1
 refine S.ext' (λk=>?_) λn=>?_
 ·show ((cz e x u σ).t k).bz ns cn=_;rw[qF,qF];by_cases C:k=e
  ·rw[bk C,bk C];exact O.bz E I
  ·rw[bB C,bB C];exact A.sy _ _ _ _
 ·rw[nc];show (match nr.lookup n with | some x=>some x | none=>bif bV n ns || bV n cn then none else ((cz e x u σ).m n).map (aP.bz ns cn))=if n=e then some x else (match nr.lookup n with | some x=>some x | none=>bif bV n ns || bV n cn then none else (σ.m n).map (aP.bz ns cn)).map (aP.drop e);by_cases D:n=e
  ·subst D;rw[bk rfl,hl,E,I];simp only[Bool.or_false,aq,nc,if_true,gF,L.bz]
  ·rw[bB D];cases Q:nr.lookup n with
   |some y=>simp only[gF];rw[(J _ (Lt Q)).2]
   | none=>
    simp only;cases (bV n ns ||bV n cn)with
    |true=>rfl
    | false=>
     simp only[aq];rw[nc,bB D,Option.map_map,Option.map_map];congr 1;funext y;exact aP.sy y e ns cn
/-! What a call reads. -/
theorem Za{q:aa Nat}{k:V->aj X}(h:aY e q=false):fK (cz e x u σ).m q k=fK σ.m q k:=vk q k h
theorem vo{y:Operand}(h:(aE σ y).nr p=true)(C:p e=true)(D:y ≠ .tmp e):aE (cz e x u σ) y=aE σ y:=by
 cases y with
 | tmp t=>
  show (cz e x u σ).t t=σ.t t;rw[qF,bB (by rintro rfl;exact D rfl)];exact A.lJ h C
 |_=>rfl
theorem Sz{l:Lf}{k:V->aj X}(h:l.nr p=true)(C:p e=true):gJ (cz e x u σ) l k=gJ σ l k:=by
 cases l with
 |own q=>exact Za (qZ h C)
 |_=>rfl
theorem Zb{q:aa Nat}{s i j:Nat}{k:V->aj X}(h:dI p q=true)(C:p e=true):qT (cz e x u σ) q s i j k=qT σ q s i j k:=by
 unfold qT;exact Za (qZ h C)
theorem akD{y:A}{k:V->aj X}(h:y.nr p=true)(C:p e=true):o6 (cz e x u σ) y k=o6 σ y k:=by
 cases y with
 |lf l=>exact Sz h C
 |view q s i j=>exact Zb h C
 |_=>rfl
theorem SA(C:p e=true):∀ (xs:aa Lf) (k:aa V->aj X),xs.all (Lf.nr p)=true->mV (cz e x u σ) xs k=mV σ xs k
 |[],k,_=>rfl
 | y :: xs,k,h=>by
  rw[List.all_cons,aK]at h;simp only[mV,Sz h.1 C];congr 1;funext z;exact SA C xs _ h.2
theorem akE{y:A}{k:Pt->aj X}(h:y.nr p=true)(C:p e=true):mb (cz e x u σ) y k=mb σ y k:=by
 cases y with
 |lf l=>simp only[mb];exact SA C _ _ (by simpa [A.nr]using h)
 |agg cs=>simp only[mb];exact SA C _ _ h
 |view q s i j=>simp only[mb];exact Zb h C
 |gG cs=>cases cs<;>rfl
 |_=>rfl
theorem SB(C:p e=true):∀ (xs:aa Operand) (k:aa Pt->aj X),(∀ y∈xs,(aE σ y).nr p=true/\y ≠ .tmp e)->jt (cz e x u σ) xs k=jt σ xs k
 |[],k,_=>rfl
 | y :: xs,k,h=>by
  obtain⟨D,E⟩:=h y (.head _);simp only[jt];rw[vo D C E,akE D C];congr 1;funext z;exact SB C xs _ (λy I=>h y (.tail _ I))
theorem SC{ns:aa Nat}(C:p e=true):∀ (xs:aa Lf) (k:aa V->aj X),xs.all (Lf.nr p)=true->oD (cz e x u σ) ns xs k=oD σ ns xs k
 |[],k,_=>rfl
 | y :: xs,k,h=>by
  rw[List.all_cons,aK]at h;simp only[oD,Sz h.1 C];congr 2;funext z;exact SC C xs _ h.2
theorem Zc{d:Nat}:∀ (xs:aa Lf),qe (xs.map (Lf.drop d))=qe xs
 |[]=>rfl
 | x :: xs=>by
  have C:(x.drop d).pl=x.pl:=by
   cases x with
   | own k=>
    show (bif aY d k then Lf.dead else Lf.own k).pl=_;cases aY d k<;>rfl
   |_=>rfl
  simp only[ig,qe,C,Zc xs]
theorem akF{ns:aa Nat}{y:A}{k:Pt->aj X}(h:y.nr p=true)(C:p e=true):nM (cz e x u σ) ns y k=nM σ ns y k:=by
 cases y with
 |lf l=>simp only[nM];exact SC C _ _ (by simpa [A.nr]using h)
 |agg cs=>simp only[nM];exact SC C _ _ h
 |ko f cs=>cases cs<;>rfl
 | fn f cap=>
  match cap,h with
  |[],_=>rfl
  |_::_::_,_=>rfl
  | [(D,j)],h=>
   have E:p D=false:=by simpa [A.nr]using h
   have I:D≠e:=by rintro rfl;rw[C]at E;cases E
   simp only[nM,nc,bB I];cases σ.m D with
   |none=>rfl
   | some z=>
    cases z with
    |ax cs=>simp only[gF,aP.drop,<-List.map_drop,Zc]
    |_=>rfl
 |_=>rfl
theorem akG{l:Lf}(h:l.nr p=true)(C:p e=true):tF (cz e x u σ).m l=tF σ.m l:=by
 cases l with
 | own k=>
  match k with
  |[]=>rfl
  | [q]=>
   have D:q≠e:=by
    have h:(!p q)=true:=by simpa [Lf.nr,dI]using h
    rintro rfl;rw[C]at h;cases h
   simp only[tF];rw[nc,bB D];cases σ.m q with
   |none=>rfl
   |some y=>cases y<;>rfl
  |_::_::_=>rfl
 |v x=>rfl
 |dead=>rfl
theorem Zd(D:p e=true):∀ (C:aa Lf),C.all (Lf.nr p)=true->qv (cz e x u σ).m C=qv σ.m C
 |[],_=>rfl
 | l :: C,h=>by
  rw[List.all_cons,aK]at h;simp only[qv,akG h.1 D,Zd D C h.2]
theorem Ze{m:Nat->aj aP}:∀ {cs:aa Lf} {E:aa (V×aj Nat)},qv m cs=some E->cs.all (Lf.nr p)=true->∀ v∈E,∀ q,v.2=some q->p q=false
 |[],E,h,_=>by injection h with h;subst h;simp
 | c :: cs,E,h,I=>by
  rw[List.all_cons,aK]at I;unfold qv at h;split at h
  ·rename_i v Q C L;injection h with h;subst h;intro u hu q D;rcases fF.1 hu with rfl | hu
   ·unfold tF at C;split at C
    ·injection C with C;rw[<-C]at D;cases D
    ·rename_i T;split at C
     ·rename_i y _;cases J:y.aA with
      |true=>rw[J]at C;injection C with C;rw[<-C]at D;cases D
      | false=>
       rw[J,aq]at C;injection C with C;rw[<-C]at D;injection D with D;subst D;have O:=I.1
       simpa [Lf.nr,dI]using O
     ·cases C
    ·cases C
   ·exact Ze L I.2 u hu q D
  ·cases h
def LD(p:Nat->Bool):Mu->Prop
 |.ax r cs C=>p r=false/\cs.all (Lf.nr p)=true/\∀v∈C,∀q,v.2=some q->p q=false
 |.sl q _=>p q=false
theorem SD(I:p e=true):∀ (ps:aa PK) (xs:aa Operand) (J:aa Mu),(∀ y∈xs,(aE σ y).nr p=true/\y ≠ .tmp e)->(∀ n∈gZ σ ps xs,vj σ p n=true)->jd σ ps xs=some J->jd (cz e x u σ) ps xs=some J/\∀ C∈J,LD p C
 |[],[],J,_,_,h=>⟨h,by injection h with h;subst h;simp⟩
 |[],_::_,J,_,_,h=>by cases h
 |_::_,[],J,_,_,h=>by cases h
 | q :: ps,y :: xs,J,Y,hl,h=>by
  obtain⟨E,h2⟩:=Y y (.head _);have Cn:∀ n∈gZ σ ps xs,vj σ p n=true:=by
   intro n T;refine hl n ?_;cases q with
   |v=>exact T
   |s=>exact T
   | p t g off=>
    simp only[gZ];split
    ·exact .tail _ T
    ·exact T
  unfold jd at h;have D:∀ z,tG σ q (aE σ y)=some z->tG (cz e x u σ) q (aE (cz e x u σ) y)=some z/\∀ C,z=some C->LD p C:=by
   intro z hz;rw[vo E I h2];have L:=tH hz;cases q with
   | v=>
    cases z with
    |some C=>exact L.elim
    |none=>exact⟨hz,by simp⟩
   | p t g off=>
    cases z with
    |none=>exact L.elim
    | some C=>
     cases C with
     |sl=>exact L.elim
     | ax Q cs vs=>
      obtain⟨O,hm,hg,hlen⟩:=L;have Z:p Q=false:=by
       rw[O]at E;have E:(!p Q)=true:=E
       simpa using E
      have dY:Q≠e:=by rintro rfl;rw[I]at Z;cases Z
      have U:cs.all (Lf.nr p)=true:=by
       have:=hl Q (by simp only[gZ,O];exact .head _);unfold vj at this;rw[hm]at this;exact this
      have qU:(cz e x u σ).m Q=some (.ax cs):=by
       rw[nc,bB dY,hm];simp only[gF,aP.drop,gB.lJ U I]
      refine⟨?_,λC D=>?_⟩
      ·rw[O];simp only[tG,Nat.beq_refl,ak,qU,Zd I cs U,hg];have:Nat.blt cs.length 999=true:=iE hlen;rw[this];rfl
      ·injection D with D;subst D;exact⟨Z,U,Ze hg U⟩
   | s t g=>
    cases z with
    |none=>exact L.elim
    | some C=>
     cases C with
     |ax=>exact L.elim
     | sl q y0=>
      obtain⟨O,hm,hf⟩:=L;have hq:p q=false:=by
       rw[O]at E;have E:(!p q)=true:=by simpa [A.nr,Lf.nr,dI]using E
       simpa using E
      have dY:q≠e:=by rintro rfl;rw[I]at hq;cases hq
      refine⟨?_,λC D=>?_⟩
      ·rw[O];simp only[tG];rw[nc,bB dY,hm];simp only[gF,aP.drop,hf,aq]
      ·injection D with D;subst D;exact hq
  split at h
  ·rename_i C K6 k1 k2;injection h with h;subst h;obtain⟨g1,g2⟩:=D _ k1;obtain⟨f1,f2⟩:=SD I ps xs K6 (λy h=>Y y (.tail _ h)) Cn k2
   refine⟨by simp only[jd,g1,f1],λm hm=>?_⟩
   rcases fF.1 hm with rfl|hm
   ·exact g2 _ rfl
   ·exact f2 m hm
  next K6 k1 k2=>injection h with h;subst h;obtain⟨g1,g2⟩:=D _ k1;obtain⟨f1,f2⟩:=SD I ps xs K6 (λy h=>Y y (.tail _ h)) Cn k2;exact⟨by simp only[jd,g1,f1],f2⟩
  ·cases h
theorem LF(D:p e=true)(ns:aa Nat):∀ (ps:aa PK) (xs:aa Operand) (C:aa Mu) (k:lF ps->aj X),(∀ y∈xs,(aE σ y).nr p=true/\y ≠ .tmp e)->gY (cz e x u σ) ns ps xs C k=gY σ ns ps xs C k
 |[],[],[],k,_=>rfl
 | .v b t :: ps,y :: xs,C,k,h=>by
  obtain⟨I,J⟩:=h y (.head _);simp only[gY];rw[vo I D J,akF I D];congr 1;funext z;congr 1;split
  ·exact LF D ns ps xs C _ (λy E=>h y (.tail _ E))
  ·rfl
 | .p t g off :: ps,y :: xs,.ax L cs O :: C,k,h=>by
  simp only[gY];split
  ·exact LF D ns ps xs C _ (λy E=>h y (.tail _ E))
  ·rfl
 | .s t g :: ps,y :: xs,.sl q Q :: C,k,h=>by
  simp only[gY];split
  ·exact LF D ns ps xs C _ (λy E=>h y (.tail _ E))
  ·rfl
 |[],[],_::_,k,_=>rfl
 |[],_::_,_,k,_=>rfl
 |.v _ _::_,[],_,k,_=>rfl
 |.p _ _ _::_,[],_,k,_=>rfl
 |.s _ _::_,[],_,k,_=>rfl
 |.p _ _ _::_,_::_,[],k,_=>rfl
 |.s _ _::_,_::_,[],k,_=>rfl
 |.p _ _ _::_,_::_,.sl _ _::_,k,_=>rfl
 |.s _ _::_,_::_,.ax _ _ _::_,k,_=>rfl
theorem SE{i:Nat}:∀ (C:aa (V×aj Nat)) (j:Nat),(∀ v∈C,∀ q,v.2=some q->p q=false)->∀ u∈Cx i j C,p u.1=false
 |[],_,_,u,hu=>by cases hu
 |(y,none)::C,j,h,u,hu=>SE C (j+1) (λv D=>h v (.tail _ D)) u hu
 | (y,some q) :: C,j,h,u,hu=>by
  rcases fF.1 hu with rfl|hu
  ·exact h _ (.head _) q rfl
  ·exact SE C (j+1) (λv D=>h v (.tail _ D)) u hu
theorem SF:∀ (C:aa Mu) (i:Nat),(∀ E∈C,LD p E)->∀ u∈kr i C,p u.1=false
 |[],_,_,u,hu=>by cases hu
 | .ax O cs I :: C,i,h,u,hu=>by
  obtain⟨J,Q,L⟩:=h _ (.head _);rcases fF.1 hu with rfl|hu
  ·exact J
  ·rcases List.mem_append.1 hu with hu | hu
   ·exact SE I 0 L u hu
   ·exact SF C (i+1) (λm D=>h m (.tail _ D)) u hu
 | .sl q y :: C,i,h,u,hu=>by
  rcases fF.1 hu with rfl|hu
  ·exact h _ (.head _)
  ·exact SF C (i+1) (λm D=>h m (.tail _ D)) u hu
theorem SG{c0:Nat}(D:∀ n,c0<=n->p n=false):∀ (C:aa (V×aj Nat)) (n:Nat),(∀ v∈C,∀ q,v.2=some q->p q=false)->∀ u∈me c0 n C,p u=false
 |[],_,_,u,hu=>by cases hu
 | (y,none) :: C,n,h,u,hu=>by
  rcases fF.1 hu with rfl|hu
  ·exact D _ (by omega)
  ·exact SG D C (n+1) (λv E=>h v (.tail _ E)) u hu
 | (y,some q) :: C,n,h,u,hu=>by
  rcases fF.1 hu with rfl|hu
  ·exact h _ (.head _) _ rfl
  ·exact SG D C (n+1) (λv E=>h v (.tail _ E)) u hu
theorem SH:∀ (C:aa Nat) (xs:aa V),∀ u∈tJ C xs,u∈C
 |[],[],u,hu=>by cases hu
 |[],_::_,u,hu=>by cases hu
 |_::_,[],u,hu=>by cases hu
 | n :: C,y :: xs,u,hu=>by
  simp only[tJ]at hu;cases D:y.aA with
  |true=>rw[D]at hu;exact .tail _ (SH C xs u hu)
  | false=>
   rw[D,aq]at hu;rcases fF.1 hu with rfl|hu
   ·exact .head _
   ·exact .tail _ (SH C xs u hu)
theorem Zf{ns cn:aa Nat}:∀ (C:aa Nat) (D:aa Lf) (xs:aa V),(∀ n∈C,p n=false)->D.all (Lf.nr p)=true->(oE ns cn C D xs).all (Lf.nr p)=true
 |[],_,_,_,_=>by simp[oE]
 |_::_,[],_,_,_=>by simp[oE]
 |_::_,_::_,[],_,_=>by simp[oE]
 | n :: C,l :: D,y :: xs,I,E=>by
  rw[List.all_cons,aK]at E;simp only[oE,List.all_cons,aK]
  refine⟨?_,Zf C D xs (λn J=>I n (.tail _ J)) E.2⟩
  cases y.plain with
  |true=>rfl
  | false=>
   simp only[aq];cases y.aA with
   | true=>
    simp only[ak];cases l with
    | own k=>
     have L:Lf.bz ns cn (.own k)=(bif cy k cn ||(cy k ns && !(Nat.beq k.length 1))then .dead else .own k):=rfl;rw[L];cases (cy k cn ||(cy k ns && !(Nat.beq k.length 1)))with
     |true=>rfl
     |false=>exact E.1
    |v x=>rfl
    |dead=>rfl
   | false=>
    simp only[aq,Lf.nr,dI,List.getLast?_singleton];rw[I n (.head _)];rfl
theorem SI:∀ (C:aa Nat) (xs:aa V),∀ u∈sn C xs,u.1∈C/\∃ y,u.2 = .sl y
 |[],[],u,hu=>by cases hu
 |[],_::_,u,hu=>by cases hu
 |_::_,[],u,hu=>by cases hu
 | n :: C,y :: xs,u,hu=>by
  simp only[sn]at hu;cases I:y.aA with
  |true=>rw[I]at hu;obtain⟨D,E⟩:=SI C xs u hu;exact⟨.tail _ D,E⟩
  | false=>
   rw[I,aq]at hu;rcases fF.1 hu with rfl|hu
   ·exact⟨.head _,_,rfl⟩
   ·obtain⟨D,E⟩:=SI C xs u hu;exact⟨.tail _ D,E⟩
theorem SJ{c0:Nat}{ns cn:aa Nat}(E:p e=true)(L:∀ n,c0<=n->p n=false):∀ (D:aa Mu) (outs:aa In) (C:Nat),(∀ mu∈D,LD p mu)->(∀ u∈mg c0 C D outs,p u=false)/\∀ u∈kQ ns cn c0 C D outs,u.1≠e/\u.2.drop e=u.2
 |[],outs,C,_=>⟨(λu hu=>by simp[mg]at hu),(λu hu=>by simp[kQ]at hu)⟩
 |.ax _ _ _::_,[],C,_=>⟨(λu hu=>by cases hu),(λu hu=>by cases hu)⟩
 |.sl _ _::_,[],C,_=>⟨(λu hu=>by cases hu),(λu hu=>by cases hu)⟩
 |.ax _ _ _::_,.sl _::_,C,_=>⟨(λu hu=>by cases hu),(λu hu=>by cases hu)⟩
 |.sl _ _::_,.ax _::_,C,_=>⟨(λu hu=>by cases hu),(λu hu=>by cases hu)⟩
 | .ax r' cs U :: D,.ax xs :: outs,C,h=>by
  obtain⟨I,h2,h3⟩:=h _ (.head _);obtain⟨O,J⟩:=SJ (ns:=ns) (cn:=cn) E L D outs (C+1+U.length) (λm Q=>h m (.tail _ Q));have Y:∀n,p n=false->n≠e:=by rintro n Z rfl;rw[E]at Z;cases Z
  have T:=SG L U (C+1) h3
  refine⟨λu hu=>?_,λu hu=>?_⟩
  ·simp only[mg]at hu;rcases List.mem_append.1 hu with hu | hu
   ·exact T u (SH _ _ u hu)
   ·exact O u hu
  ·simp only[kQ]at hu;rcases fF.1 hu with rfl | hu
   ·refine⟨Y _ I,?_⟩;simp only[aP.drop];rw[gB.lJ (Zf _ _ _ T h2) E]
   ·rcases List.mem_append.1 hu with hu | hu
    ·obtain⟨g1,y,g2⟩:=SI _ _ u hu;exact⟨Y _ (T _ g1),by rw[g2];rfl⟩
    ·exact J u hu
 | .sl q y :: D,.sl y' :: outs,C,h=>by
  have I:p q=false:=h _ (.head _);obtain⟨O,J⟩:=SJ (ns:=ns) (cn:=cn) E L D outs (C+1) (λm Q=>h m (.tail _ Q))
  refine⟨λu hu=>O u (by simpa [mg]using hu),λu hu=>?_⟩
  simp only[kQ]at hu;cases hy:y'.jK with
  |false=>rw[hy]at hu;exact J u hu
  |true=>
  rw[hy]at hu;rcases fF.1 hu with rfl|hu
  ·exact⟨(by rintro rfl;rw[E]at I;cases I),rfl⟩
  ·exact J u hu
theorem CS:∀ (xs:aa V) (c:Nat),e<c->(jO c xs).map (Lf.drop e)=jO c xs
 |[],_,_=>rfl
 | y :: xs,c,h=>by
  simp only[jO,ig];rw[CS xs (c+1) (by omega)];cases y.aA with
  |true=>rfl
  | false=>
   have:aY e [c]=false:=by simp[aY];omega
   simp only[aq,Lf.drop,this]
theorem LG{b:Bool}{xs:aa Lf}{y:A}(h:qg (b,xs)=some y)(D:xs.map (Lf.drop e)=xs):y.drop e=y:=by
 unfold qg at h;split at h
 next C=>injection h with h;subst h;simp only[gT]at C;obtain⟨_,rfl⟩:=C;exact bD A.agg D
 next z C=>injection h with h;subst h;simp only[gT]at C;obtain⟨_,rfl⟩:=C;simp only[ig,List.map_nil,List.cons.injEq,and_true]at D;exact bD A.lf D
 ·cases h
theorem Zg:∀ (ps:aa Pt) (c:Nat),e<c->(kN c ps).map (λq=>(q.1,q.2.map (Lf.drop e)))=kN c ps
 |[],_,_=>rfl
 | q :: ps,c,h=>by
  simp only[kN,ig];rw[CS _ _ h,Zg ps _ (by omega)]
theorem LH(ps:aa Pt)(c:Nat)(h:e<c):A.drop e (.ct (kN c ps)) = .ct (kN c ps):=bD A.ct (Zg ps c h)
theorem akH(E:nR x)(I:mA e u)(T:e<20000){C:aj Tmp}(O:C≠some e){res:fS}{D:S}(h:mh N σ C res some=some D):mh N (cz e x u σ) C res some=some (cz e x u D):=by
 cases C with
 | none=>
  have h:some σ=some D:=h;injection h with h;rw[<-h];rfl
 | some d=>
  have J:d≠e:=by rintro rfl;exact O rfl
  unfold mh at h ⊢;cases L:Nat.blt d N with
  |false=>simp only[L,aq]at h;cases h
  | true=>
   simp only[L,ak]at h ⊢;cases res with
   | one q=>
    simp only at h ⊢;split at h
    next y Q=>injection h with h;subst h;rw[CR E I _ _ _ (by omega),xV J (LG Q (CS _ _ (by omega)))]
    ·cases h
   | ct ps=>
    injection h with h;subst h;simp only;rw[LC E I _ _ _ (by omega),xV J (LH _ _ (by omega))]
theorem akI(fo:fm P Φ)(Z:nR x)(O:mA e u)(he:e<20000)(Q:p e=true)(FY:∀ n,20000<=n->p n=false)(C:m8 Φ o=true)(hd:o.dst≠some e)(q8:∀ y∈o.op.operands,(aE σ y).nr p=true/\y ≠ .tmp e)(hl:∀ n∈oG Φ σ o,vj σ p n=true){τ:S}
  (h:cR P N Φ σ o some=some τ):cR P N Φ (cz e x u σ) o some=some (cz e x u τ):=by
 have xW:∃ f args gW,o.op = .call { callee:=.value (.func f),args:=args,argTypes:=gW }:=by
  unfold m8 at C;split at C
  ·exact⟨_,_,_,by assumption⟩
  ·cases C
 obtain⟨f,args,gW,D⟩:=xW;have kO:∀ y∈args.toList,(aE σ y).nr p=true/\y ≠ .tmp e:=by
  intro y U;refine q8 y ?_;rw[D];simp only[Op.operands,Call.operands];simp only[Array.mem_append]
  first
   |exact .inr (by simpa using U)
   |exact .inl (by simpa using U)
 have dB:∀ σ2,cR P N Φ σ2 o some=gC P N Φ σ2 o some:=by
  intro σ2;unfold cR;rw[show fk o.op=false by rw[D];rfl,aq]
 rw[dB]at h ⊢;cases I:Φ f with
 |none=>simp only[gC,D,I]at h;cases h
 | some c=>
  cases c with
  |n F=>rw[m8,D]at C;simp[I]at C
  |v c=>rw[m8,D]at C;simp[I]at C
  |i c=>rw[m8,D]at C;simp[I]at C
  |d c=>rw[m8,D]at C;simp[I]at C
  |q c=>rw[m8,D]at C;simp[I]at C
  |c c=>rw[m8,D]at C;simp[I]at C
  | p c=>
   simp only[gC,D,I]at h ⊢;obtain⟨d,Y,h⟩:=fT h;have FZ:d≠e:=by rintro rfl;exact hd Y
   obtain⟨res,pG,J,E,h3⟩:=CF (fo f _ I).2 h;injection E with E;subst E;simp only[ef,Y]
   refine(h3 (cz e x u σ) (cz e x u pG) (λX k=>SB Q _ k kO) ?_).at_ _
   unfold nO at J ⊢;cases res with
   | one q=>
    simp only at J ⊢;split at J
    next y U=>injection J with J;subst J;rw[CR Z O _ _ _ (by omega),xV FZ (LG U (CS _ _ (by omega)))]
    ·cases J
   | ct ps=>
    injection J with J;subst J;simp only;rw[LC Z O _ _ _ (by omega),xV FZ (LH _ _ (by omega))]
  | m c=>
   simp only[gC,D,I]at h ⊢;have xB:∀ n∈gZ σ c.ps args.toList,vj σ p n=true:=by
    intro n T;refine hl n ?_;simp only[oG,D,I];exact T
   unfold lH at h;split at h
   ·rename_i L so;obtain⟨g1,g2⟩:=SD (x:=x) (u:=u) Q c.ps args.toList L kO xB so;cases lI:(once (kr 0 L)&&Nat.ble L.length 40)with
    |false=>rw[lI]at h;cases h
    | true=>
     rw[lI,ak]at h;obtain⟨z,E,F0⟩:=zY _ _ _ _ h;simp only[lH,g1,lI,ak];rw[LF Q _ _ _ _ _ kO];refine(F0 S _).trans ?_;split at E
     ·rename_i y U;unfold xz at E ⊢;generalize oz:mg (gA o.dst) (eI c.ro y.1).len L (gX (eE c.ps) y.2)=cn at E;generalize iA:zL N L (gX (eE c.ps) y.2) cn=ok at E;cases ok with
      |false=>cases E
      | true=>
       rw[ak]at E;have sj:∀ n,gA o.dst<=n->p n=false:=by
        intro n T;refine FY n ?_;cases Y:o.dst with
        |none=>rw[Y]at T;simp only[gA]at T;omega
        |some d=>rw[Y]at T;simp only[gA]at T;omega
       obtain⟨k1,k2⟩:=SJ (ns:=(kr 0 L).map (·.1)) (cn:=cn) Q sj L (gX (eE c.ps) y.2) (eI c.ro y.1).len g2;rw[oz]at k1;rw[ak,akC Z O ?_ ?_ k2]
       ·exact akH Z O he hd E
       ·cases hm:bV e ((kr 0 L).map (·.1))with
        |false=>rfl
        | true=>
         obtain⟨u,O,e1⟩:=List.mem_map.1 (sk.1 hm);have:=SF L 0 g2 u O;rw[e1,Q]at this;cases this
       ·cases hm:bV e cn with
        |false=>rfl
        |true=>have:=k1 e (sk.1 hm);rw[Q]at this;cases this
     ·cases E
   ·cases h
theorem A.LI{y:A}(h:y.fk=true)(n:Nat):y.drop n=y:=by
 cases y with
 |lf l=>cases l<;>first|rfl|cases h
 | agg cs=>
  refine bD A.agg ?_
  conv=>rhs;rw[<-List.map_id cs]
  refine ic λl hl=>?_
  have:=cv.1 h l hl;cases l<;>first|rfl|cases this
 |_=>cases h
theorem A.akJ{y:A}(h:y.fk=true)(ns cn:aa Nat):y.bz ns cn=y:=by
 cases y with
 |lf l=>cases l<;>first|rfl|cases h
 | agg cs=>
  refine bD A.agg ?_
  conv=>rhs;rw[<-List.map_id cs]
  refine ic λl hl=>?_
  have:=cv.1 h l hl;cases l<;>first|rfl|cases this
 |_=>cases h
theorem F1:∀ (xs:aa V) (c:Nat) (σ:S) {t:Nat},(σ.t t).fk=true->(fO c σ xs).t t=σ.t t
 |[],c,σ,t,h=>rfl
 | y :: xs,c,σ,t,h=>by
  simp only[fO];cases y.aA with
  |true=>exact F1 xs (c+1) σ h
  | false=>
   simp only[aq];have C:(((σ.drop c).root c (.sl y)).t t)=σ.t t:=by rw[Sv];exact A.LI h c
   rw[F1 xs (c+1) _ (by rw[C];exact h),C]
theorem SK:∀ (ps:aa Pt) (c:Nat) (σ:S) {t:Nat},(σ.t t).fk=true->(iK c σ ps).t t=σ.t t
 |[],c,σ,t,h=>rfl
 | q :: ps,c,σ,t,h=>by
  simp only[iK];have C:=F1 q.2 c σ h;rw[SK ps _ _ (by rw[C];exact h),C]
theorem akK{C:aj Tmp}{res:fS}{D:S}(h:mh N σ C res some=some D){t:Nat}(E:(σ.t t).fk=true)(L:C≠some t):D.t t=σ.t t:=by
 cases C with
 | none=>
  have h:some σ=some D:=h;injection h with h;rw[<-h]
 | some d=>
  have I:t≠d:=by rintro rfl;exact L rfl
  unfold mh at h;cases J:Nat.blt d N with
  |false=>simp only[J,aq]at h;cases h
  | true=>
   simp only[J,ak]at h;cases res with
   | one q=>
    simp only at h;split at h
    next y O=>injection h with h;subst h;exact(cu _ _ _ I).trans (F1 _ _ _ E)
    ·cases h
   | ct ps=>
    injection h with h;subst h;exact(cu _ _ _ I).trans (SK _ _ _ E)
theorem akL(fo:fm P Φ)(C:m8 Φ o=true){Q:S}(h:cR P N Φ σ o some=some Q){t:Nat}(L:(σ.t t).fk=true)(T:o.dst≠some t):Q.t t=σ.t t:=by
 have xW:∃ f args U,o.op = .call { callee:=.value (.func f),args:=args,argTypes:=U }:=by
  unfold m8 at C;split at C
  ·exact⟨_,_,_,by assumption⟩
  ·cases C
 obtain⟨f,args,U,E⟩:=xW;have dB:cR P N Φ σ o some=gC P N Φ σ o some:=by
  unfold cR;rw[show fk o.op=false by rw[E];rfl,aq]
 rw[dB]at h;cases I:Φ f with
 |none=>simp only[gC,E,I]at h;cases h
 | some c=>
  cases c with
  |n F=>rw[m8,E]at C;simp[I]at C
  |v c=>rw[m8,E]at C;simp[I]at C
  |i c=>rw[m8,E]at C;simp[I]at C
  |d c=>rw[m8,E]at C;simp[I]at C
  |q c=>rw[m8,E]at C;simp[I]at C
  |c c=>rw[m8,E]at C;simp[I]at C
  | p c=>
   simp only[gC,E,I]at h;obtain⟨d,sw,h⟩:=fT h;obtain⟨res,pG,J,D,h3⟩:=CF (fo f _ I).2 h;injection D with D;subst D;have Y:t≠d:=by rintro rfl;exact T sw
   unfold nO at J;cases res with
   | one q=>
    simp only at J;split at J
    next y hy=>injection J with J;subst J;exact(cu _ _ _ Y).trans (F1 _ _ _ L)
    ·cases J
   | ct ps=>
    injection J with J;subst J;exact(cu _ _ _ Y).trans (SK _ _ _ L)
  | m c=>
   simp only[gC,E,I]at h;unfold lH at h;split at h
   ·rename_i O so;cases Z:(once (kr 0 O)&&Nat.ble O.length 40)with
    |false=>rw[Z]at h;cases h
    | true=>
     rw[Z,ak]at h;obtain⟨z,D,F0⟩:=zY _ _ _ _ h;split at D
     ·rename_i y hy;unfold xz at D;generalize zL N O (gX (eE c.ps) y.2) (mg (gA o.dst) (eI c.ro y.1).len O (gX (eE c.ps) y.2))=ok at D;cases ok with
      |false=>cases D
      | true=>
       rw[ak]at D;have e1:∀ns cn nr,(σ.bz ns cn nr).t t=σ.t t:=λns cn nr=>A.akJ L ns cn
       have:=akK (t:=t) D (by rw[e1];exact L) T;rw[this,e1]
     ·cases D
   ·cases h
theorem akM{E:Nat}{I:aP}{J:A}(L:nR x)(O:mA e u)(Q:nR I)(T:mA E J)(h:e≠E):cz E I J (cz e x u σ)=cz e x u (cz E I J σ):=by
 refine S.ext' (λk=>?_) λn=>?_
 ·simp only[qF];by_cases C:k=E
  ·subst C;rw[bk rfl,bB (Ne.symm h),bk rfl,T.drop (Ne.symm h)]
  ·rw[bB C];by_cases D:k=e
   ·subst D;rw[bk rfl,bk rfl,O.drop h]
   ·rw[bB D,bB D,bB C,A.oI]
 ·simp only[nc];by_cases C:n=E
  ·subst C;rw[bk rfl,bB (Ne.symm h),bk rfl,gF,Q.1]
  ·rw[bB C];by_cases D:n=e
   ·subst D;rw[bk rfl,bk rfl,gF,L.1]
   ·rw[bB D,bB D,bB C];cases σ.m n with
    |none=>rfl
    |some y=>simp only[gF,aP.oI]
theorem akN(J:nR x)(L:mA e u)(O:p e=true)(Q:m7 o=true)(T:o.dst≠some e)(C:∀ y∈o.op.operands,(aE σ y).nr p=true/\y ≠ .tmp e){D:S}
  (h:cR P N Φ σ o some=some D):cR P N Φ (cz e x u σ) o some=some (cz e x u D):=by
 obtain⟨U,x',u',Y,Cw,Z,pg,ju,mz⟩:=FV (o:={ o with guard:=none }) (ops:=#[]) (σ:=σ) (Φ:=Φ) (P:=P) (N:=N) Q rfl h;have dY:e≠U:=by rintro rfl;exact T Y
 have E:=mz (cz e x u σ) rfl λy I=>vo (C y I).1 O (C y I).2
 rw[akM J L Z pg dY,<-ju]at E;exact E
theorem akO(D:m7 o=true){C:S}(h:cR P N Φ σ o some=some C){t:Nat}(E:(σ.t t).fk=true)(I:o.dst≠some t):C.t t=σ.t t:=by
 obtain⟨J,T,U,L,Y,Z,pg,O,mz⟩:=FV (o:={ o with guard:=none }) (ops:=#[]) (σ:=σ) (Φ:=Φ) (P:=P) (N:=N) D rfl h;have Q:t≠J:=by rintro rfl;exact I L
 rw[O,qF,bB Q,A.LI E]
theorem akP(U:nR x)(Y:mA e u)(C:p e=true)(Z:isApp o=true)(hd:o.dst≠some e)(J:∀ y∈o.op.operands,(aE σ y).nr p=true/\y ≠ .tmp e){L:S}
  (h:cR P N Φ σ o some=some L):cR P N Φ (cz e x u σ) o some=some (cz e x u L):=by
 obtain⟨a,b,t,t',I,hn,kK,hk⟩:=Sr Z;have E:=J a (by rw[I];simp[Op.operands,Call.operands]);have hb:=J b (by rw[I];simp[Op.operands,Call.operands]);rw[FW I hn kK hk]at h ⊢;obtain⟨d,O,h⟩:=fT h;obtain⟨r,v,ju,hr,mz⟩:=Lv h;have Q:d≠e:=by rintro rfl;exact hd O
 have T:r≠e:=by
  rcases hr with h1|h1
  ·rw[h1];exact Q
  ·rintro rfl;have D:=E.1;rw[h1]at D;simp[A.nr,Lf.nr,dI,C]at D
 unfold ef;rw[O];simp only;rw[vo E.1 C E.2,vo hb.1 C hb.2,mz (cz e x u σ) (λk=>akD hb.1 C) (λr' v' gH qU=>?_)]
 ·rw[Y9 v U Y (Ne.symm T),xV Q ?_,ju];have:aY e [r]=false:=by simp[aY,T]
  simp only[A.drop,Lf.drop,this,aq]
 ·have dY:r'≠e:=by
   rintro rfl;have D:=E.1;rw[gH]at D;simp[A.nr,Lf.nr,dI,C]at D
  rw[nc,bB dY,qU];rfl
theorem akQ(D:isApp o=true){C:S}(h:cR P N Φ σ o some=some C){t:Nat}(E:(σ.t t).fk=true)(I:o.dst≠some t):C.t t=σ.t t:=by
 obtain⟨a,b,Z,t2,J,L,O,Q⟩:=Sr D;rw[FW J L O Q]at h;obtain⟨d,T,h⟩:=fT h;obtain⟨r,v,U,hr,mz⟩:=Lv h;have Y:t≠d:=by rintro rfl;exact I T
 rw[U];show bL ((σ.drop r).root r (.sl v)).t d _ t=_;rw[cu _ _ _ Y];exact A.LI E r
theorem Zh(C:∃ ty t y,o.op = .store ty (.tmp t) y/\o.dst=none/\∃ r j,σ.t t = .aH r j){I:S}(h:cR P N Φ σ o some=some I):∃ t y r j cs xs,o.op.operands = #[.tmp t,y]/\σ.t t = .aH r j/\(aE σ y).w6=some xs/\σ.m r=some (.ax cs)/\I=σ.root r (.ax (splice cs j xs))/\
  ∀(σ2:S) (D:aa Lf),σ2.t t = .aH r j->aE σ2 y=aE σ y->σ2.m r=some (.ax D)->D.length=cs.length->cR P N Φ σ2 o some=some (σ2.root r (.ax (splice D j xs))):=by
 obtain⟨ty,t,y,C,Q,r,j,J⟩:=C;have L:∀ σ2:S,σ2.t t = .aH r j->cR P N Φ σ2 o some=mU P σ2 ty (.aH r j) (aE σ2 y) some:=by
  intro σ2 E;unfold cR;rw[show fk o.op=false by rw[C];rfl,aq];simp only[gC,C,Q];have T:aE σ2 (.tmp t) = .aH r j:=E;rw[T,show tL (.aH r j) (aE σ2 y)=false from rfl,aq]
 rw[L σ J]at h;unfold mU at h;split at h
 ·rename_i n xs U O;split at h
  ·rename_i hlen;simp only at h;split at h
   ·rename_i cs Y;split at h
    ·rename_i Z;cases hl:xs.all Lf.live with
     |false=>rw[hl]at h;cases h
     | true=>
      rw[hl,ak]at h;injection h with h
      refine⟨t,y,r,j,cs,xs,by rw[C];rfl,J,O,Y,h.symm,λσ2 D h1 E h3 h4=>?_⟩
      rw[L σ2 h1,E];simp only[mU,U,O,bk hlen,h3];rw[bk (by rw[h4];exact Z),hl];rfl
    ·cases h
   ·cases h
  ·cases h
 ·cases h
theorem Zi(D:FN o=true)(C:vi σ o=true):∃ ty t y,o.op = .store ty (.tmp t) y/\o.dst=none/\∃ r j,σ.t t = .aH r j:=by
 unfold FN at D;rw[aK]at D;obtain⟨E,J⟩:=D;split at E
 ·rename_i ty t y I;refine⟨ty,t,y,I,Option.isNone_iff_eq_none.1 J,?_⟩;unfold vi at C;rw[I]at C;simp only at C;split at C
  ·exact⟨_,_,by assumption⟩
  ·cases C
 ·cases E
theorem akR{y:A}{xs:aa Lf}(h:y.w6=some xs)(C:y.nr p=true):xs.all (Lf.nr p)=true:=by
 cases y with
 |lf l=>injection h with h;subst h;simpa [A.nr]using C
 |agg cs=>injection h with h;subst h;exact C
 |_=>cases h
theorem akS(hx:nR x)(hu:mA e u)(C:p e=true)(Y:FN o=true)(Z:vi σ o=true)(J:∀ y∈o.op.operands,(aE σ y).nr p=true/\y ≠ .tmp e){L:S}
  (h:cR P N Φ σ o some=some L):cR P N Φ (cz e x u σ) o some=some (cz e x u L):=by
 obtain⟨t,y,r,j,cs,xs,O,Q,g3,g4,g5,g6⟩:=Zh (Zi Y Z) h;have D:=J (.tmp t) (by rw[O];simp);have E:=J y (by rw[O];simp);have e1:(cz e x u σ).t t = .aH r j:=(vo D.1 C D.2).trans Q;have T:r≠e:=by
  have U:(aE σ (.tmp t)).nr p=true:=D.1;have h3:aE σ (.tmp t) = .aH r j:=Q;rw[h3]at U;exact akg U C
 have e3:(cz e x u σ).m r=some (.ax (cs.map (Lf.drop e))):=by
  rw[nc,bB T,g4];rfl
 have qf:=gB.lJ (akR g3 E.1) C;rw[g6 (cz e x u σ) _ e1 (vo E.1 C E.2) e3 (by rw[cZ]),g5];congr 1
 refine S.ext' (λk=>?_) λn=>?_
 ·show (cz e x u σ).t k=(cz e x u (σ.root r (.ax (splice cs j xs)))).t k;rw[qF,qF];rfl
 ·show bL (cz e x u σ).m r (some (.ax (splice (cs.map (Lf.drop e)) j xs))) n=(cz e x u (σ.root r (.ax (splice cs j xs)))).m n;rw[nc];by_cases I:n=r
  ·subst I;rw[bO,bB T];show _=(bL σ.m n (some (aP.ax (splice cs j xs))) n).map (aP.drop e);rw[bO];simp only[gF,aP.drop,splice,List.map_append,List.map_take,List.map_drop,qf]
  ·rw[cu _ _ _ I,nc];have:(σ.root r (.ax (splice cs j xs))).m n=σ.m n:=cu _ _ _ I;rw[this]
theorem akT(D:FN o=true)(E:vi σ o=true){C:S}(h:cR P N Φ σ o some=some C)(t:Nat):C.t t=σ.t t:=by
 obtain⟨_,_,r,j,cs,xs,_,_,_,_,I,_⟩:=Zh (Zi D E) h;rw[I];rfl
theorem akU(Q:fm P Φ)(C:nR x)(D:mA e u)(T:e<20000)(E:p e=true)(U:∀ n,20000<=n->p n=false)(J:FO Φ o=true)(Y:vi σ o=true)(L:o.dst≠some e)(I:∀ y∈o.op.operands,(aE σ y).nr p=true/\y ≠ .tmp e)(hl:∀ n∈oG Φ σ o,vj σ p n=true){O:S}
  (h:cR P N Φ σ o some=some O):cR P N Φ (cz e x u σ) o some=some (cz e x u O):=by
 unfold FO at J;rw[dy,dy,dy]at J;rcases J with ((hc|hc)|hc)|hc
 ·exact akI Q C D T E U hc L I hl h
 ·exact akN C D E hc L I h
 ·exact akP C D E hc L I h
 ·exact akS C D E hc Y I h
theorem akV(J:fm P Φ)(C:FO Φ o=true)(L:vi σ o=true){I:S}(h:cR P N Φ σ o some=some I){t:Nat}(D:(σ.t t).fk=true)(E:o.dst≠some t):I.t t=σ.t t:=by
 unfold FO at C;rw[dy,dy,dy]at C;rcases C with ((hc|hc)|hc)|hc
 ·exact akL J hc h D E
 ·exact akO hc h D E
 ·exact akQ hc h D E
 ·exact akT hc L h t
end
end Go.Proofs.YtglnbhiaknohlaaGreat
