/-
  Running the program over pure contents, and that it follows (part 4). Nothing here is a claim.
-/
import Derived.Test.YtcioagfjiccleaaGreatV3
set_option linter.unusedSimpArgs false
namespace Go.Proofs.YtcioagfjiccleaaGreat
open Go.RowKit
set_option linter.unusedVariables false
abbrev eS:=Nat->aj sg
def ig(P:Program)(Φ:eS):Prop:=∀f c,Φ f=some c->enters P f/\Ty P f c
def fD{X:Type}(o:Oper)(k:Nat->aj X):aj X:=
 match o.dst with
 |some d=>k d
 |none=>none
def gH:Op->Bool
 |.move _|.assign _|.pick .. |.build .. |.load .. |.binOp .. |.unOp .. |.convert .. |.fieldAddr .. |.field .. |.indexAddr .. |.index .. |.extract .. |.nilCheck _=>true
 |.call ⟨.builtin .len,_,_⟩|.call ⟨.builtin .max,_,_⟩|.call ⟨.builtin .min,_,_⟩=>true
 |.slice _ _ _ _ none=>true
 |_=>false
def eU{X:Type}(P:Program)(σ:S)(op:Op)(k:A->aj X):aj X:=
 match op with
 |.move x=>k (aF σ x)
 |.assign x=>k (aF σ x)
 | .pick c x y=>(match aF σ c with
  |.lf (.v (.bool b))=>bif b then k (aF σ x)else k (aF σ y)
  |_=>none)
 |.build t parts=>wN P σ t parts.toList k
 |.load t x=>lu P σ t (aF σ x) k
 |.binOp op t x y _=>om P σ op t (aF σ x) (aF σ y) k
 |.unOp op _ x=>vK (aF σ x) λa=>EM op a λz=>k (.lf (.v z))
 |.convert s d x=>pY P σ s d (aF σ x) k
 |.fieldAddr s x f=>wI P s (aF σ x) f k
 |.field s x f=>AF P s (aF σ x) f k
 |.indexAddr t x i=>qF P σ t (aF σ x) (aF σ i) k
 |.index t x i=>Cz P t (aF σ x) (aF σ i) k
 |.extract x i=>ym (aF σ x) i k
 |.nilCheck x=>MU (aF σ x) k
 |.call ⟨.builtin .len,⟨[x]⟩,⟨[t]⟩⟩=>pW P σ t (aF σ x) k
 |.call ⟨.builtin .max,⟨[x,y]⟩,⟨[_,_]⟩⟩=>Cy true (aF σ x) (aF σ y) k
 |.call ⟨.builtin .min,⟨[x,y]⟩,⟨[_,_]⟩⟩=>Cy false (aF σ x) (aF σ y) k
 |.slice t x lo hi none=>sX P σ t (aF σ x) (lo.map (aF σ)) (hi.map (aF σ)) k
 |_=>none
def jF{X:Type}(P:Program)(N:Nat)(Φ:eS)(σ:S)(o:Oper)(k:S->aj X):aj X:=
 match o.op with
 |.alloc e=>fD o λd=>uq P N σ d e k
 |.box e x=>fD o λd=>CR N σ d (aF σ x) k
 |.buildSlice t len parts=>fD o λd=>bif qe t then AX P N σ d t len parts.toList k else Cx P N σ d t len parts.toList k
 | .store t x y=>(match o.dst with
  |none=>bif xg (aF σ x) (aF σ y)then tq P σ t (aF σ x) (aF σ y) k else o7 P σ t (aF σ x) (aF σ y) k
  |some _=>none)
 |.makeSlice t l c=>fD o λd=>Cq P N σ d t (aF σ l) (aF σ c) k
 | .call ⟨.value (.func f),args,_⟩=>(match Φ f with
  |some (.p c)=>fD o λd=>AN N σ d c args.toList k
  |some (.m c)=>nM N σ o.dst c args.toList k
  |some (.v c)=>fD o λd=>CV N σ d c args.toList k
  | some (.n F)=>fD o λd=>(match args.toList with
   |[x]=>CT N σ d F (aF σ x) k
   |_=>none)
  |some (.i c)=>CX N σ o.dst c (args.toList.map (aF σ)++[]) k
  |some (.d c)=>CP N σ o.dst c args.toList k
  |some (.q c)=>fD o λd=>sZ N σ d c args.toList k
  |some (.c c)=>CY N σ o.dst c args.toList k
  |none=>none)
 |.call ⟨.builtin .append,⟨[x,y]⟩,⟨[t,t']⟩⟩=>bif Nat.beq t t' then fD o λd=>bif qe t then AY P N σ d t (aF σ x) (aF σ y) k else bif IS t d x then A4 P N σ d t (aF σ x) (aF σ y) k else rW P N σ d t (aF σ x) (aF σ y) k else none
 |.makeMap _ none=>fD o λd=>M3 N σ d k
 |.lookup t x i false=>IP P σ t (aF σ x) (aF σ i) λv=>jM N σ o.dst v k
 | .mapUpdate t x i v=>(match o.dst with
  |none=>IQ P σ t (aF σ x) (aF σ i) (aF σ v) k
  |some _=>none)
 | .call ⟨.value (.tmp t),args,_⟩=>(match M0 (aF σ (.tmp t))with
  | some (f,ex)=>(match Φ f with
   |some (.i c)=>CX N σ o.dst c (args.toList.map (aF σ)++ex) k
   |_=>none)
  |none=>none)
 | .makeFunc (.func f) ⟨[]⟩ IT=>(match IM σ IT.toList with
  |some ps=>jM N σ o.dst (.fn f ps) k
  |none=>none)
 |.call ⟨.builtin .clear,⟨[x]⟩,⟨[t]⟩⟩=>Cw P σ t (aF σ x) λaz=>jM N az o.dst .undef k
 |_=>none
def dG{X:Type}(P:Program)(N:Nat)(Φ:eS)(σ:S)(o:Oper)(k:S->aj X):aj X:=
 bif gH o.op then eU P σ o.op λv=>jM N σ o.dst v k else jF P N Φ σ o k
def pH{X:Type}(P:Program)(N:Nat)(Φ:eS)(σ:S)(o:Oper)(k:S->aj X):aj X:=
 match o.op,o.dst with
 | .store t x y,none=>(match aF σ y with
  |.view [q] s i j=>A1 P σ q s i j t (aF σ x) k
  |_=>dG P N Φ σ o k)
 |.slice t x (some lo) (some hi) (some mx),some d=>A3 P σ t (aF σ x) (aF σ lo) (aF σ hi) (aF σ mx) (bif Nat.blt d N then k (σ.set d .undef)else none)
 |_,_=>dG P N Φ σ o k
def gO(σ:S)(ops:Array Oper)(o:Oper):aj Bool:=
 match o.guard with
 |none=>some true
 | some (j,want)=>match (ops[j]?).bind (·.dst)with
  | some t=>(match σ.t t with
   |.lf (.v (.bool b))=>some (b==want)
   |.skip=>some false
   |_=>none)
  |none=>none
def IU(ops:Array Oper)(j:Nat):Bool:=ops.toList.any λo=>match o.guard with
 |some (i,_)=>Nat.beq i j
 |none=>false
def qf{X:Type}(σ:S)(dst:aj Tmp)(g:Bool)(k:S->aj X):aj X:=
 bif g then (match dst with
  | some d=>(match σ.t d with
   |.lf (.v (.bool b))=>bif b then k (σ.set d (.lf (.v (.bool true))))else k (σ.set d (.lf (.v (.bool false))))
   |_=>k σ)
  |none=>k σ)else k σ
def xj{X:Type}(P:Program)(N:Nat)(Φ:eS)(ops:Array Oper):Nat->af Oper->S->(S->aj X)->aj X
 |_,[],σ,k=>k σ
 | j,o :: rest,σ,k=>match gO σ ops o with
  |some true=>pH P N Φ σ o λaz=>qf az o.dst (IU ops j) λuD=>xj P N Φ ops (j+1) rest uD k
  |some false=>jM N σ o.dst .skip λaz=>xj P N Φ ops (j+1) rest az k
  |none=>none
/-! Regions whose order is open: what is listed is a set of bits. -/
def dI{X:Type}(P:Program)(N:Nat)(Φ:eS)(ops:Array Oper)(σ:S)(o:Oper)(k:S->aj X):aj X:=
 match gO σ ops o with
 |some true=>dG P N Φ σ o k
 |some false=>jM N σ o.dst .skip k
 |none=>none
def nO(ops:Array Oper)(L j:Nat):Bool:=!L.testBit j&&(match ops[j]? with
 |some o=>o.after.toList.all λe=>!Region.binds .any e ||L.testBit e.on
 |none=>false)
def IV(ops:Array Oper)(i W j:Nat):Bool:=(match ops[j]? with
 |some o=>o.after.toList.any λe=>Region.binds .any e&&(Nat.beq e.on i ||W.testBit e.on)
 |none=>false)
def waits(ops:Array Oper)(i:Nat):Nat->Nat->Nat->Nat
 |0,_,W=>W
 |n+1,j,W=>waits ops i n (j+1) (bif IV ops i W j then W |||2 ^ j else W)
def eF(o:Oper)(n:Nat):Bool:=match o.dst with
 | some d=>(match o.op with
  |.alloc _|.box .. |.buildSlice .. |.makeSlice ..=>Nat.beq n d
  |.call ⟨.value (.func _),_,_⟩=>Nat.ble (1000000000100000+1000*d) n
  |.call ⟨.builtin .append,_,_⟩=>Nat.beq n d
  |_=>false)
 |none=>false
def M7(Φ:eS)(op:Op):Bool:=gH op || (match op with
 |.alloc _|.box .. |.buildSlice .. |.makeSlice ..=>true
 | .call ⟨.value (.func f),_,_⟩=>(match Φ f with
  |some (.p _)=>true
  |some (.q _)=>true
  |_=>false)
 |_=>false)
def jG(g:Oper->Bool)(ops:Array Oper)(i L W:Nat):Nat->Nat->Bool
 |0,_=>false
 | f+1,j=>(!(Nat.beq j i || L.testBit j || W.testBit j)&&(match ops[j]? with
  |some oj=>g oj
  |none=>false)) ||jG g ops i L W f (j+1)
def IW(g:Oper->Bool)(ops:Array Oper)(oi:Oper)(i L W:Nat):Nat->Nat->Bool
 |0,_=>true
 | n+1,j=>(Nat.beq j i || L.testBit j || (bif W.testBit j then IV ops i W j else (match ops[j]? with
  |some oj=>g oj&&oi.apart ops oj
  |none=>true)))&&IW g ops oi i L W n (j+1)
def M8(c:pG):Bool:=c.ps.all λp=>match p with
 |.v _ _=>true
 |.p _ g _=>Nat.beq g 0
 |.s _ _=>false
def tu(ok:Nat->Nat->Bool)(σ:S):af PK->af Operand->Bool
 | .p _ _ _ :: ps,.tmp t :: xs=>(match σ.t t with
  |.aG r _=>ok t r
  |_=>false)&&tu ok σ ps xs
 |.v _ _::ps,_::xs=>tu ok σ ps xs
 |[],[]=>true
 |_,_=>false
def jS(σ:S):af PK->af Operand->af Nat
 | .p _ _ _ :: ps,x :: xs=>(match aF σ x with
  |.aG r _=>r::jS σ ps xs
  |_=>jS σ ps xs)
 |_::ps,_::xs=>jS σ ps xs
 |_,_=>[]
def qX(Φ:eS)(σ:S)(o:Oper):af Nat:=match o.op with
 | .call ⟨.value (.func f),args,_⟩=>(match Φ f with
  |some (.m c)=>jS σ c.ps args.toList
  |_=>[])
 |_=>[]
def mh(t:Nat)(o:Oper):Bool:=match o.dst with
 |some d=>Nat.beq d t
 |none=>false
def xk(o:Oper):Bool:=(match o.op with
 |.alloc _=>true
 |_=>false)&&o.guard.isNone&&(match o.dst with
 |some d=>Nat.blt d 20000
 |none=>false)
def qg(o:Oper):Bool:=(match o.op with
 |.alloc _=>true
 |.buildSlice t _ _=>!qe t
 |.makeSlice ..=>true
 |_=>false)&&(match o.dst with
 |some d=>Nat.blt d 20000
 |none=>false)
def isApp(o:Oper):Bool:=match o.op with
 |.call ⟨.builtin .append,⟨[x,_]⟩,⟨[t,t']⟩⟩=>!qe t&&Nat.beq t t' && !C1 o.dst t x
 |_=>false
def TG(Φ:eS)(ops:Array Oper)(i L W:Nat)(σ:S)(o:Oper):Bool:=match o.op with
 | .call ⟨.value (.func f),args,_⟩=>(match Φ f with
  |some (.m c)=>M8 c&&tu (λt r=>!jG (mh t) ops i L W ops.size 0 && !jG (λok=>eF ok r) ops i L W ops.size 0 && !jG isApp ops i L W ops.size 0) σ c.ps args.toList
  |_=>false)
 |_=>false
def A.mj(p pb:Nat->Bool):A->Bool
 |.lf x=>x.nr p
 |.agg cs=>cs.all (Lf.nr p)
 |.cP xs=>xs.all λq=>q.2.all (Lf.nr p)
 |.ptr k=>eY p k
 |.aG r _=>!pb r
 |.pk r _=>!pb r
 |.view k _ _ _=>eY p k
 |.fn _ cap=>cap.all λq=>!pb q.1
 |_=>true
def A5(σ:S)(o:Oper):af Nat:=match o.op with
 | .store _ (.tmp t) _=>(match σ.t t with
  |.aG r _=>[r]
  |_=>[])
 | .call ⟨.builtin .append,⟨[.tmp t,_]⟩,⟨[_,_]⟩⟩=>(match σ.t t with
  |.lf (.own [r])=>[r]
  |_=>[])
 |_=>[]
def M9(σ:S)(o:Oper):af Nat:=match o.op with
 | .call ⟨.builtin .append,⟨[.tmp t,_]⟩,⟨[_,_]⟩⟩=>(match σ.t t with
  |.lf (.own [r])=>[r]
  |_=>[])
 |_=>[]
def ajr(t:Nat)(o:Oper):Bool:=match o.op with
 |.store _ (.tmp t') _=>Nat.beq t' t
 |_=>false
def faR(ops:Array Oper)(i L W:Nat)(σ:S)(o:Oper):af Nat:=match o.op,o.dst with
 | .fieldAddr _ (.tmp x) _,some t=>bif jG (ajr t) ops i L W ops.size 0 then (match σ.t x with
  |.aG r _=>[r]
  |_=>[])else []
 |_,_=>[]
def A6(Φ:eS)(ops:Array Oper)(i L W:Nat)(σ:S)(n:Nat):Bool:=
 jG (λo=>eF o n) ops i L W ops.size 0 ||jG (λo=>cc n (qX Φ σ o) ||cc n (A5 σ o)) ops i L W ops.size 0
def xl(Φ:eS)(ops:Array Oper)(i L W:Nat)(σ:S)(n:Nat):Bool:=
 A6 Φ ops i L W σ n ||jG (λo=>cc n (faR ops i L W σ o)) ops i L W ops.size 0
def yR(σ:S)(ops:Array Oper)(i L W n:Nat):Bool:=jG (λo=>eF o n) ops i L W ops.size 0 ||jG (λo=>cc n (M9 σ o)) ops i L W ops.size 0
def A7(Φ:eS)(o:Oper):Bool:=match o.op with
 | .call ⟨.value (.func f),_,_⟩=>(match Φ f with
  |some (.p _)=>true
  |_=>false)
 |_=>false
def oB(Φ:eS)(ops:Array Oper)(i L W t:Nat):Bool:=!jG (λok=>mh t ok && !(qg ok ||isApp ok ||A7 Φ ok)) ops i L W ops.size 0
def TH(Φ:eS)(ops:Array Oper)(i L W:Nat)(o:Oper):Bool:=match o.op with
 |.call ⟨.builtin .append,⟨[.tmp t,_]⟩,⟨[ty,ty']⟩⟩=>oB Φ ops i L W t&&(!qe ty&&Nat.beq ty ty' && !C1 o.dst ty (.tmp t))
 |_=>false
def oC(Φ:eS)(ops:Array Oper)(i L W:Nat)(σ:S)(x:Nat):Bool:=!jG (mh x) ops i L W ops.size 0&&(match σ.t x with
 |.aG r _=>xl Φ ops i L W σ r
 |.jB _=>true
 |_=>false)
def Na(Φ:eS)(ops:Array Oper)(i L W:Nat)(σ:S)(o:Oper):Bool:=match o.op with
 |.fieldAddr _ (.tmp x) _=>oC Φ ops i L W σ x
 |_=>false
def Nb(Φ:eS)(ops:Array Oper)(i L W:Nat)(σ:S)(t:Nat):Bool:=!jG (λok=>mh t ok && !(xk ok ||Na Φ ops i L W σ ok)) ops i L W ops.size 0
def HP(Φ:eS)(ops:Array Oper)(i L W:Nat)(σ:S)(o:Oper):Bool:=match o.op with
 | .store _ (.tmp t) _=>o.dst.isNone&&Nb Φ ops i L W σ t&&(match σ.t t with
  |.ptr _=>false
  |_=>true)
 |_=>false
def TI(σ:S)(p:Nat->Bool)(o:Oper):Bool:=o.op.operands.toList.all λx=>(aF σ x).nr p
def TJ(σ:S)(p pb:Nat->Bool)(o:Oper):Bool:=(o.op.operands.toList.all λx=>(aF σ x).mj p pb)&&(match o.op with
 | .load _ x=>(match aF σ x with
  |.aG r _=>!p r
  |_=>true)
 |_=>true)
def aac(Φ:eS)(ops:Array Oper)(L:Nat)(σ:S)(i:Nat):Bool:=match ops[i]? with
 | some oi=>(gH oi.op || (match gO σ ops oi with
  |some b=>!b
  |none=>false))&&Nat.beq ((L |||2 ^ i) &&& waits ops i ops.size 0 0) 0&&IW (λoj=>M7 Φ oj.op ||TG Φ ops i L (waits ops i ops.size 0 0) σ oj ||HP Φ ops i L (waits ops i ops.size 0 0) σ oj ||TH Φ ops i L (waits ops i ops.size 0 0) oj) ops oi i L (waits ops i ops.size 0 0) ops.size 0&&TJ σ (xl Φ ops i L (waits ops i ops.size 0 0) σ) (yR σ ops i L (waits ops i ops.size 0 0)) oi
 |none=>false
def A8{X:Type}(P:Program)(N:Nat)(Φ:eS)(ops:Array Oper)(L i:Nat)(σ:S)(o:Oper)(k:S->aj X):aj X:=
 match gO σ ops o with
 |some true=>eU P σ o.op λv=>bif v.mj (xl Φ ops i L (waits ops i ops.size 0 0) σ) (yR σ ops i L (waits ops i ops.size 0 0))then jM N σ o.dst v k else none
 |some false=>jM N σ o.dst .skip k
 |none=>none
/-! A call may be taken first where all that is free beside it are new blocks. -/
def A.gH:A->Bool
 |.lf (.v _)=>true
 | .agg cs=>cs.all λl=>match l with
  |.v _=>true
  |_=>false
 |_=>false
def TK(ops:Array Oper)(i L W:Nat)(σ:S)(o:Oper):Bool:=qg o&&(match gO σ ops o with
 |some b=>b
 | none=>false)&&(o.op.operands.toList.all λx=>(aF σ x).gH&&(match x with
  |.tmp t=>!jG (mh t) ops i L W ops.size 0
  |_=>true))&&(match o.guard with
 | some (g,_)=>(match (ops[g]?).bind (·.dst)with
  |some t=>!jG (mh t) ops i L W ops.size 0
  |none=>true)
 |none=>true)
def pI(Φ:eS)(o:Oper):Bool:=match o.op with
 | .call ⟨.value (.func f),_,_⟩=>(match Φ f with
  |some (.p _)=>true
  |some (.m _)=>true
  |_=>false)
 |_=>false
def IX(o:Oper):Bool:=(match o.op with
 |.store _ (.tmp _) _=>true
 |_=>false)&&o.dst.isNone
def yS(σ:S)(o:Oper):Bool:=match o.op with
 | .store _ (.tmp t) _=>(match σ.t t with
  |.aG _ _=>true
  |_=>false)
 |_=>true
def IY(Φ:eS)(o:Oper):Bool:=pI Φ o ||qg o ||isApp o ||IX o
def yT(σ:S)(p:Nat->Bool)(r:Nat):Bool:=match σ.m r with
 |some (.ax cs)=>cs.all (Lf.nr p)
 |_=>true
def E7(o:Oper)(n:Nat):Bool:=mh n o
def aad(Φ:eS)(ops:Array Oper)(L:Nat)(σ:S)(i:Nat):Bool:=match ops[i]? with
 | some oi=>IY Φ oi&&Nat.beq ((L ||| 2 ^ i) &&& waits ops i ops.size 0 0) 0&&IW (TK ops i L (waits ops i ops.size 0 0) σ) ops oi i L (waits ops i ops.size 0 0) ops.size 0 &&
   TI σ (λn=>jG (λo=>E7 o n) ops i L (waits ops i ops.size 0 0) ops.size 0) oi&&(qX Φ σ oi).all (yT σ (λn=>jG (λo=>E7 o n) ops i L (waits ops i ops.size 0 0) ops.size 0))&&yS σ oi
 |none=>false
def tv(x:A)(n:Nat):aj V:=match x with
 | .cP xs=>(match xs[n]? with
  |some (false,[.v z])=>some z
  |_=>none)
 |_=>none
def TL(ops:Array Oper)(L:Nat)(σ:S)(i:Nat):Bool:=match ops[i]?,(List.range ops.size).filter (λj=>!(Nat.beq j i || L.testBit j))with
 | some oi,[j0]=>(match oi.op,oi.dst,oi.guard,ops[j0]? with
  | .extract (.tmp x) n,some _,none,some oj=>(match oj.op,oj.dst,oj.guard with
   |.store _ a b,none,none=>(tv (σ.t x) n).isSome&&xg (aF σ a) (aF σ b)&&oi.apart ops oj
   |_,_,_=>false)
  |_,_,_,_=>false)
 |_,_=>false
def mm{X:Type}(P:Program)(N:Nat)(Φ:eS)(ops:Array Oper):Nat->Nat->S->(S->aj X)->aj X
 | 0,L,σ,k=>(match (List.range ops.size).filter (nO ops L)with
  |[]=>k σ
  |_=>none)
 | f+1,L,σ,k=>(match (List.range ops.size).filter (nO ops L)with
  |[]=>k σ
  | [i]=>(match ops[i]? with
   |some o=>dI P N Φ ops σ o λaz=>qf az o.dst (IU ops i) λuD=>mm P N Φ ops f (L |||2 ^ i) uD k
   |none=>none)
  | rs=>(match rs.find? (aac Φ ops L σ)with
   | some i=>(match ops[i]? with
    |some o=>A8 P N Φ ops L i σ o λaz=>qf az o.dst (IU ops i) λuD=>mm P N Φ ops f (L |||2 ^ i) uD k
    |none=>none)
   | none=>(match rs.find? (aad Φ ops L σ)with
    | some i=>(match ops[i]? with
     |some o=>dI P N Φ ops σ o λaz=>qf az o.dst (IU ops i) λuD=>mm P N Φ ops f (L |||2 ^ i) uD k
     |none=>none)
    | none=>(match rs.find? (TL ops L σ)with
     | some i=>(match ops[i]? with
      |some o=>dI P N Φ ops σ o λaz=>qf az o.dst (IU ops i) λuD=>mm P N Φ ops f (L |||2 ^ i) uD k
      |none=>none)
     |none=>none))))
/-! A new slice of constants may come first,beside values and calls of contents. -/
structure uE where
 run:(X:Type)->S->(Exit->S->Option X)->Option X
abbrev oD:=Nat->aj uE
def iT{X:Type}(P:Program)(N:Nat)(Φ:eS)(Λ:oD):Code->S->(Exit->S->aj X)->aj X
 |.skip,σ,k=>k .normal σ
 |.label _,σ,k=>k .normal σ
 |.ret,σ,k=>k .ret σ
 |.exit id,σ,k=>k (.exit id) σ
 |.region _ ops false,σ,k=>xj P N Φ ops 0 ops.toList σ λaz=>k .normal az
 |.region _ ops true,σ,k=>bif P.follows .mixedOrders then mm P N Φ ops ops.size 0 σ λaz=>k .normal az else none
 | .seq x y,σ,k=>iT P N Φ Λ x σ λe az=>match e with
  |.normal=>iT P N Φ Λ y az k
  |e=>k e az
 | .cond c x y,σ,k=>match aF σ c with
  |.lf (.v (.bool b))=>bif b then iT P N Φ Λ x σ k else iT P N Φ Λ y σ k
  |_=>none
 | .block id c,σ,k=>match Λ id with
  |some b=>b.run X σ k
  | none=>iT P N Φ Λ c σ λe az=>match e with
   |.exit tw=>if tw=id then k .normal az else k (.exit tw) az
   |e=>k e az
 |_,_,_=>none
def AW(P:Program)(w0:Wd)(N:Nat)(c:Code)(σ:S)(K:Exit->S->Prop):Prop:=
 ∀a w,R w0 N σ a w->c.wp P (λe a' w'=>∃az,K e az/\R w0 N az a' w') a w
def occs:Code->af (Nat×Code)
 |.seq x y=>occs x++occs y
 |.cond _ x y=>occs x++occs y
 |.block id c=>(id,c)::occs c
 |_=>[]
def C3(P:Program)(N:Nat)(c:Code)(b:uE):Prop:=∀(X:Type) σ k (r:X) w0,b.run X σ k=some r->AW P w0 N c σ λe az=>k e az=some r
def qY(P:Program)(N:Nat)(Λ:oD)(l:af (Nat×Code)):Prop:=∀p∈l,∀b,Λ p.1=some b->C3 P N (.block p.1 p.2) b
section
variable {P:Program} {w w':World} {w0:Wd} {B N:Nat} {ah aC:bE} {ρ ρ':Nat->Loc} {σ:S} {a:Act} {X:Type} {d:Nat} {r:X} {o:Oper} {Φ:eS} {Λ:oD}
theorem nE.mem{az:S}(hd:o.dst=some d)(h:∀ ah ρ a w,Rl w0 N ah ρ σ a w->∃ w' aC ρ' v,(execOp a.eval o).run P w = .ok (.value v) w'/\Rl w0 N aC ρ' az (a.put (some d) v) w'):nE P w0 N o σ az:=by
 intro a w K Q hR hK;obtain⟨ah,ρ,hR⟩:=hR;obtain⟨w',aC,ρ',v,bq,aO⟩:=h ah ρ a w hR;unfold Oper.wp;rw[bq,Oper.upon_value,hd];exact hK _ _ ⟨aC,ρ',aO⟩
theorem iU{k:Nat->aj X}(h:fD o k=some r):∃ d,o.dst=some d/\k d=some r:=by
 unfold fD at h;split at h
 next d hd=>exact⟨d,hd,h⟩
 ·cases h
theorem nP{s:Sem Value}{v:Value}(h:s.run P w = .ok v w'):(do pure (.value (<-s)):Sem Next).run P w = .ok (.value v) w':=by
 rw[fz,h];rfl
theorem IZ{op:Op}{k:A->aj X}(h:eU P σ op k=some r):∃ v,k v=some r/\cD (λX k=>eU (X:=X) P σ op k) v/\∀ ah ρ a w (o:Oper),o.op=op->Rl w0 N ah ρ σ a w->∃ u,(execOp a.eval o).run P w = .ok (.value u) w/\RA w w0.heap.size ah ρ v u:=by
 unfold eU at h;split at h
 next x=>exact⟨_,h,λX k=>rfl,λah ρ a w o ho hR=>⟨a.eval x,by simp[execOp,ho],hR.aF x⟩⟩
 next x=>exact⟨_,h,λX k=>rfl,λah ρ a w o ho hR=>⟨a.eval x,by simp[execOp,ho],hR.aF x⟩⟩
 ·rename_i c x y;split at h
  ·rename_i b hb
   refine⟨bif b then aF σ x else aF σ y,by cases b<;>exact h,λX k=>by simp only[eU,hb];cases b<;>rfl,λah ρ a w o ho hR=>?_⟩
   have hc:=hR.aF c;rw[hb]at hc;have hv:=hc.2.Ay;cases b with
   |true=>exact⟨a.eval x,by simp[execOp,ho,hv,asBool],hR.aF x⟩
   |false=>exact⟨a.eval y,by simp[execOp,ho,hv,asBool],hR.aF y⟩
  ·cases h
 ·rename_i t parts;obtain⟨y,h1,hd⟩:=aiK h;obtain⟨y',ef,hs⟩:=ahD (w0:=w0) (N:=N) (k:=λz=>some z) (r:=y) (hd.at_ _);injection ef with ef;subst ef
  refine⟨_,h1,λX k=>hd.at_ _,λah ρ a w o ho hR=>?_⟩
  obtain⟨v,bq,aO⟩:=hs ah ρ a w hR;exact⟨v,by simp only[execOp,ho];exact nP bq,aO⟩
 ·rename_i t x;obtain⟨y,h1,hd⟩:=IG h;obtain⟨y',ef,hs⟩:=YK (w0:=w0) (N:=N) (k:=λz=>some z) (r:=y) (hd.at_ _);injection ef with ef;subst ef
  refine⟨_,h1,λX k=>hd.at_ _,λah ρ a w o ho hR=>?_⟩
  obtain⟨v,bq,aO⟩:=hs ah ρ a w hR _ (hR.aF x);exact⟨v,by simp only[execOp,ho];exact nP bq,aO⟩
 ·rename_i op t x y yt;obtain⟨z,h1,hd⟩:=aiE h;obtain⟨z',ef,hs⟩:=ahP (w0:=w0) (N:=N) (k:=λz=>some z) (r:=z) (hd.at_ _);injection ef with ef;subst ef
  refine⟨_,h1,λX k=>hd.at_ _,λah ρ a w o ho hR=>?_⟩
  obtain⟨t',bq,hr⟩:=hs ah ρ a w hR x y _ _ (hR.aF x) (hR.aF y);exact⟨t',by simp only[execOp,ho];exact nP bq,hr⟩
 ·rename_i op t x;obtain⟨u,h1,CA⟩:=Ts h;obtain⟨z,h3,CQ⟩:=aiF h1;obtain⟨u',hx,ef⟩:=Mi (k:=λz=>some z) (r:=u) (CA.at_ _);injection ef with ef;subst ef;obtain⟨z',CB,hp,hs⟩:=ahh (P:=P) (k:=λz=>some z) (r:=z) (CQ.at_ _);injection CB with CB;subst CB
  refine⟨_,h3,λX k=>(CA.at_ _).trans (CQ.at_ _),λah ρ a w o ho hR=>?_⟩
  have h1:=hR.aF x;rw[hx]at h1;obtain⟨t',bq,hr⟩:=hs w _ ah [] _ h1.2;exact⟨t',by simp only[execOp,ho];exact nP bq,V.HT hp,hr⟩
 ·rename_i s d' x;obtain⟨y,h1,hd⟩:=aiO h;obtain⟨y',ef,hs⟩:=ahL (w0:=w0) (N:=N) (k:=λz=>some z) (r:=y) (hd.at_ _);injection ef with ef;subst ef
  refine⟨_,h1,λX k=>hd.at_ _,λah ρ a w o ho hR=>?_⟩
  obtain⟨v,bq,aO⟩:=hs ah ρ a w hR _ (hR.aF x);exact⟨v,by simp only[execOp,ho];exact nP bq,aO⟩
 ·rename_i s x f;obtain⟨y,h1,hd⟩:=aiG h;obtain⟨y',ef,hs⟩:=ahk (k:=λz=>some z) (r:=y) (hd.at_ _);injection ef with ef;subst ef
  refine⟨_,h1,λX k=>hd.at_ _,λah ρ a w o ho hR=>?_⟩
  obtain⟨v,bq,aO⟩:=hs w _ ah ρ _ (hR.aF x);exact⟨v,by simp only[execOp,ho];exact nP bq,aO⟩
 ·rename_i s x f;obtain⟨y,h1,hd⟩:=aiL h;obtain⟨y',ef,hs⟩:=ahM (k:=λz=>some z) (r:=y) (hd.at_ _);injection ef with ef;subst ef
  refine⟨_,h1,λX k=>hd.at_ _,λah ρ a w o ho hR=>?_⟩
  obtain⟨v,bq,aO⟩:=hs w _ ah ρ _ (hR.aF x);exact⟨v,by simp only[execOp,ho];exact nP bq,aO⟩
 ·rename_i t x i;obtain⟨y,h1,hd⟩:=aiH h;obtain⟨y',ef,hs⟩:=ahl (w0:=w0) (N:=N) (k:=λz=>some z) (r:=y) (hd.at_ _);injection ef with ef;subst ef
  refine⟨_,h1,λX k=>hd.at_ _,λah ρ a w o ho hR=>?_⟩
  obtain⟨v,bq,aO⟩:=hs ah ρ a w hR _ _ (hR.aF x) (hR.aF i);exact⟨v,by simp only[execOp,ho];exact nP bq,aO⟩
 ·rename_i t x i;obtain⟨y,h1,hd⟩:=aiM h;obtain⟨y',ef,hs⟩:=ahK (k:=λz=>some z) (r:=y) (hd.at_ _);injection ef with ef;subst ef
  refine⟨_,h1,λX k=>hd.at_ _,λah ρ a w o ho hR=>?_⟩
  obtain⟨v,bq,aO⟩:=hs w _ ah ρ _ _ (hR.aF x) (hR.aF i);exact⟨v,by simp only[execOp,ho];exact nP bq,aO⟩
 ·rename_i x i;obtain⟨y,h1,hd⟩:=aiJ h;obtain⟨y',ef,hs⟩:=ahn (P:=P) (k:=λz=>some z) (r:=y) (hd.at_ _);injection ef with ef;subst ef
  refine⟨_,h1,λX k=>hd.at_ _,λah ρ a w o ho hR=>?_⟩
  obtain⟨v,bq,aO⟩:=hs w _ ah ρ _ (hR.aF x);exact⟨v,by simp only[execOp,ho];exact nP bq,aO⟩
 ·rename_i x;obtain⟨h1,hd,hs⟩:=ZX (w:=default) (B:=0) (ah:=λ_=>none) (ρ:=λ_=>.dP undef) h
  refine⟨_,h1,λX k=>hd.at_ _,λah ρ a w o ho hR=>?_⟩
  obtain⟨_,_,hs⟩:=ZX (w:=w) (B:=w0.heap.size) (ah:=ah) (ρ:=ρ) h;obtain⟨ad,hu⟩:=hs _ (hR.aF x);refine⟨a.eval x,?_,hR.aF x⟩;simp only[execOp,ho,hu];rfl
 ·rename_i x t;obtain⟨y,h1,hd⟩:=aiI h
  refine⟨_,h1,λX k=>hd.at_ _,λah ρ a w o ho hR=>?_⟩
  obtain⟨y',ef,hs⟩:=ahm (w0:=w0) (N:=N) (ty:=o.type) (k:=λz=>some z) (r:=y) (hd.at_ _);injection ef with ef;subst ef;obtain⟨v,bq,aO⟩:=hs ah ρ a w hR _ (hR.aF x);exact⟨v,by simp only[execOp,ho,resolve,fz,Sem.run_pure,kA,invoke,builtin,List.map_toArray,kN,List.map_nil];rw[bq];rfl,aO⟩
 ·rename_i x y t t';obtain⟨z,h1,hd⟩:=ZQ h;obtain⟨z',ef,hs⟩:=Y8 (P:=P) (k:=λz=>some z) (r:=z) (hd.at_ _);injection ef with ef;subst ef
  refine⟨_,h1,λX k=>hd.at_ _,λah ρ a w o ho hR=>?_⟩
  obtain⟨v,bq,aO⟩:=hs w _ ah ρ t o.type _ _ (hR.aF x) (hR.aF y);refine⟨v,?_,aO⟩;simp only[execOp,ho,resolve,fz,Sem.run_pure,kA,invoke,builtin,List.map_toArray,kN,List.map_nil];have bq:(Builtin.max_ #[t,t'] o.type #[a.eval x,a.eval y]).run P w = .ok v w:=bq;rw[bq];rfl
 ·rename_i x y t t';obtain⟨z,h1,hd⟩:=ZQ h;obtain⟨z',ef,hs⟩:=Y8 (P:=P) (k:=λz=>some z) (r:=z) (hd.at_ _);injection ef with ef;subst ef
  refine⟨_,h1,λX k=>hd.at_ _,λah ρ a w o ho hR=>?_⟩
  obtain⟨v,bq,aO⟩:=hs w _ ah ρ t o.type _ _ (hR.aF x) (hR.aF y);refine⟨v,?_,aO⟩;simp only[execOp,ho,resolve,fz,Sem.run_pure,kA,invoke,builtin,List.map_toArray,kN,List.map_nil];have bq:(Builtin.min_ #[t,t'] o.type #[a.eval x,a.eval y]).run P w = .ok v w:=bq;rw[bq];rfl
 ·rename_i t x lo hi;obtain⟨y,h1,hd⟩:=aiP h;obtain⟨y',ef,hs⟩:=ahS (w0:=w0) (N:=N) (k:=λz=>some z) (r:=y) (hd.at_ _);injection ef with ef;subst ef
  refine⟨_,h1,λX k=>hd.at_ _,λah ρ a w o ho hR=>?_⟩
  have ob:∀ z:aj Operand,(∀ b,z.map (aF σ)=some b->∃ v,z.map a.eval=some v/\RA w w0.heap.size ah ρ b v)/\(z.map (aF σ)=none->z.map a.eval=none):=by
   intro z;cases z with
   |none=>exact⟨λb hb=>(by cases hb),λ_=>rfl⟩
   |some z=>exact⟨λb hb=>(by cases hb;exact⟨_,rfl,hR.aF z⟩),λhb=>(by cases hb)⟩
  obtain⟨v,bq,hr⟩:=hs ah ρ a w hR _ _ _ (hR.aF x) (ob lo).1 (ob lo).2 (ob hi).1 (ob hi).2;exact⟨v,by simp only[execOp,ho];exact nP bq,hr⟩
 ·cases h
theorem ajs{k:S->aj X}(bS:ig P Φ)(h:jF P N Φ σ o k=some r):∃ az,k az=some r/\nE P w0 N o σ az:=by
 unfold jF at h;split at h
 ·rename_i e ho;obtain⟨d,hd,h⟩:=iU h;obtain⟨az,h,hs⟩:=ahu (w0:=w0) h
  refine⟨az,h,.mem hd λah ρ a w hR=>?_⟩
  obtain⟨w',aC,ρ',v,bq,aO⟩:=hs ah ρ a w hR;exact⟨w',aC,ρ',v,by simp only[execOp,ho];exact nP bq,aO⟩
 ·rename_i e x ho;obtain⟨d,hd,h⟩:=iU h;obtain⟨az,h,hs⟩:=aiU (w0:=w0) (e:=e) h
  refine⟨az,h,.mem hd λah ρ a w hR=>?_⟩
  obtain⟨w',aC,ρ',v,bq,aO⟩:=hs ah ρ a w hR _ (hR.aF x);exact⟨w',aC,ρ',v,by simp only[execOp,ho];exact nP bq,aO⟩
 ·rename_i t len parts ho;obtain⟨d,hd,h⟩:=iU h;cases hn:qe t with
  | true=>
   rw[hn,aq]at h;obtain⟨az,h,hs⟩:=aiV (w0:=w0) h
   refine⟨az,h,.mem hd λah ρ a w hR=>?_⟩
   obtain⟨w',aC,ρ',v,bq,aO⟩:=hs ah ρ a w hR;exact⟨w',aC,ρ',v,by simp only[execOp,ho];exact nP bq,aO⟩
  | false=>
   rw[hn,au]at h;obtain⟨az,h,hs⟩:=ahI (w0:=w0) h
   refine⟨az,h,.mem hd λah ρ a w hR=>?_⟩
   obtain⟨w',aC,ρ',v,bq,aO⟩:=hs ah ρ a w hR;exact⟨w',aC,ρ',v,by simp only[execOp,ho];exact nP bq,aO⟩
 ·rename_i t x y ho;split at h
  ·rename_i hd;cases hn:xg (aF σ x) (aF σ y)with
   | true=>
    rw[hn,aq]at h;obtain⟨az,h,hs⟩:=ai1 (w0:=w0) (N:=N) h
    refine⟨az,h,λa w K Q hR hK=>?_⟩
    obtain⟨ah,ρ,hR⟩:=hR;obtain⟨w',aC,bq,aO⟩:=hs ah ρ a w hR _ _ (hR.aF x) (hR.aF y);have:(execOp a.eval o).run P w = .ok .skip w':=by
     simp only[execOp,ho];rw[fz,bq];rfl
    unfold Oper.wp;rw[this,Oper.upon_skip,hd];exact hK _ _ ⟨aC,ρ,aO⟩
   | false=>
    rw[hn,au]at h;obtain⟨az,h,hs⟩:=YM (w0:=w0) (N:=N) h
    refine⟨az,h,λa w K Q hR hK=>?_⟩
    obtain⟨ah,ρ,hR⟩:=hR;obtain⟨w',bq,aO⟩:=hs ah ρ a w hR _ _ (hR.aF x) (hR.aF y);have:(execOp a.eval o).run P w = .ok .skip w':=by
     simp only[execOp,ho];rw[fz,bq];rfl
    unfold Oper.wp;rw[this,Oper.upon_skip,hd];exact hK _ _ ⟨ah,ρ,aO⟩
  ·cases h
 ·rename_i t l c ho;obtain⟨d,hd,h⟩:=iU h;obtain⟨az,h,hs⟩:=ahv (w0:=w0) h
  refine⟨az,h,.mem hd λah ρ a w hR=>?_⟩
  obtain⟨w',aC,ρ',v,bq,aO⟩:=hs ah ρ a w hR _ _ (hR.aF l) (hR.aF c);exact⟨w',aC,ρ',v,by simp only[execOp,ho];exact nP bq,aO⟩
 ·rename_i f args dV ho;split at h
  next c hc=>obtain⟨d,hd,h⟩:=iU h;obtain⟨he,eK⟩:=bS f _ hc;exact ahW ho hd he eK h
  next c hc=>obtain⟨he,eK⟩:=bS f _ hc;exact aij ho he eK h
  next c hc=>obtain⟨d,hd,h⟩:=iU h;obtain⟨he,eK⟩:=bS f _ hc;exact ai5 ho hd he eK h
  ·rename_i F hc;obtain⟨d,hd,h⟩:=iU h;obtain⟨he,eK⟩:=bS f _ hc;split at h
   next x hx=>exact ai4 ho hx hd he eK h
   ·cases h
  next c hc=>obtain⟨he,eK⟩:=bS f _ hc;exact Z5 (ex:=[]) ho rfl he eK h
  next c hc=>obtain⟨he,eK⟩:=bS f _ hc;exact aip ho he eK h
  next c hc=>obtain⟨d,hd,h⟩:=iU h;obtain⟨he,eK⟩:=bS f _ hc;exact ahX ho hd he eK h
  next c hc=>obtain⟨he,eK⟩:=bS f _ hc;exact ajc ho he eK h
  ·cases h
 ·rename_i x y t t' ho;cases gG:Nat.beq t t' with
  |false=>rw[gG]at h;cases h
  | true=>
   rw[gG,aq]at h;obtain rfl:=cz gG;obtain⟨d,hd,h⟩:=iU h;have hh:∃ az,k az=some r/\∀ ah ρ a w,Rl w0 N ah ρ σ a w->∀ u v,RA w w0.heap.size ah ρ (aF σ x) u->RA w w0.heap.size ah ρ (aF σ y) v->
     ∃w' aC ρ' z,(Builtin.append_ #[t,t] o.type #[u,v]).run P w = .ok z w'/\Rl w0 N aC ρ' az (a.put (some d) z) w':=by
    cases hn:qe t with
    |true=>rw[hn,aq]at h;exact aiZ h
    | false=>
     rw[hn,au]at h;cases hk:IS t d x with
     |true=>rw[hk,aq]at h;exact ajp h
     |false=>rw[hk,au]at h;exact ahw h
   obtain⟨az,h,hs⟩:=hh
   refine⟨az,h,.mem hd λah ρ a w hR=>?_⟩
   obtain⟨w',aC,ρ',v,bq,aO⟩:=hs ah ρ a w hR _ _ (hR.aF x) (hR.aF y);refine⟨w',aC,ρ',v,?_,aO⟩;simp only[execOp,ho,resolve,fz,Sem.run_pure,kA,invoke,builtin,List.map_toArray,kN,List.map_nil];rw[bq];rfl
 ·rename_i t ho;obtain⟨d,hd,h⟩:=iU h;obtain⟨az,h,hs⟩:=aji (w0:=w0) (t:=t) (P:=P) h
  refine⟨az,h,.mem hd λah ρ a w hR=>?_⟩
  obtain⟨w',aC,ρ',v,bq,aO⟩:=hs ah ρ a w hR;exact⟨w',aC,ρ',v,by simp only[execOp,ho];exact nP bq,aO⟩
 ·rename_i t x i ho;obtain⟨v,h1,_,hs⟩:=Z9 (w0:=w0) (N:=N) h
  refine nE.val h1 λah ρ a w hR=>?_
  obtain⟨y,bq,aO⟩:=hs ah ρ a w hR _ _ (hR.aF x) (hR.aF i);exact⟨y,by simp only[execOp,ho];exact nP bq,aO⟩
 ·rename_i t x i v ho;split at h
  ·rename_i hd;obtain⟨az,h,_,hs⟩:=aaa (w0:=w0) (N:=N) h
   refine⟨az,h,λa w K Q hR hK=>?_⟩
   obtain⟨ah,ρ,hR⟩:=hR;obtain⟨w',bq,aO⟩:=hs ah ρ a w hR _ _ _ (hR.aF x) (hR.aF i) (hR.aF v);have:(execOp a.eval o).run P w = .ok .skip w':=by
    simp only[execOp,ho];rw[fz,bq];rfl
   unfold Oper.wp;rw[this,Oper.upon_skip,hd];exact hK _ _ ⟨ah,ρ,aO⟩
  ·cases h
 ·rename_i t args dV ho;split at h
  ·rename_i f cap dZ;split at h
   next c hc=>obtain⟨he,eK⟩:=bS f _ hc;exact Z5 ho dZ he eK h
   ·cases h
  ·cases h
 ·rename_i f IT ho;split at h
  ·rename_i ps jm;obtain⟨h1,h2⟩:=Z6 (w0:=w0) (N:=N) _ _ jm
   refine nE.val h λah ρ a w hR=>⟨.func (.func f) #[] (IT.map a.eval),by simp[execOp,ho,Instr.makeFunc],_,rfl,by simp[h1],λj p hp=>?_⟩
   obtain⟨b,off,e1,e2⟩:=h2 ah ρ a w hR j p hp;exact⟨b,off,e1,by simpa using e2⟩
  ·cases h
 ·rename_i x t ho;obtain⟨nc,h1,hs⟩:=ahz (w0:=w0) (N:=N) (ty:=o.type) h;have run:∀ ah ρ a w,Rl w0 N ah ρ σ a w->∃ w',(execOp a.eval o).run P w = .ok (.value (.tuple #[])) w'/\Rl w0 N ah ρ nc a w':=by
   intro ah ρ a w hR;obtain⟨w',bq,aO⟩:=hs ah ρ a w hR _ (hR.aF x);refine⟨w',?_,aO⟩;simp only[execOp,ho,resolve,fz,Sem.run_pure,kA,invoke,builtin,List.map_toArray,kN,List.map_nil];rw[bq];rfl
  unfold jM at h1;split at h1
  ·rename_i hd
   refine⟨_,h1,λa w K Q hR hK=>?_⟩
   obtain⟨ah,ρ,hR⟩:=hR;obtain⟨w',bq,aO⟩:=run ah ρ a w hR;unfold Oper.wp;rw[bq,Oper.upon_value,hd];exact hK _ _ ⟨ah,ρ,aO⟩
  ·rename_i d hd;cases hN:Nat.blt d N with
   |false=>rw[hN]at h1;cases h1
   | true=>
    rw[hN,aq]at h1
    refine⟨_,h1,.mem hd λah ρ a w hR=>?_⟩
    obtain⟨w',bq,aO⟩:=run ah ρ a w hR;exact⟨w',ah,ρ,_,bq,aO.set trivial (by have:=cH hN;omega)⟩
 ·cases h
theorem TM{k:S->aj X}(bS:ig P Φ)(h:dG P N Φ σ o k=some r):∃ az,k az=some r/\nE P w0 N o σ az:=by
 unfold dG at h;cases hv:gH o.op with
 | true=>
  rw[hv,aq]at h;obtain⟨v,h1,_,hs⟩:=IZ (w0:=w0) (N:=N) h;exact nE.val h1 λah ρ a w hR=>hs ah ρ a w o rfl hR
 | false=>
  rw[hv,au]at h;exact ajs bS h
theorem ajt{k:S->aj X}(bS:ig P Φ)(h:pH P N Φ σ o k=some r):∃ az,k az=some r/\nE P w0 N o σ az:=by
 unfold pH at h;split at h
 ·rename_i t x y ho hd;split at h
  ·rename_i q s i j hy;obtain⟨az,h1,hs⟩:=ajf (w0:=w0) (N:=N) h
   refine⟨az,h1,λa w K Q hR hK=>?_⟩
   obtain⟨ah,ρ,hR⟩:=hR;have hv:=hR.aF y;rw[hy]at hv;obtain⟨w',aC,bq,aO⟩:=hs ah ρ a w hR _ _ (hR.aF x) hv;have:(execOp a.eval o).run P w = .ok .skip w':=by
    simp only[execOp,ho];rw[fz,bq];rfl
   unfold Oper.wp;rw[this,Oper.upon_skip,hd];exact hK _ _ ⟨aC,ρ,aO⟩
  ·exact TM bS h
 ·rename_i t x lo hi mx d ho hd;obtain⟨h1,hs⟩:=ajh (w0:=w0) (N:=N) h;cases hN:Nat.blt d N with
  |false=>rw[hN]at h1;cases h1
  | true=>
   rw[hN,aq]at h1
   refine⟨_,h1,.mem hd λah ρ a w hR=>?_⟩
   obtain⟨v,bq⟩:=hs ah ρ a w hR _ _ _ _ (hR.aF x) (hR.aF lo) (hR.aF hi) (hR.aF mx);refine⟨w,ah,ρ,v,?_,hR.set trivial (by have:=cH hN;omega)⟩;simp only[execOp,ho,jU];exact nP bq
 ·exact TM bS h
end
end Go.Proofs.YtcioagfjiccleaaGreat
namespace Go.Proofs.YtcioagfjiccleaaGreat
open Go.RowKit
set_option linter.unusedVariables false
section
variable {P:Program} {w w':World} {w0:Wd} {B N:Nat} {ah aC:bE} {ρ ρ':Nat->Loc} {σ:S} {a:Act} {X:Type} {d:Nat} {r:X} {o:Oper} {Φ:eS}
/-! What an operation gives hangs on its operands and on the roots alone. -/
theorem E8{σ2:S}(hm:σ2.m=σ.m)(x:Lf)(k:V->aj X):jY σ2 x k=jY σ x k:=by
 cases x<;>simp only[jY,hm]
theorem aju{σ2:S}(hm:σ2.m=σ.m)(t:TypeId)(x:A)(k:A->aj X):lu P σ2 t x k=lu P σ t x k:=by
 simp only[lu,hm]
theorem ajv{σ2:S}(hm:σ2.m=σ.m)(t:TypeId)(x i:A)(k:A->aj X):qF P σ2 t x i k=qF P σ t x i k:=by
 simp only[qF,hm]
theorem aae{σ2:S}(hm:σ2.m=σ.m)(q:af Nat)(s i j:Nat)(k:V->aj X):um σ2 q s i j k=um σ q s i j k:=by
 simp only[um,hm]
theorem ajw{σ2:S}(hm:σ2.m=σ.m)(x:A)(k:V->aj X):rS σ2 x k=rS σ x k:=by
 cases x<;>simp only[rS,E8 hm,aae hm]
theorem ajx{σ2:S}(hm:σ2.m=σ.m)(t:TypeId)(x:A)(lo hi:aj A)(k:A->aj X):sX P σ2 t x lo hi k=sX P σ t x lo hi k:=by
 unfold sX;split
 ·simp only[qa,hm]
 ·simp only[qa,hm]
 ·rfl
theorem ajy{σ2:S}(hm:σ2.m=σ.m)(t t':TypeId)(x:A)(k:A->aj X):pY P σ2 t t' x k=pY P σ t t' x k:=by
 unfold pY;split<;>simp only[E8 hm]
theorem ajz{σ2:S}(hm:σ2.m=σ.m)(t:TypeId)(x:A)(k:A->aj X):pW P σ2 t x k=pW P σ t x k:=by
 cases x<;>simp only[pW,E8 hm]
theorem ajA{σ2:S}(hm:σ2.m=σ.m)(op:BinOp)(t:TypeId)(x y:A)(k:A->aj X):om P σ2 op t x y k=om P σ op t x y k:=by
 simp only[om,E8 hm]
theorem TN{σ2:S}{op:BinOp}{t:TypeId}{x y:A}{k:A->aj X}(h:∀ l,x = .lf l->∀ (k:V->aj X),jY σ2 l k=jY σ l k):om P σ2 op t x y k=om P σ op t x y k:=by
 unfold om;split
 ·rfl
 ·split
  ·exact h _ rfl _
  ·rfl
 ·rfl
theorem ajB{σ2:S}(t:TypeId)(parts:af (Nat×Operand))(h:∀ p∈parts,aF σ2 p.2=aF σ p.2)(k:A->aj X):wN P σ2 t parts k=wN P σ t parts k:=by
 have e:(parts.map λp=>(p.1,aF σ2 p.2))=parts.map λp=>(p.1,aF σ p.2):=lK λp hp=>by rw[h p hp]
 simp only[wN,e]
theorem TO{σ2:S}(hm:σ2.m=σ.m):∀ (xs:af Lf) (k:af V->aj X),pn σ2 xs k=pn σ xs k
 |[],k=>rfl
 | x :: xs,k=>by
  simp only[pn,E8 hm];congr 1;funext y;exact TO hm xs _
theorem aaf{σ2:S}(hm:σ2.m=σ.m)(x:A)(k:Pt->aj X):oq σ2 x k=oq σ x k:=by
 unfold oq;simp only[TO hm,aae hm,hm]
theorem aag{σ2:S}(hm:σ2.m=σ.m):∀ (xs:af Operand) (k:af Pt->aj X),(∀ x∈xs,aF σ2 x=aF σ x)->mL σ2 xs k=mL σ xs k
 |[],k,_=>rfl
 | x :: xs,k,h=>by
  simp only[mL,aaf hm,h x (.head _)];congr 1;funext p;exact aag hm xs _ (λy hy=>h y (.tail _ hy))
theorem ajC{σ2:S}(hm:σ2.m=σ.m)(x:A)(k:Pt->aj X):uv σ2 x k=uv σ x k:=by
 unfold uv;simp only[aaf hm,TO hm,hm]
theorem aah{σ2:S}(hm:σ2.m=σ.m):∀ (xs:af Operand) (k:af Pt->aj X),(∀ x∈xs,aF σ2 x=aF σ x)->pq σ2 xs k=pq σ xs k
 |[],k,_=>rfl
 | x :: xs,k,h=>by
  simp only[pq,ajC hm,h x (.head _)];congr 1;funext p;exact aah hm xs _ (λy hy=>h y (.tail _ hy))
theorem I0{σ2:S}(op:Op)(hm:σ2.m=σ.m)(h:∀ x∈op.operands,aF σ2 x=aF σ x)(k:A->aj X):eU P σ2 op k=eU P σ op k:=by
 unfold eU;split
 ·rw[h _ (by simp[Op.operands])]
 ·rw[h _ (by simp[Op.operands])]
 next c x y=>rw[h c (by simp[Op.operands]),h x (by simp[Op.operands]),h y (by simp[Op.operands])]
 next t parts=>exact ajB t _ (λp hp=>h p.2 (by simp only[Op.operands];exact List.mem_toArray.2 (List.mem_map_of_mem (f:=(·.2)) hp))) k
 next t x=>rw[h x (by simp[Op.operands]),aju hm]
 next op t x y yt=>rw[h x (by simp[Op.operands]),h y (by simp[Op.operands]),ajA hm]
 next op t x=>rw[h x (by simp[Op.operands])]
 next s d x=>rw[h x (by simp[Op.operands]),ajy hm]
 next s x f=>rw[h x (by simp[Op.operands])]
 next s x f=>rw[h x (by simp[Op.operands])]
 next t x i=>rw[h x (by simp[Op.operands]),h i (by simp[Op.operands]),ajv hm]
 next t x i=>rw[h x (by simp[Op.operands]),h i (by simp[Op.operands])]
 next x i=>rw[h x (by simp[Op.operands])]
 next x=>rw[h x (by simp[Op.operands])]
 next x t=>rw[h x (by simp[Op.operands,Call.operands]),ajz hm]
 next x y t t'=>rw[h x (by simp[Op.operands,Call.operands]),h y (by simp[Op.operands,Call.operands])]
 next x y t t'=>rw[h x (by simp[Op.operands,Call.operands]),h y (by simp[Op.operands,Call.operands])]
 ·rename_i t x lo hi;have e:∀ z:aj Operand,(∀ y,z=some y->aF σ2 y=aF σ y)->z.map (aF σ2)=z.map (aF σ):=by
   intro z hz;cases z with
   |none=>rfl
   |some z=>exact cA some (hz z rfl)
  rw[h x (by simp[Op.operands]),e lo (λy hy=>h y (by subst hy;simp[Op.operands])),e hi (λy hy=>h y (by subst hy;simp[Op.operands])),ajx hm]
 ·rfl
/-! .. and a root that it does not name is of no account. -/
def Nc(n:Nat)(x:aW)(m:Nat->aj aW):Nat->aj aW:=bP (λr=>bif Nat.beq r n then none else (m r).map (aW.drop n)) n (some x)
theorem aai{n:Nat}{x:aW}{m:Nat->aj aW}{q:Nat}(h:q≠n):Nc n x m q=(m q).map (aW.drop n):=by
 have hb:Nat.beq q n=false:=by
  cases hb:Nat.beq q n with
  |false=>rfl
  |true=>exact absurd (cz hb) h
 unfold Nc;rw[cL _ _ _ h,hb];rfl
theorem yU{n:Nat}{x:aW}{m:Nat->aj aW}:∀ (q:af Nat) (k:V->aj X),bH n q=false->gV (Nc n x m) q k=gV m q k
 |[],_,_=>rfl
 | [y],k,h=>by
  have hy:y≠n:=by rintro rfl;simp[bH]at h
  simp only[gV,aai hy];cases m y with
  |none=>rfl
  |some z=>cases z<;>rfl
 |[_,_],_,_=>rfl
 |[j,i,s],k,h=>rfl
 | j :: i :: s :: q0 :: q,k,h=>by
  have h':bH n (q0::q)=false:=by simpa [bH]using h
  simp only[gV];exact yU (q0::q) _ h'
theorem ajD{n:Nat}{t:TypeId}{cs:af Lf}{y:A}(h:cD (λX k=>m6 (X:=X) P t cs k) y):cD (λX k=>m6 (X:=X) P t (cs.map (Lf.drop n)) k) (y.drop n):=by
 have h1:=h.at_ (X:=A) (λz=>some z);unfold m6 at h1;split at h1
 ·rename_i sz dx;split at h1
  ·rename_i hl;split at h1
   next hr=>injection h1 with h1;subst h1;intro X k;simp only[m6,dx,eV,bu hl,hr];rfl
   ·rename_i hr;split at h1
    next z=>injection h1 with h1;subst h1;intro X k;simp only[rF]at hl;simp only[m6,dx,kN,List.map_nil,rF,bu hl,hr];rfl
    ·cases h1
   ·cases h1
  ·cases h1
 ·cases h1
theorem A.uF{p pb:Nat->Bool}{x:A}{n:Nat}(h:x.mj p pb=true)(hn:p n=true)(hb:pb n=true):x.drop n=x:=by
 cases x with
 |lf x=>exact cA A.lf (Lf.nN h hn)
 |agg cs=>exact cA A.agg (oA.nN h hn)
 |cP xs=>exact A.nN (x:=.cP xs) (p:=p) h hn
 |ptr k=>exact A.nN (x:=.ptr k) (p:=p) h hn
 |view k s i j=>exact A.nN (x:=.view k s i j) (p:=p) h hn
 |pk r j=>exact A.nN (x:=.pk r j) (p:=pb) h hb
 |aG r j=>exact A.nN (x:=.aG r j) (p:=pb) h hb
 |fn f cap=>exact A.nN (x:=.fn f cap) (p:=pb) h hb
 |_=>rfl
theorem ajE{p pb:Nat->Bool}{r j n:Nat}(h:(A.aG r j).mj p pb=true)(hn:pb n=true):r≠n:=by
 rintro rfl;have h:(!pb r)=true:=h;rw[hn]at h;cases h
theorem ajF{p:Nat->Bool}{r j n:Nat}(h:(A.aG r j).nr p=true)(hn:p n=true):r≠n:=by
 rintro rfl;have h:(!p r)=true:=h;rw[hn]at h;cases h
theorem ajG{p pb:Nat->Bool}{n:Nat}{x:aW}{op:Op}{v:A}(h:cD (λX k=>eU (X:=X) P σ op k) v)(hn:p n=true)(xe:pb n=true)(cw:∀ y∈op.operands,(aF σ y).mj p pb=true)(hv:v.mj p pb=true):
  cD (λX k=>eU (X:=X) P ((σ.drop n).root n x) op k) v:=by
 have ho:∀ y∈op.operands,aF ((σ.drop n).root n x) y=aF σ y:=by
  intro y hy;have:=A.uF (cw y hy) hn xe;cases y with
  |tmp t=>exact this
  |const v=>rfl
  |global g=>rfl
  |func f=>rfl
 have hm:((σ.drop n).root n x).m=Nc n x σ.m:=rfl;have TP:=A.uF hv hn xe;have gL:∀ y∈op.operands,aF ⟨((σ.drop n).root n x).t,σ.m⟩ y=aF σ y:=by
  intro y hy;rw[<-ho y hy];cases y<;>rfl
 -- an operation that does not look at the roots
 have tA:(∀ (X:Type) (k:A->aj X),eU P ⟨((σ.drop n).root n x).t,σ.m⟩ op k=eU P ((σ.drop n).root n x) op k)->cD (λX k=>eU (X:=X) P ((σ.drop n).root n x) op k) v:=by
  intro he X k;exact(he X k).symm.trans ((I0 (σ:=σ) (σ2:=⟨((σ.drop n).root n x).t,σ.m⟩) op rfl gL k).trans (h.at_ k))
 have h0:=h.at_ (X:=A) (λz=>some z);unfold eU at h0;split at h0
 case h_5 t y=>
  intro X k;have hy:=cw y (by simp[Op.operands]);have ij:=ho y (by simp[Op.operands]);simp only[eU];rw[ij];generalize aF σ y=u at h0 hy;have hd:cD (λX k=>lu (X:=X) P σ t u k) v:=by
   obtain⟨y',h1,h2⟩:=IG h0;injection h1 with h1;subst h1;exact h2
  unfold lu at h0 ⊢;split at h0
  ·cases h0
  ·rename_i sz dx;split at h0
   ·rename_i r' j;split at h0
    next cs dL=>obtain⟨y',h1,h2⟩:=yN h0;injection h1 with h1;subst h1;have h3:=ajD (n:=n) h2;rw[TP]at h3;rw[hm,aai (ajE hy xe),dL];simp only[jU,aW.drop];rw[<-List.map_drop,<-List.map_take];exact h3.at_ k
    ·cases h0
   ·obtain⟨y',h1,h2⟩:=yN h0;injection h1 with h1;subst h1;exact h2.at_ k
   ·rename_i j i s q;have hq:bH n q=false:=by
     have hk:eY p (j::i::s::q)=true:=hy;have:=uB hk hn;cases q with
     | nil=>
      obtain⟨z,_,hg,_⟩:=uA _ _ h0;cases hg
     |cons q0 q=>simpa [bH]using this
    rw[hm,yU q _ hq];have h3:=hd.at_ k;unfold lu at h3;rw[dx]at h3;exact h3
   ·cases h0
 case h_6 op t x y yt=>
  intro X k;have hx:=cw x (by simp[Op.operands]);have I1:=ho x (by simp[Op.operands]);have ij:=ho y (by simp[Op.operands]);have h1:=h.at_ k;simp only[eU]at h1 ⊢;rw[I1,ij,<-h1];generalize aF σ x=u at hx
  refine TN λl e k=>?_
  subst e;cases l with
  | own q=>
   have hk:eY p q=true:=hx;simp only[jY];rw[hm,yU q _ (uB hk hn)]
  |v z=>rfl
  |dead=>rfl
 case h_11 t y i=>
  intro X k;have hy:=cw y (by simp[Op.operands]);have ij:=ho y (by simp[Op.operands]);have I2:=ho i (by simp[Op.operands]);have h1:=h.at_ k;simp only[eU]at h1 ⊢;rw[ij,I2,<-h1];generalize aF σ y=u at hy;unfold qF;split
  ·rfl
  ·split
   ·split
    ·rfl
    next q=>have hk:eY p q=true:=hy;rw[hm,yU q _ (uB hk hn)]
    ·rfl
   ·rfl
 case h_8 t t2 y=>
  intro X k;have hy:=cw y (by simp[Op.operands]);have ij:=ho y (by simp[Op.operands]);have h1:=h.at_ k;simp only[eU]at h1 ⊢;rw[ij,<-h1];generalize aF σ y=u at hy;unfold pY;split
  ·rfl
  ·rename_i z _;cases z with
   | own q=>
    have hk:eY p q=true:=hy;simp only[jY];rw[hm,yU q _ (uB hk hn)]
   |v z=>rfl
   |dead=>rfl
  ·rfl
 case h_15 y t=>
  intro X k;have hy:=cw y (by simp[Op.operands,Call.operands]);have ij:=ho y (by simp[Op.operands,Call.operands]);have h1:=h.at_ k;simp only[eU]at h1 ⊢;rw[ij,<-h1];generalize aF σ y=u at hy;unfold pW;split
  ·rename_i z;cases z with
   | own q=>
    have hk:eY p q=true:=hy;simp only[jY];rw[hm,yU q _ (uB hk hn)]
   |v z=>rfl
   |dead=>rfl
  ·rfl
  ·rfl
 case h_18 t y lo hi=>
  intro X k;have hy:=cw y (by simp[Op.operands]);have ij:=ho y (by simp[Op.operands]);have e:∀ z:aj Operand,(∀ y,z=some y->aF ((σ.drop n).root n x) y=aF σ y)->z.map (aF ((σ.drop n).root n x))=z.map (aF σ):=by
   intro z hz;cases z with
   |none=>rfl
   |some z=>exact cA some (hz z rfl)
  have h1:=h.at_ k;simp only[eU]at h1 ⊢;rw[ij,e lo (λy hy=>ho y (by subst hy;simp[Op.operands])),e hi (λy hy=>ho y (by subst hy;simp[Op.operands])),<-h1];generalize aF σ y=u at hy;unfold sX;split
  ·rename_i q;have hk:eY p q=true:=hy;unfold qa;split
   ·split
    ·rw[hm,yU q _ (uB hk hn)]
    ·rfl
   ·rfl
  ·rename_i q s j;have hk:eY p q=true:=hy;unfold qa;split
   ·split
    ·rw[hm,yU q _ (uB hk hn)]
    ·rfl
   ·rfl
  ·rfl
 case h_19=>cases h0
 all_goals exact tA λX k=>rfl
/-! .. nor are roots that a call writes. -/
def Nd(ns:af Nat)(nr:af (Nat×aW))(m:Nat->aj aW):Nat->aj aW:=λr=>match nr.lookup r with
 |some x=>some x
 |none=>bif cc r ns ||cc r []then none else (m r).map (aW.bA ns [])
structure I3 (p:Nat->Bool) (ns:List Nat) (nr:List (Nat×aW)):Prop where
 ns:∀n,cc n ns=true->p n=true
 nr:∀n x,nr.lookup n=some x->p n=true
theorem aaj{p:Nat->Bool}{ns:af Nat}{nr:af (Nat×aW)}{m:Nat->aj aW}(hb:I3 p ns nr){q:Nat}(h:p q=false):Nd ns nr m q=(m q).map (aW.bA ns []):=by
 unfold Nd;cases h1:nr.lookup q with
 |some x=>rw[hb.nr q x h1]at h;cases h
 | none=>
  cases h2:cc q ns with
  |true=>rw[hb.ns q h2]at h;cases h
  |false=>rfl
theorem TQ{p:Nat->Bool}{ns k:af Nat}(h:eY p k=true)(hb:∀ n,cc n ns=true->p n=true):cF k ns=false:=by
 unfold eY at h;unfold cF;cases hr:k.getLast? with
 |none=>rfl
 | some r=>
  rw[hr]at h;have h:(!p r)=true:=h;show cc r ns=false;cases h2:cc r ns with
  |false=>rfl
  |true=>rw[hb r h2]at h;cases h
theorem TR(k:af Nat):cF k []=false:=by
 unfold cF;split<;>rfl
theorem Lf.vJ{p:Nat->Bool}{x:Lf}{ns:af Nat}(h:x.nr p=true)(hb:∀ n,cc n ns=true->p n=true):x.bA ns []=x:=by
 cases x with
 | own k=>
  have e:Lf.bA ns [] (.own k)=(bif cF k [] ||(cF k ns && !(Nat.beq k.length 1))then .dead else .own k):=rfl;rw[e,TQ h hb,TR];rfl
 |v x=>rfl
 |dead=>rfl
theorem oA.vJ{p:Nat->Bool}{xs:af Lf}{ns:af Nat}(h:xs.all (Lf.nr p)=true)(hb:∀ n,cc n ns=true->p n=true):xs.map (Lf.bA ns [])=xs:=by
 conv=>rhs;rw[<-List.map_id xs]
 exact lK λx hx=>Lf.vJ (c9.1 h x hx) hb
theorem A.vJ{p:Nat->Bool}{x:A}{ns:af Nat}(h:x.nr p=true)(hb:∀ n,cc n ns=true->p n=true):x.bA ns []=x:=by
 cases x with
 |lf x=>exact cA A.lf (Lf.vJ h hb)
 |agg cs=>exact cA A.agg (oA.vJ h hb)
 | cP xs=>
  refine cA A.cP ?_
  conv=>rhs;rw[<-List.map_id xs]
  refine lK λq hq=>?_
  have:=oA.vJ (c9.1 h q hq) hb;simp only[id];rw[this]
 | ptr k=>
  have e:A.bA ns [] (.ptr k)=(bif cF k [] ||cF k ns then .undef else .ptr k):=rfl;rw[e,TQ h hb,TR];rfl
 | view k s i j=>
  have e:A.bA ns [] (.view k s i j)=(bif cF k [] ||cF k ns then .undef else .view k s i j):=rfl;rw[e,TQ h hb,TR];rfl
 |pk r j=>rfl
 |aG r j=>rfl
 | fn f cap=>
  have e:A.bA ns [] (.fn f cap)=(bif cap.any (λp=>cc p.1 [])then .undef else .fn f cap):=rfl;have:cap.any (λp=>cc p.1 [])=false:=by
   rw[mW];intro q hq hb;cases hb
  rw[e,this];rfl
 |_=>rfl
theorem A.E9{p pb:Nat->Bool}{x:A}{ns:af Nat}(h:x.mj p pb=true)(hb:∀ n,cc n ns=true->p n=true):x.bA ns []=x:=by
 cases x with
 |lf x=>exact A.vJ (x:=.lf x) (p:=p) h hb
 |agg cs=>exact A.vJ (x:=.agg cs) (p:=p) h hb
 |cP xs=>exact A.vJ (x:=.cP xs) (p:=p) h hb
 |ptr k=>exact A.vJ (x:=.ptr k) (p:=p) h hb
 |view k s i j=>exact A.vJ (x:=.view k s i j) (p:=p) h hb
 |pk r j=>rfl
 |aG r j=>rfl
 | fn f cap=>
  have e:A.bA ns [] (.fn f cap)=(bif cap.any (λp=>cc p.1 [])then .undef else .fn f cap):=rfl;have:cap.any (λp=>cc p.1 [])=false:=by
   rw[mW];intro q hq hb;cases hb
  rw[e,this];rfl
 |_=>rfl
theorem A9{p:Nat->Bool}{ns:af Nat}{nr:af (Nat×aW)}{m:Nat->aj aW}(hb:I3 p ns nr):∀ (q:af Nat) (k:V->aj X),eY p q=true->gV (Nd ns nr m) q k=gV m q k
 |[],_,_=>rfl
 | [y],k,h=>by
  have hy:p y=false:=by simpa [eY]using h
  simp only[gV,aaj hb hy];cases m y with
  |none=>rfl
  |some z=>cases z<;>rfl
 |[_,_],_,_=>rfl
 |[j,i,s],k,h=>rfl
 | j :: i :: s :: q0 :: q,k,h=>by
  have h':eY p (q0::q)=true:=by simpa [eY,List.getLast?_cons_cons]using h
  simp only[gV];exact A9 hb (q0::q) _ h'
theorem ajH{ns:af Nat}{t:TypeId}{cs:af Lf}{y:A}(h:cD (λX k=>m6 (X:=X) P t cs k) y):cD (λX k=>m6 (X:=X) P t (cs.map (Lf.bA ns [])) k) (y.bA ns []):=by
 have h1:=h.at_ (X:=A) (λz=>some z);unfold m6 at h1;split at h1
 ·rename_i sz dx;split at h1
  ·rename_i hl;split at h1
   next hr=>injection h1 with h1;subst h1;intro X k;simp only[m6,dx,eV,bu hl,hr];rfl
   ·rename_i hr;split at h1
    next z=>injection h1 with h1;subst h1;intro X k;simp only[rF]at hl;simp only[m6,dx,kN,List.map_nil,rF,bu hl,hr];rfl
    ·cases h1
   ·cases h1
  ·cases h1
 ·cases h1
theorem ajI{p pb:Nat->Bool}{ns:af Nat}{nr:af (Nat×aW)}{op:Op}{v:A}(h:cD (λX k=>eU (X:=X) P σ op k) v)(hb:I3 p ns nr)(cw:∀ y∈op.operands,(aF σ y).mj p pb=true)(hv:v.mj p pb=true)(ta:∀ t y r j,op = .load t y->aF σ y = .aG r j->p r=false):
  cD (λX k=>eU (X:=X) P (σ.bA ns [] nr) op k) v:=by
 have ho:∀ y∈op.operands,aF (σ.bA ns [] nr) y=aF σ y:=by
  intro y hy;have:=A.E9 (cw y hy) hb.ns;cases y with
  |tmp t=>exact this
  |const v=>rfl
  |global g=>rfl
  |func f=>rfl
 have hm:(σ.bA ns [] nr).m=Nd ns nr σ.m:=rfl;have TP:=A.E9 hv hb.ns;have gL:∀ y∈op.operands,aF ⟨(σ.bA ns [] nr).t,σ.m⟩ y=aF σ y:=by
  intro y hy;rw[<-ho y hy];cases y<;>rfl
 have tA:(∀ (X:Type) (k:A->aj X),eU P ⟨(σ.bA ns [] nr).t,σ.m⟩ op k=eU P (σ.bA ns [] nr) op k)->cD (λX k=>eU (X:=X) P (σ.bA ns [] nr) op k) v:=by
  intro he X k;exact(he X k).symm.trans ((I0 (σ:=σ) (σ2:=⟨(σ.bA ns [] nr).t,σ.m⟩) op rfl gL k).trans (h.at_ k))
 have h0:=h.at_ (X:=A) (λz=>some z);unfold eU at h0;split at h0
 case h_5 t y=>
  intro X k;have hy:=cw y (by simp[Op.operands]);have ij:=ho y (by simp[Op.operands]);simp only[eU];rw[ij];have ta:=λr j e=>ta t y r j rfl e
  generalize aF σ y=u at h0 hy ta;have hd:cD (λX k=>lu (X:=X) P σ t u k) v:=by
   obtain⟨y',h1,h2⟩:=IG h0;injection h1 with h1;subst h1;exact h2
  unfold lu at h0 ⊢;split at h0
  ·cases h0
  ·rename_i sz dx;split at h0
   ·rename_i r' j;split at h0
    next cs dL=>obtain⟨y',h1,h2⟩:=yN h0;injection h1 with h1;subst h1;have h3:=ajH (ns:=ns) h2;rw[TP]at h3;have hp:p r'=false:=ta r' _ rfl;rw[hm,aaj hb hp,dL];simp only[jU,aW.bA];rw[<-List.map_drop,<-List.map_take];exact h3.at_ k
    ·cases h0
   ·obtain⟨y',h1,h2⟩:=yN h0;injection h1 with h1;subst h1;exact h2.at_ k
   ·rename_i j i s q;have hq:eY p q=true:=by
     have hk:eY p (j::i::s::q)=true:=hy;cases q with
     | nil=>
      obtain⟨z,_,hg,_⟩:=uA _ _ h0;cases hg
     |cons q0 q=>simpa [eY,List.getLast?_cons_cons]using hk
    rw[hm,A9 hb q _ hq];have h3:=hd.at_ k;unfold lu at h3;rw[dx]at h3;exact h3
   ·cases h0
 case h_6 op t x y yt=>
  intro X k;have hx:=cw x (by simp[Op.operands]);have I1:=ho x (by simp[Op.operands]);have ij:=ho y (by simp[Op.operands]);have h1:=h.at_ k;simp only[eU]at h1 ⊢;rw[I1,ij,<-h1];generalize aF σ x=u at hx
  refine TN λl e k=>?_
  subst e;cases l with
  | own q=>
   have hk:eY p q=true:=hx;simp only[jY];rw[hm,A9 hb q _ hk]
  |v z=>rfl
  |dead=>rfl
 case h_11 t y i=>
  intro X k;have hy:=cw y (by simp[Op.operands]);have ij:=ho y (by simp[Op.operands]);have I2:=ho i (by simp[Op.operands]);have h1:=h.at_ k;simp only[eU]at h1 ⊢;rw[ij,I2,<-h1];generalize aF σ y=u at hy;unfold qF;split
  ·rfl
  ·split
   ·split
    ·rfl
    next q=>have hk:eY p q=true:=hy;rw[hm,A9 hb q _ hk]
    ·rfl
   ·rfl
 case h_8 t t2 y=>
  intro X k;have hy:=cw y (by simp[Op.operands]);have ij:=ho y (by simp[Op.operands]);have h1:=h.at_ k;simp only[eU]at h1 ⊢;rw[ij,<-h1];generalize aF σ y=u at hy;unfold pY;split
  ·rfl
  ·rename_i z _;cases z with
   | own q=>
    have hk:eY p q=true:=hy;simp only[jY];rw[hm,A9 hb q _ hk]
   |v z=>rfl
   |dead=>rfl
  ·rfl
 case h_15 y t=>
  intro X k;have hy:=cw y (by simp[Op.operands,Call.operands]);have ij:=ho y (by simp[Op.operands,Call.operands]);have h1:=h.at_ k;simp only[eU]at h1 ⊢;rw[ij,<-h1];generalize aF σ y=u at hy;unfold pW;split
  ·rename_i z;cases z with
   | own q=>
    have hk:eY p q=true:=hy;simp only[jY];rw[hm,A9 hb q _ hk]
   |v z=>rfl
   |dead=>rfl
  ·rfl
  ·rfl
 case h_18 t y lo hi=>
  intro X k;have hy:=cw y (by simp[Op.operands]);have ij:=ho y (by simp[Op.operands]);have e:∀ z:aj Operand,(∀ y,z=some y->aF (σ.bA ns [] nr) y=aF σ y)->z.map (aF (σ.bA ns [] nr))=z.map (aF σ):=by
   intro z hz;cases z with
   |none=>rfl
   |some z=>exact cA some (hz z rfl)
  have h1:=h.at_ k;simp only[eU]at h1 ⊢;rw[ij,e lo (λy hy=>ho y (by subst hy;simp[Op.operands])),e hi (λy hy=>ho y (by subst hy;simp[Op.operands])),<-h1];generalize aF σ y=u at hy;unfold sX;split
  ·rename_i q;have hk:eY p q=true:=hy;unfold qa;split
   ·split
    ·rw[hm,A9 hb q _ hk]
    ·rfl
   ·rfl
  ·rename_i q s j;have hk:eY p q=true:=hy;unfold qa;split
   ·split
    ·rw[hm,A9 hb q _ hk]
    ·rfl
   ·rfl
  ·rfl
 case h_19=>cases h0
 all_goals exact tA λX k=>rfl
/-! .. nor is a root that is written. -/
theorem Ba{p:Nat->Bool}{n:Nat}{x:aW}{m:Nat->aj aW}(hn:p n=true):∀ (q:af Nat) (k:V->aj X),eY p q=true->gV (bP m n (some x)) q k=gV m q k
 |[],_,_=>rfl
 | [y],k,h=>by
  have hy:p y=false:=by simpa [eY]using h
  simp only[gV];rw[cL _ _ _ (by rintro rfl;rw[hn]at hy;cases hy)]
 |[_,_],_,_=>rfl
 |[j,i,s],k,h=>rfl
 | j :: i :: s :: q0 :: q,k,h=>by
  have h':eY p (q0::q)=true:=by simpa [eY,List.getLast?_cons_cons]using h
  simp only[gV];exact Ba hn (q0::q) _ h'
theorem ajJ{p pb:Nat->Bool}{n:Nat}{x:aW}{op:Op}{v:A}(h:cD (λX k=>eU (X:=X) P σ op k) v)(hn:p n=true)(cw:∀ y∈op.operands,(aF σ y).mj p pb=true)(hv:v.mj p pb=true)(ta:∀ t y r j,op = .load t y->aF σ y = .aG r j->p r=false):
  cD (λX k=>eU (X:=X) P (σ.root n x) op k) v:=by
 have ho:∀ y∈op.operands,aF (σ.root n x) y=aF σ y:=by
  intro y hy;cases y<;>rfl
 have hm:(σ.root n x).m=bP σ.m n (some x):=rfl;have gL:∀ y∈op.operands,aF ⟨(σ.root n x).t,σ.m⟩ y=aF σ y:=by
  intro y hy;rw[<-ho y hy];cases y<;>rfl
 have tA:(∀ (X:Type) (k:A->aj X),eU P ⟨(σ.root n x).t,σ.m⟩ op k=eU P (σ.root n x) op k)->cD (λX k=>eU (X:=X) P (σ.root n x) op k) v:=by
  intro he X k;exact(he X k).symm.trans ((I0 (σ:=σ) (σ2:=⟨(σ.root n x).t,σ.m⟩) op rfl gL k).trans (h.at_ k))
 have h0:=h.at_ (X:=A) (λz=>some z);unfold eU at h0;split at h0
 case h_5 t y=>
  intro X k;have hy:=cw y (by simp[Op.operands]);have ij:=ho y (by simp[Op.operands]);simp only[eU];rw[ij];have ta:=λr j e=>ta t y r j rfl e
  generalize aF σ y=u at h0 hy ta;have hd:cD (λX k=>lu (X:=X) P σ t u k) v:=by
   obtain⟨y',h1,h2⟩:=IG h0;injection h1 with h1;subst h1;exact h2
  unfold lu at h0 ⊢;split at h0
  ·cases h0
  ·rename_i sz dx;split at h0
   ·rename_i r' j;split at h0
    next cs dL=>obtain⟨y',h1,h2⟩:=yN h0;injection h1 with h1;subst h1;have hp:p r'=false:=ta r' _ rfl;rw[hm,cL _ _ _ (by rintro rfl;rw[hn]at hp;cases hp),dL];exact h2.at_ k
    ·cases h0
   ·obtain⟨y',h1,h2⟩:=yN h0;injection h1 with h1;subst h1;exact h2.at_ k
   ·rename_i j i s q;have hq:eY p q=true:=by
     have hk:eY p (j::i::s::q)=true:=hy;cases q with
     | nil=>
      obtain⟨z,_,hg,_⟩:=uA _ _ h0;cases hg
     |cons q0 q=>simpa [eY,List.getLast?_cons_cons]using hk
    rw[hm,Ba hn q _ hq];have h3:=hd.at_ k;unfold lu at h3;rw[dx]at h3;exact h3
   ·cases h0
 case h_6 op t x y yt=>
  intro X k;have hx:=cw x (by simp[Op.operands]);have I1:=ho x (by simp[Op.operands]);have ij:=ho y (by simp[Op.operands]);have h1:=h.at_ k;simp only[eU]at h1 ⊢;rw[I1,ij,<-h1];generalize aF σ x=u at hx
  refine TN λl e k=>?_
  subst e;cases l with
  | own q=>
   have hk:eY p q=true:=hx;simp only[jY];rw[hm,Ba hn q _ hk]
  |v z=>rfl
  |dead=>rfl
 case h_11 t y i=>
  intro X k;have hy:=cw y (by simp[Op.operands]);have ij:=ho y (by simp[Op.operands]);have I2:=ho i (by simp[Op.operands]);have h1:=h.at_ k;simp only[eU]at h1 ⊢;rw[ij,I2,<-h1];generalize aF σ y=u at hy;unfold qF;split
  ·rfl
  ·split
   ·split
    ·rfl
    next q=>have hk:eY p q=true:=hy;rw[hm,Ba hn q _ hk]
    ·rfl
   ·rfl
 case h_8 t t2 y=>
  intro X k;have hy:=cw y (by simp[Op.operands]);have ij:=ho y (by simp[Op.operands]);have h1:=h.at_ k;simp only[eU]at h1 ⊢;rw[ij,<-h1];generalize aF σ y=u at hy;unfold pY;split
  ·rfl
  ·rename_i z _;cases z with
   | own q=>
    have hk:eY p q=true:=hy;simp only[jY];rw[hm,Ba hn q _ hk]
   |v z=>rfl
   |dead=>rfl
  ·rfl
 case h_15 y t=>
  intro X k;have hy:=cw y (by simp[Op.operands,Call.operands]);have ij:=ho y (by simp[Op.operands,Call.operands]);have h1:=h.at_ k;simp only[eU]at h1 ⊢;rw[ij,<-h1];generalize aF σ y=u at hy;unfold pW;split
  ·rename_i z;cases z with
   | own q=>
    have hk:eY p q=true:=hy;simp only[jY];rw[hm,Ba hn q _ hk]
   |v z=>rfl
   |dead=>rfl
  ·rfl
  ·rfl
 case h_18 t y lo hi=>
  intro X k;have hy:=cw y (by simp[Op.operands]);have ij:=ho y (by simp[Op.operands]);have e:∀ z:aj Operand,(∀ y,z=some y->aF (σ.root n x) y=aF σ y)->z.map (aF (σ.root n x))=z.map (aF σ):=by
   intro z hz;cases z with
   |none=>rfl
   |some z=>exact cA some (hz z rfl)
  have h1:=h.at_ k;simp only[eU]at h1 ⊢;rw[ij,e lo (λy hy=>ho y (by subst hy;simp[Op.operands])),e hi (λy hy=>ho y (by subst hy;simp[Op.operands])),<-h1];generalize aF σ y=u at hy;unfold sX;split
  ·rename_i q;have hk:eY p q=true:=hy;unfold qa;split
   ·split
    ·rw[hm,Ba hn q _ hk]
    ·rfl
   ·rfl
  ·rename_i q s j;have hk:eY p q=true:=hy;unfold qa;split
   ·split
    ·rw[hm,Ba hn q _ hk]
    ·rfl
   ·rfl
  ·rfl
 case h_19=>cases h0
 all_goals exact tA λX k=>rfl
end
end Go.Proofs.YtcioagfjiccleaaGreat
namespace Go.Proofs.YtcioagfjiccleaaGreat
open Go.RowKit
set_option linter.unusedVariables false
def iq(σ:S):aj Tmp->A->S
 |none,_=>σ
 |some d,v=>σ.set d v
inductive jv (p pb:Nat->Bool):S->S->Prop
 |refl (σ:S):jv p pb σ σ
 |root {σ az:S} (n:Nat) (x:aW):p n=true->pb n=true->jv p pb σ az->jv p pb σ ((az.drop n).root n x)
 |bA {σ az:S} (ns:List Nat) (nr:List (Nat×aW)):I3 p ns nr->jv p pb σ az->jv p pb σ (az.bA ns [] nr)
 |rt {σ az:S} (n:Nat) (x:aW):p n=true->jv p pb σ az->jv p pb σ (az.root n x)
section
variable {P:Program} {w w':World} {w0:Wd} {B N:Nat} {ah aC:bE} {ρ ρ':Nat->Loc} {σ:S} {a:Act} {X:Type} {d:Nat} {r:X} {o:Oper} {Φ:eS} {p pb:Nat->Bool}
theorem mq{dst:aj Tmp}{x:A}{k:S->aj X}(h:jM N σ dst x k=some r):k (iq σ dst x)=some r/\∀ (σ2:S),cD (λX k=>jM (X:=X) N σ2 dst x k) (iq σ2 dst x):=by
 unfold jM at h;split at h
 ·exact⟨h,λ_ X k=>rfl⟩
 ·rename_i d;cases hN:Nat.blt d N with
  |false=>rw[hN]at h;cases h
  |true=>rw[hN]at h;exact⟨h,λ_ X k=>by simp only[jM,hN,aq];rfl⟩
theorem aak[Inhabited Wd]{f:Nat}{dst:aj Tmp}{c:vH}{xs:af A}{k:S->aj X}(hc:r9 P f c)(h:CX N σ dst c xs k=some r):∃ τ,k τ=some r/\cD (λX k=>CX (X:=X) N σ dst c xs k) τ:=by
 unfold CX at h;obtain⟨az,y,h1,h2,_⟩:=hc _ _ _ _ _ _ h;obtain⟨h3,h4⟩:=mq h1;exact⟨_,h3,λX k=>(h2 X _).trans ((h4 az).at_ k)⟩
theorem jv.t{σ az:S}(h:jv p pb σ az){g:Nat}(hg:(σ.t g).mj p pb=true):az.t g=σ.t g:=by
 induction h with
 |refl=>rfl
 | root n x hn hb _ ih=>
  show (A.drop n _)=_;rw[ih];exact A.uF hg hn hb
 | bA ns nr hb _ ih=>
  show (A.bA ns [] _)=_;rw[ih];exact A.E9 hg hb.ns
 |rt n x hn _ ih=>exact ih
theorem jv.bp{σ az:S}(h:jv p pb σ az){t r j:Nat}(ht:σ.t t = .aG r j)(hr:pb r=false):az.t t = .aG r j:=by
 rw[<-ht];refine h.t ?_;rw[ht];show (!pb r)=true;rw[hr];rfl
def jT(p:Nat->Bool):A->Prop
 |.aG r _=>p r=true
 |.ptr _=>False
 |_=>True
theorem jT.drop{x:A}(h:jT p x)(n:Nat):jT p (x.drop n):=by
 cases x with
 | aG r j=>
  have e:A.drop n (.aG r j)=(bif Nat.beq r n then .undef else .aG r j):=rfl;rw[e];cases Nat.beq r n with
  |true=>trivial
  |false=>exact h
 |ptr k=>exact h.elim
 | view k s i j=>
  have e:A.drop n (.view k s i j)=(bif bH n k then .undef else .view k s i j):=rfl;rw[e];cases bH n k<;>trivial
 | pk r j=>
  have e:A.drop n (.pk r j)=(bif Nat.beq r n then .undef else .pk r j):=rfl;rw[e];cases Nat.beq r n<;>trivial
 | fn f cap=>
  have e:A.drop n (.fn f cap)=(bif cap.any (λp=>Nat.beq p.1 n)then .undef else .fn f cap):=rfl;rw[e];cases (cap.any λp=>Nat.beq p.1 n)<;>trivial
 |_=>trivial
theorem jT.bA{x:A}(h:jT p x)(ns cn:af Nat):jT p (x.bA ns cn):=by
 cases x with
 | aG r j=>
  have e:A.bA ns cn (.aG r j)=(bif cc r cn then .undef else .aG r j):=rfl;rw[e];cases cc r cn with
  |true=>trivial
  |false=>exact h
 |ptr k=>exact h.elim
 | view k s i j=>
  have e:A.bA ns cn (.view k s i j)=(bif cF k cn ||cF k ns then .undef else .view k s i j):=rfl;rw[e];cases (cF k cn ||cF k ns)<;>trivial
 | pk r j=>
  have e:A.bA ns cn (.pk r j)=(bif cc r cn then .undef else .pk r j):=rfl;rw[e];cases cc r cn<;>trivial
 | fn f cap=>
  have e:A.bA ns cn (.fn f cap)=(bif cap.any (λp=>cc p.1 cn)then .undef else .fn f cap):=rfl;rw[e];cases (cap.any λp=>cc p.1 cn)<;>trivial
 |_=>trivial
theorem jv.st{p':Nat->Bool}{σ az:S}(h:jv p pb σ az){t:Nat}(ht:jT p' (σ.t t)):jT p' (az.t t):=by
 induction h with
 |refl=>exact ht
 |root n x hn hb _ ih=>exact ih.drop n
 |bA ns nr hb _ ih=>exact ih.bA ns []
 |rt n x hn _ ih=>exact ih
theorem jv.Fa{σ az:S}(h:jv p pb σ az){x:Operand}(hx:(aF σ x).mj p pb=true):aF az x=aF σ x:=by
 cases x with
 |tmp t=>exact h.t hx
 |const v=>rfl
 |global g=>rfl
 |func f=>rfl
theorem jv.val{σ az:S}(h:jv p pb σ az){op:Op}{v:A}(hd:cD (λX k=>eU (X:=X) P σ op k) v)(cw:∀ y∈op.operands,(aF σ y).mj p pb=true)(hv:v.mj p pb=true)(ta:∀ t y r j,op = .load t y->aF σ y = .aG r j->p r=false):cD (λX k=>eU (X:=X) P az op k) v:=by
 have hl:∀ {az:S},jv p pb σ az->∀ t y r j,op = .load t y->aF az y = .aG r j->p r=false:=by
  intro az hg t y r j e h;refine ta t y r j e ?_;rw[<-hg.Fa (cw y (by rw[e];simp[Op.operands]))];exact h
 induction h with
 |refl=>exact hd
 | root n x hn hb hg ih=>
  exact ajG ih hn hb (λy hy=>by rw[hg.Fa (cw y hy)];exact cw y hy) hv
 | bA ns nr hb hg ih=>
  exact ajI ih hb (λy hy=>by rw[hg.Fa (cw y hy)];exact cw y hy) hv (hl hg)
 | rt n x hn hg ih=>
  exact ajJ ih hn (λy hy=>by rw[hg.Fa (cw y hy)];exact cw y hy) hv (hl hg)
theorem jv.trans{σ az uD:S}(h:jv p pb σ az)(h':jv p pb az uD):jv p pb σ uD:=by
 induction h' with
 |refl=>exact h
 |root n x hn hb _ ih=>exact .root n x hn hb ih
 |bA ns nr hb _ ih=>exact .bA ns nr hb ih
 |rt n x hn _ ih=>exact .rt n x hn ih
theorem yV:∀ (xs:af V) (c:Nat) (σ:S),(∀ n,c<=n->p n=true/\pb n=true)->jv p pb σ (jP c σ xs)
 |[],c,σ,h=>.refl σ
 | x :: xs,c,σ,h=>by
  simp only[jP];cases hf:x.aA with
  |true=>exact yV xs (c+1) σ (λn hn=>h n (by omega))
  |false=>exact .trans (.root c (.sl x) (h c (gZ _)).1 (h c (gZ _)).2 (.refl σ)) (yV xs (c+1) _ (λn hn=>h n (by omega)))
theorem C4:∀ (ps:af Pt) (c:Nat) (σ:S),(∀ n,c<=n->p n=true/\pb n=true)->jv p pb σ (mM c σ ps)
 |[],c,σ,h=>.refl σ
 |q::ps,c,σ,h=>(yV q.2 c σ h).trans (C4 ps _ _ (λn hn=>h n (by omega)))
theorem Bb{σ2:S}{ops:Array Oper}(h:∀ g b t,o.guard=some (g,b)->(ops[g]?).bind (·.dst)=some t->σ2.t t=σ.t t):gO σ2 ops o=gO σ ops o:=by
 unfold gO;split
 ·rfl
 ·rename_i g b hg;split
  next t ht=>rw[h g b t hg ht]
  ·rfl
def nQ(p pb:Nat->Bool)(x:A):Prop:=∀r,x = .lf (.own [r])->p r=true/\pb r=true
theorem nQ.drop{p pb:Nat->Bool}{x:A}(h:nQ p pb x)(n:Nat):nQ p pb (x.drop n):=by
 intro r hr;refine h r ?_;cases x with
 | lf l=>
  cases l with
  | own k=>
   have e:A.drop n (.lf (.own k)) = .lf (bif bH n k then .dead else .own k):=rfl;rw[e]at hr;cases hb:bH n k with
   |true=>rw[hb]at hr;cases hr
   |false=>rw[hb]at hr;exact hr
  |v z=>cases hr
  |dead=>cases hr
 | aG q j=>
  have e:A.drop n (.aG q j)=(bif Nat.beq q n then .undef else .aG q j):=rfl;rw[e]at hr;cases hb:Nat.beq q n<;>rw[hb]at hr<;>cases hr
 | ptr k=>
  have e:A.drop n (.ptr k)=(bif bH n k then .undef else .ptr k):=rfl;rw[e]at hr;cases hb:bH n k<;>rw[hb]at hr<;>cases hr
 | view k s i j=>
  have e:A.drop n (.view k s i j)=(bif bH n k then .undef else .view k s i j):=rfl;rw[e]at hr;cases hb:bH n k<;>rw[hb]at hr<;>cases hr
 | pk q j=>
  have e:A.drop n (.pk q j)=(bif Nat.beq q n then .undef else .pk q j):=rfl;rw[e]at hr;cases hb:Nat.beq q n<;>rw[hb]at hr<;>cases hr
 | fn f cap=>
  have e:A.drop n (.fn f cap)=(bif cap.any (λp=>Nat.beq p.1 n)then .undef else .fn f cap):=rfl;rw[e]at hr;cases hb:(cap.any λp=>Nat.beq p.1 n)<;>rw[hb]at hr<;>cases hr
 |_=>cases hr
theorem nQ.bA{p pb:Nat->Bool}{x:A}(h:nQ p pb x)(ns cn:af Nat):nQ p pb (x.bA ns cn):=by
 intro r hr;refine h r ?_;cases x with
 | lf l=>
  have e:A.bA ns cn (.lf l) = .lf (l.bA ns cn):=rfl;rw[e]at hr;injection hr with hr;unfold Lf.bA at hr;split at hr
  next k=>cases hb:(cF k cn ||(cF k ns && !Nat.beq k.length 1))<;>simp_all
  ·rw[hr]
 | aG q j=>
  have e:A.bA ns cn (.aG q j)=(bif cc q cn then .undef else .aG q j):=rfl;rw[e]at hr;cases hb:cc q cn<;>rw[hb]at hr<;>cases hr
 | ptr k=>
  unfold A.bA at hr;simp only at hr;exfalso;revert hr;cases (cF k cn ||cF k ns)<;>simp
 | view k s i j=>
  have e:A.bA ns cn (.view k s i j)=(bif cF k cn ||cF k ns then .undef else .view k s i j):=rfl;rw[e]at hr;cases hb:(cF k cn ||cF k ns)<;>rw[hb]at hr<;>cases hr
 | pk q j=>
  have e:A.bA ns cn (.pk q j)=(bif cc q cn then .undef else .pk q j):=rfl;rw[e]at hr;cases hb:cc q cn<;>rw[hb]at hr<;>cases hr
 | fn f cap=>
  have e:A.bA ns cn (.fn f cap)=(bif cap.any (λp=>cc p.1 cn)then .undef else .fn f cap):=rfl;rw[e]at hr;cases hb:(cap.any λp=>cc p.1 cn)<;>rw[hb]at hr<;>cases hr
 |_=>cases hr
theorem jv.tg{p' pb':Nat->Bool}{σ az:S}(h:jv p pb σ az){t:Nat}(ht:nQ p' pb' (σ.t t)):nQ p' pb' (az.t t):=by
 induction h with
 |refl=>exact ht
 |root n x hn hb _ ih=>exact ih.drop n
 |bA ns nr hb _ ih=>exact ih.bA ns []
 |rt n x hn _ ih=>exact ih
structure uG (P:Program) (N:Nat) (Φ:eS) (o:Oper) (p pb:Nat->Bool) (nc τ:S) where
 G:S->S
 u:A
 eq:τ=iq (G nc) o.dst u
 run:∀σ2:S,(∀x∈o.op.operands,aF σ2 x=aF nc x)->σ2.m=nc.m->dG P N Φ σ2 o some=some (iq (G σ2) o.dst u)
 grow:∀σ,jv p pb σ (G σ)
 set:∀(σ:S) d v,(A.mj p pb v)=true->G (σ.set d v)=(G σ).set d v
 bp:isApp o=false->∀(σ:S) t r j,σ.t t = .aG r j->eF o r=false->(G σ).t t = .aG r j
theorem uG.new{nc:S}{d:Nat}(hd:o.dst=some d)(hp:p d=true/\pb d=true)(dR:eF o d=true)(x:aW)(u:A){τ:S}(e:τ=((nc.drop d).root d x).set d u)
  (hr:∀σ2:S,(∀x∈o.op.operands,aF σ2 x=aF nc x)->dG P N Φ σ2 o some=some (((σ2.drop d).root d x).set d u)):Nonempty (uG P N Φ o p pb nc τ):=
 ⟨{ G:=λσ=>(σ.drop d).root d x,u:=u,eq:=by rw[hd];exact e,run:=λσ2 h _=>by rw[hr σ2 h,hd];rfl,grow:=λσ=>.root d x hp.1 hp.2 (.refl σ),
    set:=λσ e v hv=>by rw[S.drop_set d (A.uF hv hp.1 hp.2)];rfl
    bp:=λ_ σ t r j ht hr=>by
     show A.drop d (σ.t t)=_;rw[ht];have:Nat.beq r d=false:=by
      cases hb:Nat.beq r d with
      |false=>rfl
      |true=>rw[cz hb,dR]at hr;cases hr
     simp only[A.drop,this,au] }⟩
theorem ajK[Inhabited Wd](bS:ig P Φ){τ:S}(ht:M7 Φ o.op=true)(hp:∀ n,eF o n=true->p n=true/\pb n=true)(h:dG P N Φ σ o some=some τ):Nonempty (uG P N Φ o p pb σ τ):=by
 have h0:=h;unfold dG at h;cases hv:gH o.op with
 | true=>
  rw[hv,aq]at h;obtain⟨v,h1,hd,_⟩:=IZ (w0:=default) (N:=N) h;obtain⟨h2,h3⟩:=mq h1;injection h2 with h2
  refine⟨{ G:=λσ=>σ,u:=v,eq:=h2.symm,run:=λσ2 ho hm=>?_,grow:=.refl,set:=λ_ _ _ _=>rfl,bp:=λ_ _ _ _ _ h _=>h }⟩
  unfold dG;rw[hv,aq,I0 o.op hm ho];refine(hd.at_ _).trans ?_;exact(h3 σ2).at_ _
 | false=>
  rw[hv,au]at h;have bq:∀σ2,dG P N Φ σ2 o some=jF P N Φ σ2 o some:=λσ2=>by unfold dG;rw[hv,au]
  unfold jF at h bq;unfold M7 at ht;rw[hv,Bool.false_or]at ht;split at h
  ·rename_i e ho;obtain⟨d,hd,h⟩:=iU h;obtain⟨x,y,h1,_,h2⟩:=ZR h;injection h1 with h1;have dR:eF o d=true:=by unfold eF;rw[hd,ho];exact Nat.beq_refl d
   refine uG.new hd (hp d dR) dR x y h1.symm λσ2 _=>?_
   rw[bq,ho];simp only[fD,hd];exact(h2 σ2).at_ _
  ·rename_i e x ho;obtain⟨d,hd,h⟩:=iU h;obtain⟨y,u,h1,h2⟩:=ZW h;injection h1 with h1;have dR:eF o d=true:=by unfold eF;rw[hd,ho];exact Nat.beq_refl d
   refine uG.new hd (hp d dR) dR _ _ h1.symm λσ2 cw=>?_
   rw[bq,ho];simp only[fD,hd];rw[cw x (by rw[ho];simp[Op.operands])];exact(h2 σ2).at_ _
  ·rename_i t len parts ho;obtain⟨d,hd,h⟩:=iU h;have dR:eF o d=true:=by unfold eF;rw[hd,ho];exact Nat.beq_refl d
   cases hn:qe t with
   | true=>
    rw[hn,aq]at h;obtain⟨y,u,h1,h2⟩:=ZZ h;injection h1 with h1
    refine uG.new hd (hp d dR) dR _ _ h1.symm λσ2 cw=>?_
    rw[bq,ho];simp only[fD,hd,hn,aq]
    refine(h2 σ2 λq hq=>cw _ ?_).at_ _
    rw[ho];simp only[Op.operands];exact List.mem_toArray.2 (List.mem_map_of_mem (f:=(·.2)) hq)
   | false=>
    rw[hn,au]at h;obtain⟨y,h1,h2⟩:=Tu h;injection h1 with h1
    refine uG.new hd (hp d dR) dR _ _ h1.symm λσ2 cw=>?_
    rw[bq,ho];simp only[fD,hd,hn,au]
    refine(h2 σ2 λq hq=>cw _ ?_).at_ _
    rw[ho];simp only[Op.operands];exact List.mem_toArray.2 (List.mem_map_of_mem (f:=(·.2)) hq)
  next t x y ho=>rw[ho]at ht;cases ht
  ·rename_i t l c ho;obtain⟨d,hd,h⟩:=iU h;obtain⟨y,h1,h2⟩:=Tt h;injection h1 with h1;have dR:eF o d=true:=by unfold eF;rw[hd,ho];exact Nat.beq_refl d
   refine uG.new hd (hp d dR) dR _ _ h1.symm λσ2 cw=>?_
   rw[bq,ho];simp only[fD,hd];rw[cw l (by rw[ho];simp[Op.operands]),cw c (by rw[ho];simp[Op.operands])];exact(h2 σ2).at_ _
  ·rename_i f args dV ho;split at h
   rotate_left
   next c hc=>rw[ho]at ht;simp[hc]at ht
   next c hc=>rw[ho]at ht;simp[hc]at ht
   next F hc=>rw[ho]at ht;simp[hc]at ht
   next c hc=>rw[ho]at ht;simp[hc]at ht
   next c hc=>rw[ho]at ht;simp[hc]at ht
   ·rename_i c hc;obtain⟨d,hd,h⟩:=iU h;obtain⟨res,gv,h1,h2,h3⟩:=aiT (bS f _ hc).2 h;injection h2 with h2;subst h2;have dR:∀ n,1000000000100000+1000*d<=n->eF o n=true:=λn hn=>by unfold eF;rw[hd,ho];exact jV hn
    have kD:∀n,1000000000100000+1000*d<=n->p n=true/\pb n=true:=λn hn=>hp n (dR n hn)
    have Bc:∀ σ2:S,(∀ x∈o.op.operands,aF σ2 x=aF σ x)->σ2.m=σ.m->∀ (X:Type) (k:af Pt->aj X),pq σ2 args.toList k=pq σ args.toList k:=by
     intro σ2 cw hm X k
     refine aah hm _ _ λx hx=>cw x ?_
     rw[ho];simp only[Op.operands,Call.operands];simp only[Array.mem_append]
     first
      |exact .inr (by simpa using hx)
      |exact .inl (by simpa using hx)
    unfold qV at h1 h3;cases res with
    | one q=>
     simp only at h1 h3;split at h1
     ·rename_i y hy;injection h1 with h1
      refine⟨{ G:=λσ=>jP (1000000000100000+1000*d) σ q.2,u:=y,eq:=by rw[hd];exact h1.symm,run:=λσ2 cw hm=>?_,grow:=λσ=>yV q.2 _ σ kD,set:=λσ e v hv=>E4 v q.2 _ σ λn hn=>A.uF hv (kD n hn).1 (kD n hn).2,bp:=λ_ σ t r j ht hr=>(yV (p:=eF o) (pb:=eF o) q.2 _ σ (λn hn=>⟨dR n hn,dR n hn⟩)).bp ht hr }⟩
      rw[bq,ho];simp only[fD,hd,hc];exact(h3 σ2 ((jP (1000000000100000+1000*d) σ2 q.2).set d y) (Bc σ2 cw hm) (by rw[hy])).at_ _
     ·cases h1
    | cP ps=>
     injection h1 with h1
     refine⟨{ G:=λσ=>mM (1000000000100000+1000*d) σ ps,u:=_,eq:=by rw[hd];exact h1.symm,run:=λσ2 cw hm=>?_,grow:=λσ=>C4 ps _ σ kD,set:=λσ e v hv=>MT v ps _ σ λn hn=>A.uF hv (kD n hn).1 (kD n hn).2,bp:=λ_ σ t r j ht hr=>(C4 (p:=eF o) (pb:=eF o) ps _ σ (λn hn=>⟨dR n hn,dR n hn⟩)).bp ht hr }⟩
     rw[bq,ho];simp only[fD,hd,hc];exact(h3 σ2 _ (Bc σ2 cw hm) rfl).at_ _
   next c hc=>rw[ho]at ht;simp[hc]at ht
   ·cases h
   ·rename_i c hc;obtain⟨d,hd,h⟩:=iU h;obtain⟨res,gv,h1,h2,h3⟩:=IK (bS f _ hc).2 h;injection h2 with h2;subst h2;have dR:∀ n,1000000000100000+1000*d<=n->eF o n=true:=λn hn=>by unfold eF;rw[hd,ho];exact jV hn
    have kD:∀n,1000000000100000+1000*d<=n->p n=true/\pb n=true:=λn hn=>hp n (dR n hn)
    have Bc:∀ σ2:S,(∀ x∈o.op.operands,aF σ2 x=aF σ x)->σ2.m=σ.m->∀ (X:Type) (k:af Pt->aj X),mL σ2 args.toList k=mL σ args.toList k:=by
     intro σ2 cw hm X k
     refine aag hm _ _ λx hx=>cw x ?_
     rw[ho];simp only[Op.operands,Call.operands];simp only[Array.mem_append]
     first
      |exact .inr (by simpa using hx)
      |exact .inl (by simpa using hx)
    unfold qV at h1 h3;cases res with
    | one q=>
     simp only at h1 h3;split at h1
     ·rename_i y hy;injection h1 with h1
      refine⟨{ G:=λσ=>jP (1000000000100000+1000*d) σ q.2,u:=y,eq:=by rw[hd];exact h1.symm,run:=λσ2 cw hm=>?_,grow:=λσ=>yV q.2 _ σ kD,set:=λσ e v hv=>E4 v q.2 _ σ λn hn=>A.uF hv (kD n hn).1 (kD n hn).2,bp:=λ_ σ t r j ht hr=>(yV (p:=eF o) (pb:=eF o) q.2 _ σ (λn hn=>⟨dR n hn,dR n hn⟩)).bp ht hr }⟩
      rw[bq,ho];simp only[fD,hd,hc];exact(h3 σ2 ((jP (1000000000100000+1000*d) σ2 q.2).set d y) (Bc σ2 cw hm) (by rw[hy])).at_ _
     ·cases h1
    | cP ps=>
     injection h1 with h1
     refine⟨{ G:=λσ=>mM (1000000000100000+1000*d) σ ps,u:=_,eq:=by rw[hd];exact h1.symm,run:=λσ2 cw hm=>?_,grow:=λσ=>C4 ps _ σ kD,set:=λσ e v hv=>MT v ps _ σ λn hn=>A.uF hv (kD n hn).1 (kD n hn).2,bp:=λ_ σ t r j ht hr=>(C4 (p:=eF o) (pb:=eF o) ps _ σ (λn hn=>⟨dR n hn,dR n hn⟩)).bp ht hr }⟩
     rw[bq,ho];simp only[fD,hd,hc];exact(h3 σ2 _ (Bc σ2 cw hm) rfl).at_ _
  next x y t t' ho=>rw[ho]at ht;cases ht
  next t ho=>rw[ho]at ht;cases ht
  next t x i ho=>rw[ho]at ht;cases ht
  next t x i v ho=>rw[ho]at ht;cases ht
  next t args dV ho=>rw[ho]at ht;cases ht
  next f IT ho=>rw[ho]at ht;cases ht
  next x t ho=>rw[ho]at ht;cases ht
  ·cases h
theorem Nf[Inhabited Wd](bS:ig P Φ){k:S->aj X}(h:dG P N Φ σ o k=some r):∃ τ,k τ=some r/\∀ (X':Type) (k':S->aj X'),dG P N Φ σ o k'=k' τ:=by
 unfold dG at h ⊢;cases hv:gH o.op with
 | true=>
  rw[hv,aq]at h;obtain⟨v,h1,hd,_⟩:=IZ (w0:=default) (N:=N) h;obtain⟨h2,h3⟩:=mq h1
  refine⟨_,h2,λX' k'=>?_⟩
  rw[aq];exact(hd.at_ (λv=>jM N σ o.dst v k')).trans ((h3 σ).at_ _)
 | false=>
  rw[hv,au]at h;show ∃τ,k τ=some r/\∀(X':Type) (k':S->aj X'),jF P N Φ σ o k'=k' τ;unfold jF at h ⊢;split at h
  ·obtain⟨d,hd,h⟩:=iU h;obtain⟨x,y,h1,_,h2⟩:=ZR h;exact⟨_,h1,λ_ _=>by simp only[fD,hd];exact(h2 σ).at_ _⟩
  ·obtain⟨d,hd,h⟩:=iU h;obtain⟨y,u,h1,h2⟩:=ZW h;exact⟨_,h1,λ_ _=>by simp only[fD,hd];exact(h2 σ).at_ _⟩
  ·rename_i t len parts ho;obtain⟨d,hd,h⟩:=iU h;cases hn:qe t with
   | true=>
    rw[hn,aq]at h;obtain⟨y,u,h1,h2⟩:=ZZ h;exact⟨_,h1,λ_ _=>by simp only[fD,hd,aq];exact(h2 σ λ_ _=>rfl).at_ _⟩
   | false=>
    rw[hn,au]at h;obtain⟨y,h1,h2⟩:=Tu h;exact⟨_,h1,λ_ _=>by simp only[fD,hd,au];exact(h2 σ λ_ _=>rfl).at_ _⟩
  ·split at h
   ·rename_i t x y ho _ hd;cases hn:xg (aF σ x) (aF σ y)with
    | true=>
     rw[hn,aq]at h;obtain⟨τ,h1,h2⟩:=ai2 h;exact⟨τ,h1,λ_ _=>by simp only[aq];exact h2.at_ _⟩
    | false=>
     rw[hn,au]at h;obtain⟨τ,h1,h2⟩:=ZU h;exact⟨τ,h1,λ_ _=>by simp only[au];exact h2.at_ _⟩
   ·cases h
  ·obtain⟨d,hd,h⟩:=iU h;obtain⟨y,h1,h2⟩:=Tt h;exact⟨_,h1,λ_ _=>by simp only[fD,hd];exact(h2 σ).at_ _⟩
  ·rename_i f args dV ho;split at h
   next c hc=>obtain⟨d,hd,h⟩:=iU h;obtain⟨res,τ,h1,h2,h3⟩:=IK (bS f _ hc).2 h;exact⟨τ,h2,λ_ _=>by simp only[fD,hd];exact(h3 σ τ (λ_ _=>rfl) h1).at_ _⟩
   next c hc=>obtain⟨τ,h1,h2⟩:=TA h;exact⟨τ,h1,λ_ _=>h2.at_ _⟩
   next c hc=>obtain⟨d,hd,h⟩:=iU h;obtain⟨τ,h1,h2⟩:=ai6 h;exact⟨τ,h1,λ_ _=>by simp only[fD,hd];exact h2.at_ _⟩
   ·rename_i F hc;obtain⟨d,hd,h⟩:=iU h;split at h
    next x hx=>obtain⟨τ,h1,h2⟩:=ai3 h;exact⟨τ,h1,λ_ _=>by simp only[fD,hd];exact h2.at_ _⟩
    ·cases h
   next c hc=>obtain⟨τ,h1,h2⟩:=aak (bS f _ hc).2 h;exact⟨τ,h1,λ_ _=>h2.at_ _⟩
   next c hc=>obtain⟨τ,h1,h2⟩:=aiC (λh=>let ⟨τ,g1,g2⟩:=TA h;⟨τ,g1,λX k=>g2 X k⟩) h;exact⟨τ,h1,h2⟩
   next c hc=>obtain⟨d,hd,h⟩:=iU h;obtain⟨τ,h1,h2⟩:=aiS (bS f _ hc).2 h;exact⟨τ,h1,λ_ _=>by simp only[fD,hd];exact h2.at_ _⟩
   next c hc=>obtain⟨τ,h1,h2⟩:=ajd h;exact⟨τ,h1,h2⟩
   ·cases h
  ·rename_i x y t t' ho;cases gG:Nat.beq t t' with
   |false=>rw[gG]at h;cases h
   | true=>
    rw[gG,aq]at h;obtain⟨d,hd,h⟩:=iU h;cases hn:qe t with
    | true=>
     rw[hn,aq]at h;obtain⟨τ,h1,h2⟩:=ai0 h;exact⟨τ,h1,λ_ _=>by simp only[aq,fD,hd];exact h2.at_ _⟩
    | false=>
     rw[hn,au]at h;cases hk:IS t d x with
     | true=>
      rw[hk,aq]at h;obtain⟨τ,h1,h2⟩:=ajq h;exact⟨τ,h1,λ_ _=>by simp only[aq,au,fD,hd,hk];exact h2.at_ _⟩
     | false=>
      rw[hk,au]at h;obtain⟨τ,h1,h2⟩:=aiQ h;exact⟨τ,h1,λ_ _=>by simp only[aq,au,fD,hd,hk];exact h2.at_ _⟩
  next t ho=>obtain⟨d,hd,h⟩:=iU h;obtain⟨τ,h1,h2⟩:=ajj h;exact⟨τ,h1,λ_ _=>by simp only[fD,hd];exact h2.at_ _⟩
  next t x i ho=>obtain⟨v,h1,h2,_⟩:=Z9 (w0:=default) (N:=N) h;obtain⟨h3,h4⟩:=mq h1;exact⟨_,h3,λ_ _=>(h2.at_ _).trans ((h4 σ).at_ _)⟩
  ·rename_i t x i v ho;split at h
   next hd=>obtain⟨τ,h1,h2,_⟩:=aaa (w0:=default) (N:=N) h;exact⟨τ,h1,λ_ _=>h2.at_ _⟩
   ·cases h
  ·rename_i t args dV ho;split at h
   ·rename_i f cap dZ;split at h
    next c hc=>obtain⟨τ,h1,h2⟩:=aak (bS f _ hc).2 h;exact⟨τ,h1,λ_ _=>h2.at_ _⟩
    ·cases h
   ·cases h
  ·rename_i f IT ho;split at h
   next ps jm=>obtain⟨h3,h4⟩:=mq h;exact⟨_,h3,λ_ _=>(h4 σ).at_ _⟩
   ·cases h
  ·obtain⟨nc,h1,h2⟩:=ahA h;obtain⟨h3,h4⟩:=mq h1;exact⟨_,h3,λ_ _=>(h2 _ _).trans ((h4 nc).at_ _)⟩
  ·cases h
theorem ajL[Inhabited Wd](bS:ig P Φ){k:S->aj X}(h:dG P N Φ σ o k=some r):∃ τ,k τ=some r/\dG P N Φ σ o some=some τ:=
 let ⟨τ,h1,h2⟩:=Nf bS h
 ⟨τ,h1,h2 S some⟩
theorem TS[Inhabited Wd](bS:ig P Φ){ops:Array Oper}{k:S->aj X}(h:dI P N Φ ops σ o k=some r):∃ τ,k τ=some r/\dI P N Φ ops σ o some=some τ:=by
 unfold dI at h ⊢;split at h
 ·exact ajL bS h
 ·obtain⟨h1,h2⟩:=mq h;exact⟨_,h1,(h2 σ).at_ _⟩
 ·cases h
theorem TT{ops:Array Oper}{b:Bool}(h:gO σ ops o=some b):∀ g c t,o.guard=some (g,c)->(ops[g]?).bind (·.dst)=some t->(σ.t t).mj p pb=true:=by
 intro g c t hg ht;unfold gO at h;rw[hg]at h;simp only[ht]at h;split at h
 next hb=>rw[hb];rfl
 next hb=>rw[hb];rfl
 ·cases h
theorem Fb{ops:Array Oper}{d:Nat}(h:d ∉ o.looksAt ops)(v:A){x:Operand}(hx:x∈o.op.operands):aF (σ.set d v) x=aF σ x:=by
 cases x with
 | tmp t=>
  have:t≠d:=by
   rintro rfl;exact h (List.mem_append_left _ (List.mem_filterMap.2 ⟨.tmp t,by simpa using hx,rfl⟩))
  exact cL _ _ _ this
 |_=>rfl
theorem TU{ops:Array Oper}{d:Nat}(h:d ∉ o.looksAt ops)(v:A):∀ g b t,o.guard=some (g,b)->(ops[g]?).bind (·.dst)=some t->(σ.set d v).t t=σ.t t:=by
 intro g b t hg ht;have:t≠d:=by
  rintro rfl;refine h (List.mem_append_right _ ?_);rw[hg];simp only[ht];simp
 exact cL _ _ _ this
def oE(P:Program)(ops:Array Oper)(oi:Oper)(p pb:Nat->Bool)(v:A)(σ:S):Prop:=
 (gO σ ops oi=some true/\gH oi.op=true/\cD (λX k=>eU (X:=X) P σ oi.op k) v/\(∀y∈oi.op.operands,(aF σ y).mj p pb=true)/\v.mj p pb=true/\∀t y r j,oi.op = .load t y->aF σ y = .aG r j->p r=false)\/(gO σ ops oi=some false/\v = .skip)
theorem oE.grow{ops:Array Oper}{oi:Oper}{v:A}(h:oE P ops oi p pb v σ){az:S}(hg:jv p pb σ az):oE P ops oi p pb v az:=by
 rcases h with ⟨h1,h2,h3,h4,h5,h6⟩|⟨h1,h2⟩
 ·refine .inl ⟨?_,h2,hg.val h3 h4 h5 h6,λy hy=>?_,h5,λt y r j e h=>?_⟩
  ·rw[Bb λg b t e1 e2=>hg.t (TT h1 g b t e1 e2)];exact h1
  ·rw[hg.Fa (h4 y hy)];exact h4 y hy
  ·exact h6 t y r j e (by rw[<-hg.Fa (h4 y (by rw[e];simp[Op.operands]))];exact h)
 ·refine .inr ⟨?_,h2⟩;rw[Bb λg b t e1 e2=>hg.t (TT h1 g b t e1 e2)];exact h1
theorem oE.set{ops:Array Oper}{oi:Oper}{v u:A}(h:oE P ops oi p pb v σ){d:Nat}(hd:d ∉ oi.looksAt ops):oE P ops oi p pb v (σ.set d u):=by
 rcases h with ⟨h1,h2,h3,h4,h5,h6⟩|⟨h1,h2⟩
 ·refine .inl ⟨?_,h2,λX k=>?_,λy hy=>?_,h5,λt y r j e h=>?_⟩
  ·rw[Bb (TU hd u)];exact h1
  ·exact(I0 (σ:=σ) (σ2:=σ.set d u) oi.op rfl (λx hx=>Fb hd u hx) k).trans (h3.at_ k)
  ·rw[Fb hd u hy];exact h4 y hy
  ·exact h6 t y r j e (by rw[<-Fb hd u (by rw[e];simp[Op.operands])];exact h)
 ·refine .inr ⟨?_,h2⟩;rw[Bb (TU hd u)];exact h1
theorem oE.put{ops:Array Oper}{oi:Oper}{v u:A}(h:oE P ops oi p pb v σ){dst:aj Tmp}(hd:∀ d,dst=some d->d ∉ oi.looksAt ops):oE P ops oi p pb v (iq σ dst u):=by
 cases dst with
 |none=>exact h
 |some d=>exact h.set (hd d rfl)
theorem oE.nr{ops:Array Oper}{oi:Oper}{v:A}(h:oE P ops oi p pb v σ):v.mj p pb=true:=by
 rcases h with ⟨_,_,_,_,h5,_⟩|⟨_,h2⟩
 ·exact h5
 ·rw[h2];rfl
theorem aal{x y:aj Tmp}(v u:A)(h:∀ d,x=some d->y≠some d):iq (iq σ x v) y u=iq (iq σ y u) x v:=by
 cases x with
 |none=>rfl
 | some d=>cases y with
  |none=>rfl
  |some e=>exact S.set_set (λhe=>h d rfl (cA some he)) v u
theorem ajM(x:aj Tmp)(v:A):(iq σ x v).m=σ.m:=by cases x<;>rfl
theorem Ng{ops:Array Oper}{dst:aj Tmp}(h:∀ d,dst=some d->d ∉ o.looksAt ops)(v:A){x:Operand}(hx:x∈o.op.operands):aF (iq σ dst v) x=aF σ x:=by
 cases dst with
 |none=>rfl
 |some d=>exact Fb (h d rfl) v hx
theorem ajN{ops:Array Oper}{dst:aj Tmp}(h:∀ d,dst=some d->d ∉ o.looksAt ops)(v:A):gO (iq σ dst v) ops o=gO σ ops o:=by
 cases dst with
 |none=>rfl
 |some d=>exact Bb (TU (h d rfl) v)
/-! Calls that write blocks alone. -/
theorem aam{σ2:S}(hm:σ2.m=σ.m)(ns:af Nat):∀ (xs:af Lf) (k:af V->aj X),qS σ2 ns xs k=qS σ ns xs k
 |[],k=>rfl
 | x :: xs,k=>by
  simp only[qS,E8 hm];congr 2;funext y;exact aam hm ns xs _
theorem ajO{σ2:S}(hm:σ2.m=σ.m)(ns:af Nat)(x:A)(k:Pt->aj X):qb σ2 ns x k=qb σ ns x k:=by
 unfold qb;split<;>simp only[aam hm,hm]
theorem ajP{σ2:S}(hm:σ2.m=σ.m)(p:PK)(x:A):w6 σ2 p x=w6 σ p x:=by
 cases p<;>simp only[w6,hm]
theorem aan{σ2:S}(hm:σ2.m=σ.m):∀ (ps:af PK) (xs:af Operand),(∀ x∈xs,aF σ2 x=aF σ x)->lF σ2 ps xs=lF σ ps xs
 |[],[],_=>rfl
 |[],_::_,_=>rfl
 |_::_,[],_=>rfl
 | p :: ps,x :: xs,h=>by
  simp only[lF];rw[h x (.head _),ajP hm,aan hm ps xs (λy hy=>h y (.tail _ hy))]
theorem Nh{σ2:S}(hm:σ2.m=σ.m)(ns:af Nat):∀ (ps:af PK) (xs:af Operand) (aL:af Mu) (k:nL ps->aj X),(∀ x∈xs,aF σ2 x=aF σ x)->jR σ2 ns ps xs aL k=jR σ ns ps xs aL k
 |[],[],[],k,_=>rfl
 | .v b t :: ps,x :: xs,aL,k,h=>by
  simp only[jR];rw[h x (.head _),ajO hm];congr 1;funext p;congr 1;split
  ·exact Nh hm ns ps xs aL _ (λy hy=>h y (.tail _ hy))
  ·rfl
 | .p t g off :: ps,x :: xs,.ax r' cs vs :: aL,k,h=>by
  simp only[jR];split
  ·exact Nh hm ns ps xs aL _ (λy hy=>h y (.tail _ hy))
  ·rfl
 | .s t g :: ps,x :: xs,.sl q y0 :: aL,k,h=>by
  simp only[jR];split
  ·exact Nh hm ns ps xs aL _ (λy hy=>h y (.tail _ hy))
  ·rfl
 |[],[],_::_,k,_=>rfl
 |[],_::_,_,k,_=>rfl
 |.v _ _::_,[],_,k,_=>rfl
 |.p _ _ _::_,[],_,k,_=>rfl
 |.s _ _::_,[],_,k,_=>rfl
 |.p _ _ _::_,_::_,[],k,_=>rfl
 |.s _ _::_,_::_,[],k,_=>rfl
 |.p _ _ _::_,_::_,.sl _ _::_,k,_=>rfl
 |.s _ _::_,_::_,.ax _ _ _::_,k,_=>rfl
theorem ajQ{m:Nat->aj aW}{l:Lf}{v:V}{q:Nat}(h:w5 m l=some (v,some q)):v.aA=false:=by
 unfold w5 at h;split at h
 ·simp at h
 ·split at h
  ·rename_i y _;cases hf:y.aA with
   |true=>rw[hf]at h;simp at h
   | false=>
    rw[hf,au]at h;simp only[gp,jL]at h;rw[<-h.1];exact hf
  ·cases h
 ·cases h
theorem aao{m:Nat->aj aW}:∀ {cs:af Lf} {vs:af (V×aj Nat)},th m cs=some vs->(∀ v∈vs,v.1.aA=true)->∀ v∈vs,v.2=none
 |[],vs,h,_=>by injection h with h;subst h;simp
 | c :: cs,vs,h,hf=>by
  unfold th at h;split at h
  ·rename_i v Cp h1 h2;injection h with h;subst h;intro u hu;rcases iL.1 hu with rfl | hu
   ·obtain⟨x,q⟩:=u;cases q with
    |none=>rfl
    |some q=>have:=ajQ h1;rw[hf _ (.head _)]at this;cases this
   ·exact aao h2 (λv hv=>hf v (.tail _ hv)) u hu
  ·cases h
theorem aap{i:Nat}:∀ (vs:af (V×aj Nat)) (j:Nat),(∀ v∈vs,v.2=none)->EZ i j vs=[]
 |[],_,_=>rfl
 | (x,q) :: vs,j,h=>by
  have:=h _ (.head _);simp only at this;subst this;exact aap vs (j+1) (λv hv=>h v (.tail _ hv))
theorem TV:∀ (dW:af Nat) (xs:af V),(∀ x∈xs,x.aA=true)->w8 dW xs=[]/\vE dW xs=[]
 |[],[],_=>⟨rfl,rfl⟩
 |[],_::_,_=>⟨rfl,rfl⟩
 |_::_,[],_=>⟨rfl,rfl⟩
 | n :: dW,x :: xs,h=>by
  simp only[w8,vE,h x (.head _),aq];exact TV dW xs (λx hx=>h x (.tail _ hx))
def Fc(ps:af PK):Bool:=ps.all λp=>match p with
 |.v _ _=>true
 |.p _ g _=>Nat.beq g 0
 |.s _ _=>false
theorem TW{ns:af Nat}:∀ (ps:af PK) (xs:af Operand) (aL:af Mu) (k:nL ps->aj X),Fc ps=true->lF σ ps xs=some aL->jR σ ns ps xs aL k=some r->∀ (i pos c0:Nat) (y:vB (fC ps)),
  (∀p∈mN i aL,p.1∈jS σ ps xs)/\ox c0 pos aL (jQ (fC ps) y)=[]/\∀(I4 cn:af Nat),∀p∈m9 I4 cn c0 pos aL (jQ (fC ps) y),p.1∈jS σ ps xs
 | [],[],aL,k,_,hm,h=>by
  injection hm with hm;subst hm;intro i pos c0 y;exact⟨(λp hp=>by cases hp),by simp[ox],(λ_ _ p hp=>by simp[m9]at hp)⟩
 | .v b t :: ps,x :: xs,aL,k,hf,hm,h=>by
  have og:lF σ ps xs=some aL:=by
   unfold lF at hm;split at hm
   next mu lR h1 h2=>exact(w7 h1).elim
   next lR h1 h2=>rw[h2];exact hm
   ·cases hm
  have rU:Fc ps=true:=by simpa [Fc]using hf
  unfold jR at h;obtain⟨p,h2,_⟩:=Z3 h;cases hb:p.1==b with
  |false=>rw[hb]at h2;cases h2
  | true=>
   rw[hb,aq]at h2;split at h2
   ·intro i pos c0 y;exact TW ps xs aL _ rU og h2 i pos c0 y
   ·cases h2
 | .p t g off :: ps,x :: xs,aL,k,hf,hm,h=>by
  unfold lF at hm;split at hm
  ·rename_i mu lR h1 h2;injection hm with hm;subst hm;have h1:=w7 h1;cases mu with
   |sl=>exact h1.elim
   | ax r' cs vs=>
    have h1:aF σ x = .aG r' off/\AR σ (.ax r' cs vs):=h1;have hf:Nat.beq g 0=true/\Fc ps=true:=by simpa [Fc]using hf
    have hg:=cz hf.1;subst hg;unfold jR at h;split at h
    ·rename_i z hz;have hz:dec t 0 (vs.map (·.1))=some z:=hz;have hw:=nB t 0 _ z hz;have TX:∀ v∈vs,v.1.aA=true:=by
      intro v hv;obtain⟨j,hj⟩:=List.mem_iff_getElem?.1 hv;have Ni:(vs.map (·.1))[j]?=some v.1:=by rw[dH,hj];rfl
      have yh:j<(enc t 0 z).length:=by rw[<-hw.1];exact(dJ.1 Ni).1
      have hk:=hw.2 j _ _ Ni (bT yh);have sj:=lQ t 0 z (by omega) j _ (bT yh);cases TX:v.1.aA with
      |true=>rfl
      |false=>rw[hk.S8 TX]at sj;cases sj
     have hn:=aao h1.2.2.1 TX;intro i pos c0 y;obtain⟨k1,k2,k3⟩:=TW ps xs lR _ hf.2 h2 h (i+1) (pos+1+vs.length) c0 y.2;have hyf:∀ u∈enc t 0 y.1,u.aA=true:=by
      intro u hu;obtain⟨j,hj⟩:=List.mem_iff_getElem?.1 hu;exact lQ t 0 y.1 (by omega) j u hj
     have CS:jS σ (.p t 0 off::ps) (x::xs)=r'::jS σ ps xs:=by simp only[jS,h1.1]
     rw[CS]
     refine⟨λp hp=>?_,?_,λI4 cn p hp=>?_⟩
     ·simp only[mN,aap vs 0 hn,List.nil_append]at hp;rcases iL.1 hp with rfl | hp
      ·exact .head _
      ·exact .tail _ (k1 p hp)
     ·show w8 (ow c0 (pos+1) vs) (enc t 0 y.1)++ox c0 (pos+1+vs.length) lR (jQ (fC ps) y.2)=[]
      rw[(TV _ _ hyf).1,k2];rfl
     ·have hp:p∈(r',aW.ax (qT I4 cn (ow c0 (pos+1) vs) cs (enc t 0 y.1))) :: (vE (ow c0 (pos+1) vs) (enc t 0 y.1)++m9 I4 cn c0 (pos+1+vs.length) lR (jQ (fC ps) y.2)):=hp;rw[(TV _ _ hyf).2,List.nil_append]at hp;rcases iL.1 hp with rfl | hp
      ·exact .head _
      ·exact .tail _ (k3 I4 cn p hp)
    ·cases h
  next lR h1 h2=>exact(w7 h1).elim
  ·cases hm
 |.s t g::ps,x::xs,aL,k,hf,hm,h=>by simp[Fc]at hf
 |[],_::_,aL,k,_,hm,h=>by cases hm
 |_::_,[],aL,k,_,hm,h=>by cases hm
theorem S.Nj{ns:af Nat}{nr:af (Nat×aW)}(v:A)(h:v.bA ns []=v):(σ.set d v).bA ns [] nr=(σ.bA ns [] nr).set d v:=by
 refine S.ext' (λk=>?_) λ_=>rfl
 show (bP σ.t d v k).bA ns []=bP (λk=>(σ.t k).bA ns []) d v k;by_cases hk:k=d
 ·subst hk;rw[bY,bY];exact h
 ·rw[cL _ _ _ hk,cL _ _ _ hk]
theorem Nk{n:Nat}{x:aW}:∀ {l:af (Nat×aW)},l.lookup n=some x->(n,x)∈l
 |[],h=>by cases h
 | q :: l,h=>by
  rw[List.lookup_cons]at h;cases hb:n==q.1 with
  | true=>
   rw[hb]at h;have e:n=q.1:=by simpa using hb
   injection h with h;rw[e,<-h];exact .head _
  |false=>rw[hb]at h;exact .tail _ (Nk h)
theorem ajR{τ:S}{f:Nat}{args:Array Operand}{dV:Array TypeId}{c:pG}(ho:o.op = .call { callee:=.value (.func f),args,argTypes:=dV })(hc:Φ f=some (.m c))(hfl:M8 c=true)(hp:∀ n,eF o n=true->p n=true/\pb n=true)(AV:∀ n∈jS σ c.ps args.toList,p n=true)
  (h:dG P N Φ σ o some=some τ):Nonempty (uG P N Φ o p pb σ τ):=by
 have bq:∀ σ2,dG P N Φ σ2 o some=nM N σ2 o.dst c args.toList some:=by
  intro σ2;unfold dG;rw[show gH o.op=false by rw[ho];rfl,au];simp only[jF,ho,hc]
 rw[bq]at h;have Bc:∀ σ2:S,(∀ x∈o.op.operands,aF σ2 x=aF σ x)->∀ x∈args.toList,aF σ2 x=aF σ x:=by
  intro σ2 cw x hx;refine cw x ?_;rw[ho];simp only[Op.operands,Call.operands];simp only[Array.mem_append]
  first
   |exact .inr (by simpa using hx)
   |exact .inl (by simpa using hx)
 unfold nM at h;split at h
 ·rename_i aL oz;cases kC:(once (mN 0 aL)&&Nat.ble aL.length 40)with
  |false=>rw[kC]at h;cases h
  | true=>
   rw[kC,aq]at h;have ajS:=TW c.ps args.toList aL _ hfl oz h;obtain⟨x,h2,hd⟩:=CW _ _ _ _ h;split at h2
   ·rename_i y hy;obtain⟨k1,k2,k3⟩:=ajS 0 (fK c.ro y.1).len (ju o.dst) y.2;unfold AT at h2;rw[k2]at h2;generalize eK:CJ N aL (jQ (fC c.ps) y.2) []=ok at h2;cases ok with
    |false=>cases h2
    | true=>
     rw[aq]at h2;generalize vl:(mN 0 aL).map (·.1)=ns at h2 hd;generalize ID:m9 ns [] (ju o.dst) (fK c.ro y.1).len aL (jQ (fC c.ps) y.2)=nr at h2;have Fe:I3 p ns nr:=by
      refine⟨λn hn=>?_,λn x hx=>?_⟩
      ·rw[<-vl]at hn;obtain⟨q,hq,e⟩:=List.mem_map.1 (vD.1 hn);rw[<-e];exact AV _ (k1 q hq)
      ·rw[<-ID]at hx;exact AV _ (k3 ns [] _ (Nk hx))
     have ir:∀ σ2:S,(∀ x∈o.op.operands,aF σ2 x=aF σ x)->σ2.m=σ.m->nM N σ2 o.dst c args.toList some=oy N (σ2.bA ns [] nr) o.dst (fK c.ro y.1) some:=by
      intro σ2 cw hm;simp only[nM];rw[aan hm _ _ (Bc σ2 cw),oz];simp only[kC,aq];rw[vl,Nh hm _ _ _ _ _ (Bc σ2 cw)];refine(hd S _).trans ?_;simp only[hy,AT,k2,eK,aq,ID]
     have TY:∀ (σ:S) t r j,σ.t t = .aG r j->(σ.bA ns [] nr).t t = .aG r j:=by
      intro σ t r j ht;show A.bA ns [] (σ.t t)=_;rw[ht];rfl
     generalize iS:fK c.ro y.1=res at h2 ir;cases oF:o.dst with
     | none=>
      rw[oF]at h2;have h2:some (σ.bA ns [] nr)=some τ:=h2;injection h2 with h2;exact⟨{ G:=λσ=>σ.bA ns [] nr,u:=.undef,eq:=by rw[oF];exact h2.symm,run:=λσ2 cw hm=>by rw[bq,ir σ2 cw hm,oF];rfl,grow:=λσ=>.bA ns nr Fe (.refl σ),set:=λσ e v hv=>S.Nj v (A.E9 hv Fe.ns),bp:=λ_ σ t r j ht _=>TY σ t r j ht }⟩
     | some d=>
      rw[oF]at h2;have dR:∀n,1000000000100000+1000*d<=n->eF o n=true:=λn hn=>by unfold eF;rw[oF,ho];exact jV hn
      have kD:∀n,1000000000100000+1000*d<=n->p n=true/\pb n=true:=λn hn=>hp n (dR n hn)
      obtain⟨gv,h3,CQ⟩:=Z4 h2;injection h3 with h3;subst h3;cases hN:Nat.blt d N with
      |false=>simp only[oy,hN,au]at h2;cases h2
      | true=>
       simp only[oy,hN,aq]at h2;cases res with
       | one q=>
        simp only at h2;split at h2
        next u hu=>injection h2 with h2;exact⟨{ G:=λσ=>jP (1000000000100000+1000*d) (σ.bA ns [] nr) q.2,u:=u,eq:=by rw[oF];exact h2.symm,run:=λσ2 cw hm=>by rw[bq,ir σ2 cw hm,oF];simp only[oy,hN,aq,hu];rfl,grow:=λσ=>(jv.bA ns nr Fe (.refl σ)).trans (yV q.2 _ _ kD),set:=λσ e v hv=>by rw[S.Nj v (A.E9 hv Fe.ns),E4 v q.2 _ _ λn hn=>A.uF hv (kD n hn).1 (kD n hn).2],bp:=λ_ σ t r j ht hr=>(yV (p:=eF o) (pb:=eF o) q.2 _ _ (λn hn=>⟨dR n hn,dR n hn⟩)).bp (TY σ t r j ht) hr }⟩
        ·cases h2
       | cP ps=>
        injection h2 with h2;exact⟨{ G:=λσ=>mM (1000000000100000+1000*d) (σ.bA ns [] nr) ps,u:=_,eq:=by rw[oF];exact h2.symm,run:=λσ2 cw hm=>by rw[bq,ir σ2 cw hm,oF];simp only[oy,hN,aq];rfl,grow:=λσ=>(jv.bA ns nr Fe (.refl σ)).trans (C4 ps _ _ kD),set:=λσ e v hv=>by rw[S.Nj v (A.E9 hv Fe.ns),MT v ps _ _ λn hn=>A.uF hv (kD n hn).1 (kD n hn).2],bp:=λ_ σ t r j ht hr=>(C4 (p:=eF o) (pb:=eF o) ps _ _ (λn hn=>⟨dR n hn,dR n hn⟩)).bp (TY σ t r j ht) hr }⟩
   ·cases h2
 ·cases h
def Calm(Φ:eS)(ok:Nat->Nat->Bool)(tC oB p pb:Nat->Bool)(σ:S)(o:Oper):Prop:=
 M7 Φ o.op=true\/(∃f args dV c,o.op = .call { callee:=.value (.func f),args:=args,argTypes:=dV }/\Φ f=some (.m c)/\M8 c=true/\tu ok σ c.ps args.toList=true/\∀n∈jS σ c.ps args.toList,p n=true)\/
 (∃ty t y,o.op = .store ty (.tmp t) y/\o.dst=none/\tC t=true/\jT p (σ.t t))\/
 ∃x y t t',o.op = .call ⟨.builtin .append,⟨[.tmp x,y]⟩,⟨[t,t']⟩⟩/\oB x=true/\(qe t=false/\Nat.beq t t'=true/\C1 o.dst t (.tmp x)=false)/\nQ p pb (σ.t x)
theorem ajT{τ:S}{ty:TypeId}{t:Tmp}{y:Operand}(ho:o.op = .store ty (.tmp t) y)(hd:o.dst=none)(jl:jT p (σ.t t))(h:dG P N Φ σ o some=some τ):Nonempty (uG P N Φ o p pb σ τ):=by
 have IB:∀ (x:A) (z:A),(∀ k,x ≠ .ptr k)->xg x z=false:=by
  intro x z hx;unfold xg;split
  ·exact absurd rfl (hx _)
  ·rfl
 have bq:∀ σ2:S,(∀ k,σ2.t t ≠ .ptr k)->dG P N Φ σ2 o some=o7 P σ2 ty (σ2.t t) (aF σ2 y) some:=by
  intro σ2 Nl;unfold dG;rw[show gH o.op=false by rw[ho];rfl,au];simp only[jF,ho,hd];rw[show xg (aF σ2 (.tmp t)) (aF σ2 y)=false from IB _ _ Nl,au];rfl
 rw[bq σ (λk hk=>by rw[hk]at jl;exact jl)]at h;cases hx:σ.t t with
 | aG r' j=>
  rw[hx]at h jl;have hp:p r'=true:=jl;have key:∃ x,∀ σ2:S,σ2.m=σ.m->∀ v,v=aF σ y->o7 P σ2 ty (.aG r' j) v some=some (σ2.root r' x):=by
   unfold o7 at h;split at h
   ·rename_i n xs hn iQ;split at h
    ·rename_i hlen;simp only at h;split at h
     ·rename_i cs dL;split at h
      ·rename_i hj;cases hl:xs.all Lf.live with
       |false=>rw[hl]at h;cases h
       | true=>
        refine⟨.ax (splice cs j xs),λσ2 hm v hv=>?_⟩
        subst hv;simp only[o7,hn,iQ,bu hlen,hm,dL,bu hj,hl,aq];simp only[S.root,hm]
      ·cases h
     ·cases h
    ·cases h
   ·cases h
  obtain⟨x,cV⟩:=key;have h1:=cV σ rfl _ rfl;rw[h]at h1;injection h1 with h1
  refine⟨{ G:=λσ=>σ.root r' x,u:=.undef,eq:=by rw[hd];exact h1,run:=λσ2 cw hm=>?_,grow:=λσ=>.rt r' x hp (.refl σ),set:=λσ d v hv=>rfl,bp:=λ_ σ t r j ht _=>ht }⟩
  have e1:σ2.t t = .aG r' j:=(cw (.tmp t) (by rw[ho];simp[Op.operands])).trans hx;rw[bq σ2 (λk hk=>by rw[e1]at hk;cases hk),e1,cV σ2 hm _ (cw y (by rw[ho];simp[Op.operands])),hd];rfl
 |ptr k=>rw[hx]at jl;exact jl.elim
 | _=>
  rw[hx]at h;exfalso;revert h;unfold o7;split
  ·split<;>exact λh=>by cases h
  ·exact λh=>by cases h
def cW(e:Nat)(x:aW)(u:A)(σ:S):S:=((σ.drop e).root e x).set e u
def pJ(e:Nat)(u:A):Prop:=u = .aG e 0\/u = .lf (.own [e])
structure qZ (x:aW):Prop where
 drop:∀n,x.drop n=x
 bA:∀ns cn,x.bA ns cn=x
theorem aaq(h:xk o=true):∃ t,∃ e:Nat,o.op = .alloc t/\o.guard=none/\o.dst=some e/\e<20000:=by
 unfold xk at h;rw[aJ,aJ]at h;obtain⟨⟨h1,h2⟩,h3⟩:=h;split at h1
 ·rename_i t ht;split at h3
  next e he=>exact⟨t,e,ht,by simpa using h2,he,cH h3⟩
  ·cases h3
 ·cases h1
theorem ajU{ops:Array Oper}{t:TypeId}{e:Nat}(ht:o.op = .alloc t)(hg:o.guard=none)(hd:o.dst=some e){τ:S}(h:dI P N Φ ops σ o some=some τ):∃ x,qZ x/\τ=cW e x (.aG e 0) σ/\∀ σ2,dI P N Φ ops σ2 o some=some (cW e x (.aG e 0) σ2):=by
 have bq:∀ σ2,dI P N Φ ops σ2 o some=uq P N σ2 e t some:=by
  intro σ2;unfold dI gO;rw[hg];simp only;unfold dG;rw[show gH o.op=false by rw[ht];rfl,au];simp only[jF,ht,fD,hd]
 rw[bq]at h;unfold uq at h;split at h
 ·rename_i z hz;unfold jO at h;cases hN:Nat.blt e N with
  |false=>rw[hN]at h;cases h
  | true=>
   rw[hN,aq]at h;injection h with h;have h1:∀(n:Nat) v,(ke v).drop n=ke v:=λn v=>by unfold ke;split<;>rfl
   have h2:∀(ns cn:af Nat) v,(ke v).bA ns cn=ke v:=λns cn v=>by unfold ke;split<;>rfl
   refine⟨.ax (z.cells.toList.map ke),⟨λn=>?_,λns cn=>?_⟩,h.symm,λσ2=>(bq σ2).trans ?_⟩
   ·simp only[aW.drop,List.map_map];congr 1;exact lK λv _=>h1 n v
   ·simp only[aW.bA,List.map_map];congr 1;exact lK λv _=>h2 ns cn v
   ·unfold uq jO;rw[hz,hN];rfl
 ·cases h
theorem I5{σ2:S}:∀ (ps:af PK) (xs:af Operand),(∀ x∈xs,aF σ2 x=aF σ x)->jS σ2 ps xs=jS σ ps xs
 |[],[],_=>rfl
 |[],_::_,_=>rfl
 |.v _ _::_,[],_=>rfl
 |.p _ _ _::_,[],_=>rfl
 |.s _ _::_,[],_=>rfl
 |.v _ _::ps,x::xs,h=>by simp only[jS];exact I5 ps xs (λy hy=>h y (.tail _ hy))
 |.s _ _::ps,x::xs,h=>by simp only[jS];exact I5 ps xs (λy hy=>h y (.tail _ hy))
 | .p _ _ _ :: ps,x :: xs,h=>by
  simp only[jS];rw[h x (.head _),I5 ps xs (λy hy=>h y (.tail _ hy))]
theorem TZ{ok:Nat->Nat->Bool}{σ2:S}(hk:∀ t r j,σ.t t = .aG r j->ok t r=true->σ2.t t = .aG r j):∀ (ps:af PK) (xs:af Operand),tu ok σ ps xs=true->tu ok σ2 ps xs=true/\jS σ2 ps xs=jS σ ps xs
 |[],[],_=>⟨rfl,rfl⟩
 |[],_::_,h=>by cases h
 |.v _ _::_,[],h=>by cases h
 |.p _ _ _::_,[],h=>by cases h
 |.s _ _::_,[],h=>by cases h
 |.s _ _::_,_::_,h=>by cases h
 | .v _ _ :: ps,x :: xs,h=>by
  simp only[tu]at h ⊢;simp only[jS];exact TZ hk ps xs h
 | .p _ _ _ :: ps,x :: xs,h=>by
  cases x with
  | tmp t=>
   simp only[tu,aJ]at h;obtain⟨h1,h2⟩:=h;obtain⟨k1,k2⟩:=TZ hk ps xs h2;split at h1
   ·rename_i r' j hr;have e:=hk t r' j hr h1;refine⟨?_,?_⟩
    ·simp only[tu,aJ];exact⟨by rw[e];exact h1,k1⟩
    ·simp only[jS,aF,e,hr,k2]
   ·cases h1
  |const v=>simp[tu]at h
  |global g=>simp[tu]at h
  |func f=>simp[tu]at h
theorem Calm.iD{ok:Nat->Nat->Bool}{tC oB:Nat->Bool}{σ2:S}(h:Calm Φ ok tC oB p pb σ o)(hk:∀ t r j,σ.t t = .aG r j->ok t r=true->σ2.t t = .aG r j)(hs:∀ t,tC t=true->jT p (σ.t t)->jT p (σ2.t t))(ha:∀ t,oB t=true->nQ p pb (σ.t t)->nQ p pb (σ2.t t)):Calm Φ ok tC oB p pb σ2 o:=by
 rcases h with h|⟨f,args,dV,c,h1,h2,h3,h4,h5⟩|⟨ty,t,y,h1,h2,h3,h4⟩|⟨x,y,t,t',h1,h2,hn,h3⟩
 ·exact .inl h
 ·obtain⟨k1,k2⟩:=TZ hk _ _ h4;exact .inr (.inl ⟨f,args,dV,c,h1,h2,h3,k1,by rw[k2];exact h5⟩)
 ·exact .inr (.inr (.inl ⟨ty,t,y,h1,h2,h3,hs t h3 h4⟩))
 ·exact .inr (.inr (.inr ⟨x,y,t,t',h1,h2,hn,ha x h2 h3⟩))
theorem Nm{ops:Array Oper}(hm:qg o=true)(hw:gO σ ops o=some true){τ:S}(h:dI P N Φ ops σ o some=some τ):∃ (e:Nat) (x:aW) (u:A),o.dst=some e/\e<20000/\qZ x/\pJ e u/\τ=cW e x u σ/\
  ∀σ2,gO σ2 ops o=some true->(∀y∈o.op.operands,aF σ2 y=aF σ y)->dI P N Φ ops σ2 o some=some (cW e x u σ2):=by
 have bq:gH o.op=false->∀ σ2,gO σ2 ops o=some true->dI P N Φ ops σ2 o some=jF P N Φ σ2 o some:=by
  intro hv σ2 tD;unfold dI;rw[tD];simp only;unfold dG;rw[hv,au]
 have bsl:∀y:V,qZ (.sl y):=λy=>⟨λ_=>rfl,λ_ _=>rfl⟩
 unfold qg at hm;rw[aJ]at hm;obtain⟨I6,Bd⟩:=hm;split at Bd
 ·rename_i e he;have bC:e<20000:=cH Bd;split at I6
  ·rename_i t ht;have hr:=bq (by rw[ht];rfl);rw[hr σ hw]at h;simp only[jF,ht,fD,he]at h;unfold uq at h;split at h
   ·rename_i z hz;unfold jO at h;cases hN:Nat.blt e N with
    |false=>rw[hN]at h;cases h
    | true=>
     rw[hN,aq]at h;injection h with h;have h1:∀(n:Nat) v,(ke v).drop n=ke v:=λn v=>by unfold ke;split<;>rfl
     have h2:∀(ns cn:af Nat) v,(ke v).bA ns cn=ke v:=λns cn v=>by unfold ke;split<;>rfl
     refine⟨e,.ax (z.cells.toList.map ke),.aG e 0,he,bC,⟨λn=>?_,λns cn=>?_⟩,.inl rfl,h.symm,λσ2 tD _=>(hr σ2 tD).trans ?_⟩
     ·simp only[aW.drop,List.map_map];congr 1;exact lK λv _=>h1 n v
     ·simp only[aW.bA,List.map_map];congr 1;exact lK λv _=>h2 ns cn v
     ·simp only[jF,ht,fD,he];unfold uq jO;rw[hz,hN];rfl
   ·cases h
  ·rename_i t len parts ht;have hr:=bq (by rw[ht];rfl);rw[hr σ hw]at h;have hn:qe t=false:=by simpa using I6
   simp only[jF,ht,fD,he,hn,au]at h;obtain⟨y,h1,h2⟩:=Tu h;injection h1 with h1
   refine⟨e,.sl y,.lf (.own [e]),he,bC,bsl y,.inr rfl,h1.symm,λσ2 tD cw=>(hr σ2 tD).trans ?_⟩
   simp only[jF,ht,fD,he,hn,au]
   refine(h2 σ2 λq hq=>cw _ ?_).at_ _
   rw[ht];simp only[Op.operands];exact List.mem_toArray.2 (List.mem_map_of_mem (f:=(·.2)) hq)
  ·rename_i t l c ht;have hr:=bq (by rw[ht];rfl);rw[hr σ hw]at h;simp only[jF,ht,fD,he]at h;obtain⟨y,h1,h2⟩:=Tt h;injection h1 with h1
   refine⟨e,.sl y,.lf (.own [e]),he,bC,bsl y,.inr rfl,h1.symm,λσ2 tD cw=>(hr σ2 tD).trans ?_⟩
   simp only[jF,ht,fD,he];rw[cw l (by rw[ht];simp[Op.operands]),cw c (by rw[ht];simp[Op.operands])];exact(h2 σ2).at_ _
  ·cases I6
 ·cases Bd
theorem Nn{d:Nat}{t:TypeId}{y z:A}{τ:S}(h:rW P N σ d t y z some=some τ):∃ (r:Nat) (v:V),τ=((σ.drop r).root r (.sl v)).set d (.lf (.own [r]))/\(r=d\/y = .lf (.own [r]))/\
  ∀σ2:S,(∀(k:V->aj S),rS σ2 z k=rS σ z k)->(∀r v,y = .lf (.own [r])->σ.m r=some (.sl v)->σ2.m r=some (.sl v))->rW P N σ2 d t y z some=some (((σ2.drop r).root r (.sl v)).set d (.lf (.own [r]))):=by
 unfold rW at h;split at h
 ·rename_i e tc gN;cases hc:(Nat.beq (full tc) 0&&(zeroOf P e).any (λz=>Nat.beq z.cells.size (aB tc)))with
  |false=>rw[hc]at h;cases h
  | true=>
   rw[hc,aq]at h;obtain⟨yv,h2,hd⟩:=Tr h;clear h;split at h2
   ·cases h2
   ·rename_i l2 gF;split at h2
    ·cases hL:bZ l2.length with
     |false=>rw[hL]at h2;cases h2
     | true=>
      rw[hL,aq]at h2;cases hN:Nat.blt d N with
      |false=>unfold jO at h2;rw[hN]at h2;cases h2
      | true=>
       have h3:=h2;unfold jO at h3;rw[hN,aq]at h3;injection h3 with h3
       refine⟨d,.sl tc 2 false l2,h3.symm,.inl rfl,λσ2 hz Bd=>?_⟩
       simp only[rW,gN,hc,aq];refine(hz _).trans ((hd.at_ _).trans ?_);simp only[gF,hL,aq];unfold jO;rw[hN,aq]
    ·rename_i rr;split at h2
     ·rename_i t' o q l hm;split at h2
      ·rename_i gG;cases hL:(Nat.blt d N&&(Nat.blt rr N || Nat.ble 60000 rr)&&bZ (l.length+l2.length))with
       |false=>rw[hL]at h2;cases h2
       | true=>
        rw[hL,aq]at h2;injection h2 with h2
        refine⟨rr,_,h2.symm,.inr rfl,λσ2 hz Bd=>?_⟩
        simp only[rW,gN,hc,aq];refine(hz _).trans ((hd.at_ _).trans ?_);simp only[gF,Bd rr _ rfl hm,aK gG,hL,aq]
      ·cases h2
     ·cases h2
    ·cases h2
 ·cases h
theorem T0(h:isApp o=true):∃ x y t t',o.op = .call ⟨.builtin .append,⟨[x,y]⟩,⟨[t,t']⟩⟩/\qe t=false/\Nat.beq t t'=true/\C1 o.dst t x=false:=by
 unfold isApp at h;split at h
 ·rw[aJ,aJ]at h;exact⟨_,_,_,_,by assumption,by simpa using h.1.1,h.1.2,by simpa using h.2⟩
 ·cases h
theorem I7{x y:Operand}{t t':TypeId}(ho:o.op = .call ⟨.builtin .append,⟨[x,y]⟩,⟨[t,t']⟩⟩)(hn:qe t=false)(gG:Nat.beq t t'=true)(hk:C1 o.dst t x=false)(σ:S):dG P N Φ σ o some=fD o λd=>rW P N σ d t (aF σ x) (aF σ y) some:=by
 unfold dG;rw[show gH o.op=false by rw[ho];rfl,au];simp only[jF,ho,hn,gG,au,aq];unfold fD;cases hd:o.dst with
 |none=>rfl
 | some d=>
  rw[hd]at hk;have hk:IS t d x=false:=hk;simp only[hk,au]
theorem ajV{τ:S}{x:Tmp}{y:Operand}{t t':TypeId}(ho:o.op = .call ⟨.builtin .append,⟨[.tmp x,y]⟩,⟨[t,t']⟩⟩)(hn:qe t=false)(gG:Nat.beq t t'=true)(hk:C1 o.dst t (.tmp x)=false)(hp:∀ n,eF o n=true->p n=true/\pb n=true)(jl:nQ p pb (σ.t x))(h:dG P N Φ σ o some=some τ):Nonempty (uG P N Φ o p pb σ τ):=by
 rw[I7 ho hn gG hk]at h;obtain⟨d,kE,h⟩:=iU h;obtain⟨r,v,en,hr,ir⟩:=Nn h;have Np:p r=true/\pb r=true:=by
  rcases hr with hr|hr
  ·rw[hr];exact hp d (by unfold eF;rw[kE,ho];exact Nat.beq_refl d)
  ·exact jl r hr
 refine⟨{ G:=λσ=>(σ.drop r).root r (.sl v),u:=.lf (.own [r]),eq:=by rw[kE];exact en,run:=λσ2 cw hm=>?_,grow:=λσ=>.root r _ Np.1 Np.2 (.refl σ),set:=λσ e v' hv=>(by rw[S.drop_set r (A.uF hv Np.1 Np.2)];rfl),bp:=λha=>(by rw[isApp,ho]at ha;simp[hn,gG,hk]at ha) }⟩
 rw[I7 ho hn gG hk];unfold fD;rw[kE];simp only;rw[cw (.tmp x) (by rw[ho];simp[Op.operands,Call.operands]),cw y (by rw[ho];simp[Op.operands,Call.operands]),ir σ2 (λk=>ajw hm _ k) (λr' v' _ h'=>by rw[hm];exact h')];rfl
theorem ajW[Inhabited Wd](bS:ig P Φ){ok:Nat->Nat->Bool}{tC oB oC:Nat->Bool}(hX:∀ x,oC x=true->jT p (σ.t x)){ops:Array Oper}{oi oj:Oper}{v:A}{τ:S}(hF:oE P ops oi p pb v σ)(ha:oi.apart ops oj=true)(ht:Calm Φ ok tC oB p pb σ oj)(hp:∀ n,eF oj n=true->p n=true/\pb n=true)
  (h:dI P N Φ ops (iq σ oi.dst v) oj some=some τ):∃ az,dI P N Φ ops σ oj some=some az/\τ=iq az oi.dst v/\oE P ops oi p pb v az/\(isApp oj=false->∀ t r j,σ.t t = .aG r j->oj.dst≠some t->eF oj r=false->az.t t = .aG r j)/\
   (∀t,jT p (σ.t t)->(oj.dst≠some t\/(xk oj=true/\p t=true)\/∃s x f,oj.op = .fieldAddr s (.tmp x) f/\oC x=true)->jT p (az.t t))/\
   ∀t,nQ p pb (σ.t t)->(oj.dst≠some t\/(qg oj=true/\p t=true/\pb t=true)\/(isApp oj=true\/A7 Φ oj=true))->nQ p pb (az.t t):=by
 obtain⟨a1,a2,a3⟩:=Oper.apart_spec ha;have Ff:∀ (σ:S) (u:A) t,oj.dst≠some t->(iq σ oj.dst u).t t=σ.t t:=by
  intro σ u t ht;cases hd:oj.dst with
  |none=>rfl
  |some d=>exact cL _ _ _ (by rintro rfl;exact ht hd)
 have Fg:∀ az,dI P N Φ ops σ oj some=some az->∀ t,xk oj=true->oj.dst=some t->p t=true->jT p (az.t t):=by
  intro az dO t Fg hd TB;obtain⟨ty,e,h1,h2,h3,_⟩:=aaq Fg;rw[h3]at hd;injection hd with hd;subst hd;obtain⟨x,_,e1,_⟩:=ajU h1 h2 h3 dO;rw[e1];show jT p (bP _ e (.aG e 0) e);rw[bY];exact TB
 have fin:∀ az,dI P N Φ ops σ oj some=some az->(∀ t,oj.dst≠some t->jT p (σ.t t)->jT p (az.t t))->∀ t,jT p (σ.t t)->(oj.dst≠some t\/(xk oj=true/\p t=true)\/∃ s x f,oj.op = .fieldAddr s (.tmp x) f/\oC x=true)->jT p (az.t t):=by
  intro az dO hk t ht T1;rcases T1 with bg|⟨h1,h2⟩|⟨s,x,f,h1,h2⟩
  ·exact hk t bg ht
  ·by_cases hd:oj.dst=some t
   ·exact Fg az dO t h1 hd h2
   ·exact hk t hd ht
  ·by_cases hd:oj.dst=some t
   ·unfold dI at dO;split at dO
    ·unfold dG at dO;rw[show gH oj.op=true by rw[h1];rfl,aq]at dO;rw[h1]at dO;simp only[eU]at dO;have hx:=hX x h2;have hx:jT p (aF σ (.tmp x)):=hx;generalize aF σ (.tmp x)=z at hx dO;have key:∀ v,jM N σ oj.dst v some=some az->jT p v->jT p (az.t t):=by
      intro v hv hA;obtain⟨g1,_⟩:=mq hv;injection g1 with g1;rw[<-g1,hd];show jT p (bP σ.t t v t);rw[bY];exact hA
     unfold wI at dO;split at dO
     ·cases dO
     ·split at dO
      ·split at dO
       ·exact key _ dO hx
       ·exact key _ dO trivial
       ·exact hx.elim
       ·cases dO
      ·cases dO
    ·obtain⟨g1,_⟩:=mq dO;injection g1 with g1;rw[<-g1,hd];show jT p (bP σ.t t .skip t);rw[bY];trivial
    ·cases dO
   ·exact hk t hd ht
 have ajX:=ht;have aar:∀ az,dI P N Φ ops σ oj some=some az->(∀ t,oj.dst≠some t->nQ p pb (σ.t t)->nQ p pb (az.t t))->∀ t,nQ p pb (σ.t t)->(oj.dst≠some t\/(qg oj=true/\p t=true/\pb t=true)\/(isApp oj=true\/A7 Φ oj=true))->nQ p pb (az.t t):=by
  intro az dO hk t ht T1;rcases T1 with bg|⟨h1,h2⟩|ajY|C5
  ·exact hk t bg ht
  ·by_cases hd:oj.dst=some t
   ·cases hw:gO σ ops oj with
    |none=>unfold dI at dO;rw[hw]at dO;cases dO
    | some b=>
     cases b with
     | true=>
      obtain⟨e,x,u,g1,g2,g3,g4,g5,_⟩:=Nm h1 hw dO;rw[hd]at g1;injection g1 with g1;subst g1;rw[g5];intro r hr;have hr:bP _ t u t = .lf (.own [r]):=hr;rw[bY]at hr;rcases g4 with g4|g4
      ·rw[g4]at hr;cases hr
      ·rw[g4]at hr;injection hr with hr;injection hr with hr;injection hr with hr;subst hr;exact h2
     | false=>
      unfold dI at dO;rw[hw]at dO;obtain⟨g1,_⟩:=mq dO;injection g1 with g1;rw[<-g1,hd];intro r hr;have hr:bP σ.t t .skip t = .lf (.own [r]):=hr;rw[bY]at hr;cases hr
   ·exact hk t hd ht
  ·by_cases hd:oj.dst=some t
   ·obtain⟨x,y,t1,t2,g1,g2,g3,g4⟩:=T0 ajY;have hT:nQ p pb (aF σ x):=by
     rcases ajX with q|⟨f,args,dV,c,q1,_⟩|⟨ty,tt,yy,q1,_⟩|⟨x',y',t1',t2',q1,q2,q3,q4⟩
     ·rw[g1]at q;cases q
     ·rw[g1]at q1;cases q1
     ·rw[g1]at q1;cases q1
     ·rw[g1]at q1;injection q1 with q1;injection q1 with _ q1 _;injection q1 with q1;injection q1 with q1 _;subst q1;exact q4
    cases hw:gO σ ops oj with
    |none=>unfold dI at dO;rw[hw]at dO;cases dO
    | some b=>
     cases b with
     | true=>
      unfold dI at dO;rw[hw]at dO;have dO:dG P N Φ σ oj some=some az:=dO;rw[I7 g1 g2 g3 g4]at dO;obtain⟨d,kE,dO⟩:=iU dO;rw[hd]at kE;injection kE with kE;subst kE;obtain⟨r,v,en,hr,_⟩:=Nn dO;rw[en];intro r' dA;have dA:bP ((σ.drop r).root r (.sl v)).t t (.lf (.own [r])) t = .lf (.own [r']):=dA;rw[bY]at dA;injection dA with dA;injection dA with dA;injection dA with dA;subst dA;rcases hr with hr|hr
      ·rw[hr];exact hp t (by unfold eF;rw[hd,g1];exact Nat.beq_refl t)
      ·exact hT r hr
     | false=>
      unfold dI at dO;rw[hw]at dO;obtain⟨g1,_⟩:=mq dO;injection g1 with g1;rw[<-g1,hd];intro r hr;have hr:bP σ.t t .skip t = .lf (.own [r]):=hr;rw[bY]at hr;cases hr
   ·exact hk t hd ht
  ·by_cases hd:oj.dst=some t
   ·cases hw:gO σ ops oj with
    |none=>unfold dI at dO;rw[hw]at dO;cases dO
    | some b=>
     cases b with
     | true=>
      unfold dI at dO;rw[hw]at dO;have dO:dG P N Φ σ oj some=some az:=dO;unfold A7 at C5;split at C5
      ·rename_i f args dV ho;split at C5
       ·rename_i c hc;unfold dG at dO;rw[show gH oj.op=false by rw[ho];rfl,au]at dO;simp only[jF,ho,hc]at dO;obtain⟨d,kE,dO⟩:=iU dO;rw[hd]at kE;injection kE with kE;subst kE;obtain⟨res,gv,h1,h2,_⟩:=IK (bS f _ hc).2 dO;injection h2 with h2;subst h2;have dR:∀ n,1000000000100000+1000*t<=n->p n=true/\pb n=true:=λn hn=>hp n (by unfold eF;rw[hd,ho];exact jV hn)
        intro r hr;unfold qV at h1;cases res with
        | one q=>
         simp only at h1;split at h1
         ·rename_i y hy;injection h1 with h1;rw[<-h1]at hr;have hr:bP _ t y t=A.lf (Lf.own [r]):=hr;rw[bY]at hr;subst hr;obtain⟨b,vs⟩:=q;cases b with
          |true=>cases hy
          | false=>
           match vs,hy with
           | [v],hy=>
            have hy:some (A.lf (bif v.aA then Lf.v v else Lf.own [1000000000100000+1000*t]))=some (A.lf (Lf.own [r])):=hy;injection hy with hy;injection hy with hy;cases hf:v.aA with
            |true=>rw[hf]at hy;cases hy
            | false=>
             rw[hf]at hy;injection hy with hy;injection hy with hy;subst hy;exact dR _ (gZ _)
         ·cases h1
        | cP ps=>
         injection h1 with h1;rw[<-h1]at hr;have hr:bP _ t _ t=A.lf (Lf.own [r]):=hr;rw[bY]at hr;cases hr
       ·cases C5
      ·cases C5
     | false=>
      unfold dI at dO;rw[hw]at dO;obtain⟨g1,_⟩:=mq dO;injection g1 with g1;rw[<-g1,hd];intro r hr;have hr:bP σ.t t .skip t = .lf (.own [r]):=hr;rw[bY]at hr;cases hr
   ·exact hk t hd ht
 unfold dI at h;rw[ajN a1]at h;split at h
 ·rename_i hw;have ajZ:Nonempty (uG P N Φ oj p pb (iq σ oi.dst v) τ):=by
   rcases ht with ht|⟨f,args,dV,c,h1,h2,h3,h4,h5⟩|⟨ty,t,y,h1,h2,h3,h4⟩|⟨x,y,t1,t2,h1,h2,hn,h3⟩
   ·exact ajK bS ht hp h
   ·refine ajR h1 h2 h3 hp ?_ h;rw[I5]
    ·exact h5
    ·intro x hx;refine Ng a1 v ?_;rw[h1];simp only[Op.operands,Call.operands];simp only[Array.mem_append]
     first
      |exact .inr (by simpa using hx)
      |exact .inl (by simpa using hx)
   ·refine ajT h1 h2 ?_ h;have e1:aF (iq σ oi.dst v) (.tmp t)=aF σ (.tmp t):=Ng a1 v (by rw[h1];simp[Op.operands]);have e1:(iq σ oi.dst v).t t=σ.t t:=e1;rw[e1];exact h4
   ·refine ajV h1 hn.1 hn.2.1 hn.2.2 hp ?_ h;have e1:aF (iq σ oi.dst v) (.tmp x)=aF σ (.tmp x):=Ng a1 v (by rw[h1];simp[Op.operands,Call.operands]);have e1:(iq σ oi.dst v).t x=σ.t x:=e1;rw[e1];exact h3
  obtain⟨G,u,e,hr,hg,hs,T2⟩:=ajZ;have sk:dI P N Φ ops σ oj some=some (iq (G σ) oj.dst u):=by
   unfold dI;rw[hw];exact hr σ (λx hx=>(Ng a1 v hx).symm) (ajM _ _).symm
  refine⟨iq (G σ) oj.dst u,sk,?_,(hF.grow (hg σ)).put a3,λxh t r j ht bg dR=>?_,fin _ sk λt bg ht=>?_,aar _ sk λt bg ht=>?_⟩
  ·refine e.trans ?_;have:∀ dst,G (iq σ dst v)=iq (G σ) dst v:=by
    intro dst;cases dst with
    |none=>rfl
    |some d=>exact hs σ d v hF.nr
   rw[this];exact aal _ _ a2
  ·rw[Ff _ _ t bg];exact T2 xh σ t r j ht dR
  ·rw[Ff _ _ t bg];exact(hg σ).st ht
  ·rw[Ff _ _ t bg];exact(hg σ).tg ht
 ·rename_i hw;obtain⟨h1,h2⟩:=mq h;injection h1 with h1;have sk:dI P N Φ ops σ oj some=some (iq σ oj.dst .skip):=by
   unfold dI;rw[hw];exact(h2 σ).at_ _
  exact⟨iq σ oj.dst .skip,sk,by rw[<-h1];exact aal _ _ a2,hF.put a3,λ_ t r j ht bg _=>(by rw[Ff _ _ t bg];exact ht),fin _ sk λt bg ht=>(by rw[Ff _ _ t bg];exact ht),aar _ sk λt bg ht=>(by rw[Ff _ _ t bg];exact ht)⟩
 ·cases h
def Any(P:Program)(N:Nat)(Φ:eS)(ops:Array Oper)(K:S->Prop):Nat->Nat->S->Prop
 |0,L,σ=>(∀j,nO ops L j=false)/\K σ
 |f+1,L,σ=>((∀j,nO ops L j=false)->K σ)/\∀j,nO ops L j=true->∃o τ,ops[j]?=some o/\dI P N Φ ops σ o some=some τ/\Any P N Φ ops K f (L |||2 ^ j) τ
theorem uH(L i j:Nat):(L ||| 2 ^ i).testBit j=(L.testBit j || decide (i=j)):=by
 rw[Nat.testBit_or,Nat.testBit_two_pow]
theorem I8{ops:Array Oper}{L j:Nat}:nO ops L j=true ↔ L.testBit j=false/\∃ o,ops[j]?=some o/\∀ e∈o.after,Region.binds .any e=true->L.testBit e.on=true:=by
 unfold nO;rw[aJ,hD];refine and_congr Iff.rfl ?_;cases ho:ops[j]? with
 |none=>simp
 | some o=>
  simp only[c9,gp,exists_eq_left'];constructor
  ·intro h e he hb;have:=h e (by simpa using he);rw[hb]at this
   simpa using this
  ·intro h e he;cases hb:Region.binds .any e with
   |false=>rfl
   |true=>simpa using h e (by simpa using he) hb
theorem T3{ops:Array Oper}{L i j:Nat}(h:nO ops L j=true)(bg:j≠i):nO ops (L ||| 2 ^ i) j=true:=by
 rw[I8]at h ⊢;obtain⟨h0,o,ho,ir⟩:=h
 refine⟨?_,o,ho,λe he hb=>?_⟩
 ·rw[uH,h0];simpa using λh=>bg h.symm
 ·rw[uH,ir e he hb];rfl
theorem oE.step{ops:Array Oper}{oi:Oper}{v:A}(hF:oE P ops oi p pb v σ)(hN:∀ σ:S,jM N σ oi.dst v some=some (iq σ oi.dst v)):dI P N Φ ops σ oi some=some (iq σ oi.dst v):=by
 unfold dI;rcases hF with ⟨h1,h2,h3,_,_,_⟩|⟨h1,h2⟩
 ·rw[h1];show dG P N Φ σ oi some=_;unfold dG;rw[h2,aq];exact(h3.at_ _).trans (hN σ)
 ·rw[h1,<-h2];exact hN σ
theorem T4{K:S->Prop}{ops:Array Oper}{i W:Nat}{oi:Oper}(hi:ops[i]?=some oi)(hW:∀ j oj,ops[j]?=some oj->W.testBit j=true->∃ e∈oj.after,Region.binds .any e=true/\(e.on=i\/W.testBit e.on=true))(E:S->S)(I:Nat->S->Prop)
  (r1:∀L σ,I L σ->dI P N Φ ops σ oi some=some (E σ))
  (r2:∀L σ j oj τ,I L σ->ops[j]?=some oj->j≠i->L.testBit j=false->W.testBit j=false->dI P N Φ ops (E σ) oj some=some τ->∃az,dI P N Φ ops σ oj some=some az/\τ=E az/\I (L |||2 ^ j) az):
  ∀(f L:Nat) (σ:S),(∀j,W.testBit j=true->L.testBit j=false)->nO ops L i=true->I L σ->Any P N Φ ops K f (L |||2 ^ i) (E σ)->Any P N Φ ops K (f+1) L σ:=by
 intro f
 induction f with
 | zero=>
  intro L σ vL hr hI H
  refine⟨λh=>absurd (h i) (by rw[hr];simp),λj hj=>?_⟩
  by_cases eZ:j=i
  ·subst eZ;exact⟨oi,_,hi,r1 L σ hI,H⟩
  ·have:=T3 hj eZ;rw[H.1 j]at this;cases this
 | succ f ih=>
  intro L σ vL hr hI H
  refine⟨λh=>absurd (h i) (by rw[hr];simp),λj hj=>?_⟩
  by_cases eZ:j=i
  ·subst eZ;exact⟨oi,_,hi,r1 L σ hI,H⟩
  ·obtain⟨oj,τ,dM,en,H'⟩:=H.2 j (T3 hj eZ);obtain⟨fU,oj',Nq,ir⟩:=I8.1 hj;rw[dM]at Nq;injection Nq with Nq;subst Nq;have gz:W.testBit j=false:=by
    cases gz:W.testBit j with
    |false=>rfl
    | true=>
     obtain⟨e,he,hb,kC⟩:=hW j oj dM gz;have h1:=ir e he hb;rcases kC with kC|kC
     ·rw[kC,(I8.1 hr).1]at h1;cases h1
     ·rw[vL _ kC]at h1;cases h1
   obtain⟨az,hs,Be,hI'⟩:=r2 L σ j oj τ hI dM eZ fU gz en
   refine⟨oj,az,dM,hs,ih (L |||2 ^ j) az (λk hk=>?_) (T3 hr (Ne.symm eZ)) hI' ?_⟩
   ·rw[uH,vL k hk];have:j≠k:=by rintro rfl;rw[gz]at hk;cases hk
    simpa using this
   ·rw[<-Be];have:L ||| 2 ^ j ||| 2 ^ i=L ||| 2 ^ i ||| 2 ^ j:=by rw[Nat.or_assoc,Nat.or_comm (2 ^ j),<-Nat.or_assoc]
    rw[this];exact H'
theorem aj0[Inhabited Wd](bS:ig P Φ){ok:Nat->Nat->Bool}{tC oB oC:Nat->Bool}{K:S->Prop}{ops:Array Oper}{i W:Nat}{oi:Oper}{v:A}(hi:ops[i]?=some oi)(hN:∀ σ:S,jM N σ oi.dst v some=some (iq σ oi.dst v))
  (hW:∀j oj,ops[j]?=some oj->W.testBit j=true->∃e∈oj.after,Region.binds .any e=true/\(e.on=i\/W.testBit e.on=true)) (f L:Nat) (σ:S)
  (eK:∀t r,ok t r=true->∀j oj,ops[j]?=some oj->j≠i->L.testBit j=false->W.testBit j=false->oj.dst≠some t/\eF oj r=false/\isApp oj=false)
  (Nr:∀x,oC x=true->∀j oj,ops[j]?=some oj->j≠i->L.testBit j=false->W.testBit j=false->oj.dst≠some x) (hX:∀x,oC x=true->jT p (σ.t x))
  (Ns:∀t,tC t=true->∀j oj,ops[j]?=some oj->j≠i->L.testBit j=false->W.testBit j=false->oj.dst≠some t\/(xk oj=true/\p t=true)\/∃s x f,oj.op = .fieldAddr s (.tmp x) f/\oC x=true)
  (Nt:∀t,oB t=true->∀j oj,ops[j]?=some oj->j≠i->L.testBit j=false->W.testBit j=false->oj.dst≠some t\/(qg oj=true/\p t=true/\pb t=true)\/(isApp oj=true\/A7 Φ oj=true))
  (C6:∀j oj,ops[j]?=some oj->j≠i->L.testBit j=false->W.testBit j=false->oi.apart ops oj=true/\Calm Φ ok tC oB p pb σ oj/\∀n,eF oj n=true->p n=true/\pb n=true)
  (vL:∀j,W.testBit j=true->L.testBit j=false) (hr:nO ops L i=true) (hF:oE P ops oi p pb v σ) (H:Any P N Φ ops K f (L |||2 ^ i) (iq σ oi.dst v)):Any P N Φ ops K (f+1) L σ:=by
 refine T4 hi hW (λσ=>iq σ oi.dst v)
  (λL σ=>oE P ops oi p pb v σ/\(∀ t r,ok t r=true->∀ j oj,ops[j]?=some oj->j≠i->L.testBit j=false->W.testBit j=false->oj.dst≠some t/\eF oj r=false/\isApp oj=false)/\
   ((∀x,oC x=true->∀j oj,ops[j]?=some oj->j≠i->L.testBit j=false->W.testBit j=false->oj.dst≠some x)/\∀x,oC x=true->jT p (σ.t x))/\
   (∀t,tC t=true->∀j oj,ops[j]?=some oj->j≠i->L.testBit j=false->W.testBit j=false->oj.dst≠some t\/(xk oj=true/\p t=true)\/∃s x f,oj.op = .fieldAddr s (.tmp x) f/\oC x=true)/\
   (∀t,oB t=true->∀j oj,ops[j]?=some oj->j≠i->L.testBit j=false->W.testBit j=false->oj.dst≠some t\/(qg oj=true/\p t=true/\pb t=true)\/(isApp oj=true\/A7 Φ oj=true))/\
   ∀j oj,ops[j]?=some oj->j≠i->L.testBit j=false->W.testBit j=false->oi.apart ops oj=true/\Calm Φ ok tC oB p pb σ oj/\∀n,eF oj n=true->p n=true/\pb n=true)
  (λL σ h=>h.1.step hN) (λL σ j oj τ h dM eZ fU gz en=>?_) f L σ vL hr ⟨hF,eK,⟨Nr,hX⟩,Ns,Nt,C6⟩ H
 obtain⟨hF,eK,⟨Nr,hX⟩,Ns,Nt,C6⟩:=h;obtain⟨c1,c2,c3⟩:=C6 j oj dM eZ fU gz;obtain⟨az,hs,Be,hF',yB,jl,hta⟩:=ajW (oC:=oC) bS hX hF c1 c2 c3 en;have hL:∀ k,(L ||| 2 ^ j).testBit k=false->L.testBit k=false:=by
  intro k hk;rw[uH,oX]at hk;exact hk.1
 refine⟨az,hs,Be,hF',λt r ht k tE hk tF q5 vM=>eK t r ht k tE hk tF (hL k q5) vM,⟨λx hx k tE hk tF q5 vM=>Nr x hx k tE hk tF (hL k q5) vM,λx hx=>jl x (hX x hx) (.inl (Nr x hx j oj dM eZ fU gz))⟩,λt ht k tE hk tF q5 vM=>Ns t ht k tE hk tF (hL k q5) vM,λt ht k tE hk tF q5 vM=>Nt t ht k tE hk tF (hL k q5) vM,λk tE hk tF q5 vM=>?_⟩
 obtain⟨d1,d2,d3⟩:=C6 k tE hk tF (hL k q5) vM
 refine⟨d1,d2.iD (λt r j' ht h=>?_) (λt h ht=>jl t ht (Ns t h j oj dM eZ fU gz)) (λt h ht=>hta t ht (Nt t h j oj dM eZ fU gz)),d3⟩
 obtain⟨e1,e2,e3⟩:=eK t r h j oj dM eZ fU gz;exact yB e3 t r j' ht e1 e2
end
end Go.Proofs.YtcioagfjiccleaaGreat
namespace Go.Proofs.YtcioagfjiccleaaGreat
open Go.RowKit
set_option linter.unusedVariables false
section
variable {P:Program} {w w':World} {w0:Wd} {B N:Nat} {ah aC:bE} {ρ ρ':Nat->Loc} {σ:S} {a:Act} {X:Type} {d e:Nat} {r:X} {o:Oper} {Φ:eS} {p:Nat->Bool} {x:aW} {u:A}
theorem Lf.tG(l:Lf)(a b:Nat):(l.drop a).drop b=(l.drop b).drop a:=by
 cases l with
 | own k=>
  have e1:∀n,Lf.drop n (.own k)=(bif bH n k then .dead else .own k):=λ_=>rfl
  rw[e1 a,e1 b];cases ha:bH a k<;>cases hb:bH b k<;>simp[Lf.drop,ha,hb]
 |v x=>rfl
 |dead=>rfl
theorem oA.tG(l:af Lf)(a b:Nat):(l.map (Lf.drop a)).map (Lf.drop b)=(l.map (Lf.drop b)).map (Lf.drop a):=by
 rw[List.map_map,List.map_map];exact lK λx _=>Lf.tG x a b
theorem A.tG(y:A)(a b:Nat):(y.drop a).drop b=(y.drop b).drop a:=by
 cases y with
 |lf x=>exact cA A.lf (Lf.tG x a b)
 |agg cs=>exact cA A.agg (oA.tG cs a b)
 | cP xs=>
  refine cA A.cP ?_;rw[List.map_map,List.map_map]
  refine lK λq _=>?_
  simp only[Function.comp];rw[oA.tG]
 | ptr k=>
  have e1:∀n,A.drop n (.ptr k)=(bif bH n k then .undef else .ptr k):=λ_=>rfl
  rw[e1 a,e1 b];cases ha:bH a k<;>cases hb:bH b k<;>simp[A.drop,ha,hb]
 | view k s i j=>
  have e1:∀n,A.drop n (.view k s i j)=(bif bH n k then .undef else .view k s i j):=λ_=>rfl
  rw[e1 a,e1 b];cases ha:bH a k<;>cases hb:bH b k<;>simp[A.drop,ha,hb]
 | pk r j=>
  have e1:∀n,A.drop n (.pk r j)=(bif Nat.beq r n then .undef else .pk r j):=λ_=>rfl
  rw[e1 a,e1 b];cases ha:Nat.beq r a<;>cases hb:Nat.beq r b<;>simp only[aq,au,A.drop,ha,hb]
 | aG r j=>
  have e1:∀n,A.drop n (.aG r j)=(bif Nat.beq r n then .undef else .aG r j):=λ_=>rfl
  rw[e1 a,e1 b];cases ha:Nat.beq r a<;>cases hb:Nat.beq r b<;>simp only[aq,au,A.drop,ha,hb]
 | fn f cap=>
  have e1:∀n,A.drop n (.fn f cap)=(bif cap.any (λp=>Nat.beq p.1 n)then .undef else .fn f cap):=λ_=>rfl
  rw[e1 a,e1 b];cases ha:cap.any (λp=>Nat.beq p.1 a)<;>cases hb:cap.any (λp=>Nat.beq p.1 b)<;>simp only[aq,au,A.drop,ha,hb]
 |_=>rfl
theorem aW.tG(y:aW)(a b:Nat):(y.drop a).drop b=(y.drop b).drop a:=by
 cases y with
 |ax cs=>exact cA aW.ax (oA.tG cs a b)
 |sl y=>rfl
 |mp l=>rfl
 | gh xs=>
  refine cA aW.gh ?_;rw[List.map_map,List.map_map];exact lK λx _=>A.tG x a b
theorem Lf.vN(l:Lf)(a:Nat)(ns cn:af Nat):(l.drop a).bA ns cn=(l.bA ns cn).drop a:=by
 cases l with
 | own k=>
  have e1:Lf.drop a (.own k)=(bif bH a k then .dead else .own k):=rfl;have e2:Lf.bA ns cn (.own k)=(bif cF k cn ||(cF k ns && !(Nat.beq k.length 1))then .dead else .own k):=rfl;rw[e1,e2];cases ha:bH a k<;>cases hb:(cF k cn ||(cF k ns && !(Nat.beq k.length 1)))<;>simp only[aq,au,Lf.drop,Lf.bA,ha,hb]
 |v x=>rfl
 |dead=>rfl
theorem oA.vN(l:af Lf)(a:Nat)(ns cn:af Nat):(l.map (Lf.drop a)).map (Lf.bA ns cn)=(l.map (Lf.bA ns cn)).map (Lf.drop a):=by
 rw[List.map_map,List.map_map];exact lK λx _=>Lf.vN x a ns cn
theorem A.vN(y:A)(a:Nat)(ns cn:af Nat):(y.drop a).bA ns cn=(y.bA ns cn).drop a:=by
 cases y with
 |lf x=>exact cA A.lf (Lf.vN x a ns cn)
 |agg cs=>exact cA A.agg (oA.vN cs a ns cn)
 | cP xs=>
  refine cA A.cP ?_;rw[List.map_map,List.map_map]
  refine lK λq _=>?_
  simp only[Function.comp];rw[oA.vN]
 | ptr k=>
  have e1:A.drop a (.ptr k)=(bif bH a k then .undef else .ptr k):=rfl;have e2:A.bA ns cn (.ptr k)=(bif cF k cn ||cF k ns then .undef else .ptr k):=rfl;rw[e1,e2];cases ha:bH a k<;>cases hb:(cF k cn ||cF k ns)<;>simp only[aq,au,A.drop,A.bA,ha,hb]
 | view k s i j=>
  have e1:A.drop a (.view k s i j)=(bif bH a k then .undef else .view k s i j):=rfl;have e2:A.bA ns cn (.view k s i j)=(bif cF k cn ||cF k ns then .undef else .view k s i j):=rfl;rw[e1,e2];cases ha:bH a k<;>cases hb:(cF k cn ||cF k ns)<;>simp only[aq,au,A.drop,A.bA,ha,hb]
 | pk r j=>
  have e1:A.drop a (.pk r j)=(bif Nat.beq r a then .undef else .pk r j):=rfl;have e2:A.bA ns cn (.pk r j)=(bif cc r cn then .undef else .pk r j):=rfl;rw[e1,e2];cases ha:Nat.beq r a<;>cases hb:cc r cn<;>simp only[aq,au,A.drop,A.bA,ha,hb]
 | aG r j=>
  have e1:A.drop a (.aG r j)=(bif Nat.beq r a then .undef else .aG r j):=rfl;have e2:A.bA ns cn (.aG r j)=(bif cc r cn then .undef else .aG r j):=rfl;rw[e1,e2];cases ha:Nat.beq r a<;>cases hb:cc r cn<;>simp only[aq,au,A.drop,A.bA,ha,hb]
 | fn f cap=>
  have e1:A.drop a (.fn f cap)=(bif cap.any (λp=>Nat.beq p.1 a)then .undef else .fn f cap):=rfl;have e2:A.bA ns cn (.fn f cap)=(bif cap.any (λp=>cc p.1 cn)then .undef else .fn f cap):=rfl;rw[e1,e2];cases ha:cap.any (λp=>Nat.beq p.1 a)<;>cases hb:cap.any (λp=>cc p.1 cn)<;>simp only[aq,au,A.drop,A.bA,ha,hb]
 |_=>rfl
theorem aW.vN(y:aW)(a:Nat)(ns cn:af Nat):(y.drop a).bA ns cn=(y.bA ns cn).drop a:=by
 cases y with
 |ax cs=>exact cA aW.ax (oA.vN cs a ns cn)
 |sl y=>rfl
 |mp l=>rfl
 | gh xs=>
  refine cA aW.gh ?_;rw[List.map_map,List.map_map];exact lK λx _=>A.vN x a ns cn
theorem T5{a b:Nat}(h:a≠b):Nat.beq a b=false:=by
 cases hb:Nat.beq a b with
 |false=>rfl
 |true=>exact absurd (cz hb) h
theorem pJ.drop(h:pJ e u){n:Nat}(hn:e≠n):u.drop n=u:=by
 rcases h with rfl|rfl
 ·simp only[A.drop,T5 hn,au]
 ·have:bH n [e]=false:=by simp[bH,hn]
  simp only[A.drop,Lf.drop,this,au]
theorem pJ.bA(h:pJ e u){ns cn:af Nat}(h1:cc e ns=false)(h2:cc e cn=false):u.bA ns cn=u:=by
 rcases h with rfl|rfl
 ·simp only[A.bA,h2,au]
 ·have e1:cF [e] ns=false:=h1;have e2:cF [e] cn=false:=h2;simp only[A.bA,Lf.bA,e1,e2];rfl
theorem tH(k:Nat):(cW e x u σ).t k=if k=e then u else (σ.t k).drop e:=by
 by_cases hk:k=e
 ·subst hk;rw[bu rfl];exact bY _ _ _
 ·rw[bJ hk];exact cL _ _ _ hk
theorem pK(n:Nat):(cW e x u σ).m n=if n=e then some x else (σ.m n).map (aW.drop e):=by
 show bP (λr=>bif Nat.beq r e then none else (σ.m r).map (aW.drop e)) e (some x) n=_;by_cases hn:n=e
 ·subst hn;rw[bu rfl,bY]
 ·rw[bJ hn,cL _ _ _ hn,T5 hn];rfl
theorem T6(c:Nat)(y:aW)(k:Nat):((σ.drop c).root c y).t k=(σ.t k).drop c:=rfl
theorem aas(c:Nat)(y:aW)(n:Nat):((σ.drop c).root c y).m n=if n=c then some y else (σ.m n).map (aW.drop c):=by
 show bP (λr=>bif Nat.beq r c then none else (σ.m r).map (aW.drop c)) c (some y) n=_;by_cases hn:n=c
 ·subst hn;rw[bu rfl,bY]
 ·rw[bJ hn,cL _ _ _ hn,T5 hn];rfl
theorem aat{c:Nat}(z:V)(hx:qZ x)(hu:pJ e u)(hc:e≠c):((cW e x u σ).drop c).root c (.sl z)=cW e x u ((σ.drop c).root c (.sl z)):=by
 refine S.ext' (λk=>?_) λn=>?_
 ·rw[T6,tH,tH,T6];by_cases hk:k=e
  ·rw[bu hk,bu hk];exact hu.drop hc
  ·rw[bJ hk,bJ hk];exact A.tG _ _ _
 ·rw[aas,pK,pK,aas];by_cases hn:n=c
  ·rw[bu hn,bJ (by omega),bu hn];rfl
  ·rw[bJ hn];by_cases bg:n=e
   ·rw[bu bg,bu bg];simp only[jU,hx.drop]
   ·rw[bJ bg,bJ bg,bJ hn,Option.map_map,Option.map_map];congr 1;funext y;exact aW.tG y e c
theorem I9(hx:qZ x)(hu:pJ e u):∀ (xs:af V) (c:Nat) (σ:S),e<c->jP c (cW e x u σ) xs=cW e x u (jP c σ xs)
 |[],c,σ,_=>rfl
 | y :: xs,c,σ,h=>by
  simp only[jP];cases hf:y.aA with
  |true=>exact I9 hx hu xs (c+1) σ (by omega)
  | false=>
   simp only[au];rw[aat y hx hu (by omega)];exact I9 hx hu xs (c+1) _ (by omega)
theorem T7(hx:qZ x)(hu:pJ e u):∀ (ps:af Pt) (c:Nat) (σ:S),e<c->mM c (cW e x u σ) ps=cW e x u (mM c σ ps)
 |[],c,σ,_=>rfl
 | q :: ps,c,σ,h=>by
  simp only[mM];rw[I9 hx hu _ _ _ h];exact T7 hx hu ps _ _ (by omega)
theorem Fh{v:A}(hd:d≠e)(hv:v.drop e=v):(cW e x u σ).set d v=cW e x u (σ.set d v):=by
 refine S.ext' (λk=>?_) λn=>?_
 ·show bP (cW e x u σ).t d v k=_;rw[tH];show _=if k=e then u else (bP σ.t d v k).drop e;by_cases hk:k=d
  ·subst hk;rw[bY,bJ hd,bY,hv]
  ·rw[cL _ _ _ hk,cL _ _ _ hk,tH]
 ·show (cW e x u σ).m n=_;rw[pK,pK];rfl
theorem aj1{v:A}{dst:aj Tmp}(hd:dst≠some e)(hv:v.drop e=v):iq (cW e x u σ) dst v=cW e x u (iq σ dst v):=by
 cases dst with
 |none=>rfl
 |some d=>exact Fh (by rintro rfl;exact hd rfl) hv
theorem aj2{ns cn:af Nat}{nr:af (Nat×aW)}(hx:qZ x)(hu:pJ e u)(h1:cc e ns=false)(h2:cc e cn=false)(h3:∀ q∈nr,q.1≠e/\q.2.drop e=q.2):(cW e x u σ).bA ns cn nr=cW e x u (σ.bA ns cn nr):=by
 have hl:nr.lookup e=none:=by
  cases hl:nr.lookup e with
  |none=>rfl
  |some y=>exact absurd rfl (h3 _ (Nk hl)).1
 refine S.ext' (λk=>?_) λn=>?_
 ·show ((cW e x u σ).t k).bA ns cn=_;rw[tH,tH];by_cases hk:k=e
  ·rw[bu hk,bu hk];exact hu.bA h1 h2
  ·rw[bJ hk,bJ hk];exact A.vN _ _ _ _
 ·rw[pK];show (match nr.lookup n with | some x=>some x | none=>bif cc n ns || cc n cn then none else ((cW e x u σ).m n).map (aW.bA ns cn))=if n=e then some x else (match nr.lookup n with | some x=>some x | none=>bif cc n ns || cc n cn then none else (σ.m n).map (aW.bA ns cn)).map (aW.drop e);by_cases hn:n=e
  ·subst hn;rw[bu rfl,hl,h1,h2];simp only[Bool.or_false,au,pK,if_true,jU,hx.bA]
  ·rw[bJ hn];cases hq:nr.lookup n with
   |some y=>simp only[jU];rw[(h3 _ (Nk hq)).2]
   | none=>
    simp only;cases (cc n ns ||cc n cn)with
    |true=>rfl
    | false=>
     simp only[au];rw[pK,bJ hn,Option.map_map,Option.map_map];congr 1;funext y;exact aW.vN y e ns cn
/-! What a call reads. -/
theorem aau{q:af Nat}{k:V->aj X}(h:bH e q=false):gV (cW e x u σ).m q k=gV σ.m q k:=yU q k h
theorem yW{y:Operand}(h:(aF σ y).nr p=true)(hp:p e=true)(hy:y ≠ .tmp e):aF (cW e x u σ) y=aF σ y:=by
 cases y with
 | tmp t=>
  show (cW e x u σ).t t=σ.t t;rw[tH,bJ (by rintro rfl;exact hy rfl)];exact A.nN h hp
 |_=>rfl
theorem T8{l:Lf}{k:V->aj X}(h:l.nr p=true)(hp:p e=true):jY (cW e x u σ) l k=jY σ l k:=by
 cases l with
 |own q=>exact aau (uB h hp)
 |_=>rfl
theorem aav{q:af Nat}{s i j:Nat}{k:V->aj X}(h:eY p q=true)(hp:p e=true):um (cW e x u σ) q s i j k=um σ q s i j k:=by
 unfold um;exact aau (uB h hp)
theorem aj3{y:A}{k:V->aj X}(h:y.nr p=true)(hp:p e=true):rS (cW e x u σ) y k=rS σ y k:=by
 cases y with
 |lf l=>exact T8 h hp
 |view q s i j=>exact aav h hp
 |_=>rfl
theorem T9(hp:p e=true):∀ (xs:af Lf) (k:af V->aj X),xs.all (Lf.nr p)=true->pn (cW e x u σ) xs k=pn σ xs k
 |[],k,_=>rfl
 | y :: xs,k,h=>by
  rw[List.all_cons,aJ]at h;simp only[pn,T8 h.1 hp];congr 1;funext z;exact T9 hp xs _ h.2
theorem aj4{y:A}{k:Pt->aj X}(h:y.nr p=true)(hp:p e=true):oq (cW e x u σ) y k=oq σ y k:=by
 cases y with
 |lf l=>simp only[oq];exact T9 hp _ _ (by simpa [A.nr]using h)
 |agg cs=>simp only[oq];exact T9 hp _ _ h
 |view q s i j=>simp only[oq];exact aav h hp
 |jB cs=>cases cs<;>rfl
 |_=>rfl
theorem aaw(hp:p e=true):∀ (xs:af Operand) (k:af Pt->aj X),(∀ y∈xs,(aF σ y).nr p=true/\y ≠ .tmp e)->mL (cW e x u σ) xs k=mL σ xs k
 |[],k,_=>rfl
 | y :: xs,k,h=>by
  obtain⟨h1,h2⟩:=h y (.head _);simp only[mL];rw[yW h1 hp h2,aj4 h1 hp];congr 1;funext z;exact aaw hp xs _ (λy hy=>h y (.tail _ hy))
theorem Ua{ns:af Nat}(hp:p e=true):∀ (xs:af Lf) (k:af V->aj X),xs.all (Lf.nr p)=true->qS (cW e x u σ) ns xs k=qS σ ns xs k
 |[],k,_=>rfl
 | y :: xs,k,h=>by
  rw[List.all_cons,aJ]at h;simp only[qS,T8 h.1 hp];congr 2;funext z;exact Ua hp xs _ h.2
theorem aax{d:Nat}:∀ (xs:af Lf),sS (xs.map (Lf.drop d))=sS xs
 |[]=>rfl
 | x :: xs=>by
  have hx:(x.drop d).pl=x.pl:=by
   cases x with
   | own k=>
    show (bif bH d k then Lf.dead else Lf.own k).pl=_;cases bH d k<;>rfl
   |_=>rfl
  simp only[kN,sS,hx,aax xs]
theorem aj5{ns:af Nat}{y:A}{k:Pt->aj X}(h:y.nr p=true)(hp:p e=true):qb (cW e x u σ) ns y k=qb σ ns y k:=by
 cases y with
 |lf l=>simp only[qb];exact Ua hp _ _ (by simpa [A.nr]using h)
 |agg cs=>simp only[qb];exact Ua hp _ _ h
 |mK f cs=>cases cs<;>rfl
 | fn f cap=>
  match cap,h with
  |[],_=>rfl
  |_::_::_,_=>rfl
  | [(r',j)],h=>
   have hr:p r'=false:=by simpa [A.nr]using h
   have bg:r'≠e:=by rintro rfl;rw[hp]at hr;cases hr
   simp only[qb,pK,bJ bg];cases σ.m r' with
   |none=>rfl
   | some z=>
    cases z with
    |ax cs=>simp only[jU,aW.drop,<-List.map_drop,aax]
    |_=>rfl
 |_=>rfl
theorem aj6{l:Lf}(h:l.nr p=true)(hp:p e=true):w5 (cW e x u σ).m l=w5 σ.m l:=by
 cases l with
 | own k=>
  match k with
  |[]=>rfl
  | [q]=>
   have hq:q≠e:=by
    have h:(!p q)=true:=by simpa [Lf.nr,eY]using h
    rintro rfl;rw[hp]at h;cases h
   simp only[w5];rw[pK,bJ hq];cases σ.m q with
   |none=>rfl
   |some y=>cases y<;>rfl
  |_::_::_=>rfl
 |v x=>rfl
 |dead=>rfl
theorem aay(hp:p e=true):∀ (ls:af Lf),ls.all (Lf.nr p)=true->th (cW e x u σ).m ls=th σ.m ls
 |[],_=>rfl
 | l :: ls,h=>by
  rw[List.all_cons,aJ]at h;simp only[th,aj6 h.1 hp,aay hp ls h.2]
theorem aaz{m:Nat->aj aW}:∀ {cs:af Lf} {vs:af (V×aj Nat)},th m cs=some vs->cs.all (Lf.nr p)=true->∀ v∈vs,∀ q,v.2=some q->p q=false
 |[],vs,h,_=>by injection h with h;subst h;simp
 | c :: cs,vs,h,hf=>by
  rw[List.all_cons,aJ]at hf;unfold th at h;split at h
  ·rename_i v Cp h1 h2;injection h with h;subst h;intro u hu q hq;rcases iL.1 hu with rfl | hu
   ·unfold w5 at h1;split at h1
    ·injection h1 with h1;rw[<-h1]at hq;cases hq
    ·rename_i q';split at h1
     ·rename_i y _;cases hfy:y.aA with
      |true=>rw[hfy]at h1;injection h1 with h1;rw[<-h1]at hq;cases hq
      | false=>
       rw[hfy,au]at h1;injection h1 with h1;rw[<-h1]at hq;injection hq with hq;subst hq;have h3:=hf.1
       simpa [Lf.nr,eY]using h3
     ·cases h1
    ·cases h1
   ·exact aaz h2 hf.2 u hu q hq
  ·cases h
def Nu(p:Nat->Bool):Mu->Prop
 |.ax r cs vs=>p r=false/\cs.all (Lf.nr p)=true/\∀v∈vs,∀q,v.2=some q->p q=false
 |.sl q _=>p q=false
theorem Ub(hp:p e=true):∀ (ps:af PK) (xs:af Operand) (aL:af Mu),(∀ y∈xs,(aF σ y).nr p=true/\y ≠ .tmp e)->(∀ n∈jS σ ps xs,yT σ p n=true)->lF σ ps xs=some aL->lF (cW e x u σ) ps xs=some aL/\∀ mu∈aL,Nu p mu
 |[],[],aL,_,_,h=>⟨h,by injection h with h;subst h;simp⟩
 |[],_::_,aL,_,_,h=>by cases h
 |_::_,[],aL,_,_,h=>by cases h
 | q :: ps,y :: xs,aL,hy,hl,h=>by
  obtain⟨h1,h2⟩:=hy y (.head _);have lA:∀ n∈jS σ ps xs,yT σ p n=true:=by
   intro n hn;refine hl n ?_;cases q with
   |v=>exact hn
   |s=>exact hn
   | p t g off=>
    simp only[jS];split
    ·exact .tail _ hn
    ·exact hn
  unfold lF at h;have iG:∀ z,w6 σ q (aF σ y)=some z->w6 (cW e x u σ) q (aF (cW e x u σ) y)=some z/\∀ mu,z=some mu->Nu p mu:=by
   intro z hz;rw[yW h1 hp h2];have ji:=w7 hz;cases q with
   | v=>
    cases z with
    |some mu=>exact ji.elim
    |none=>exact⟨hz,by simp⟩
   | p t g off=>
    cases z with
    |none=>exact ji.elim
    | some mu=>
     cases mu with
     |sl=>exact ji.elim
     | ax r' cs vs=>
      obtain⟨e1,hm,hg,hlen⟩:=ji;have dA:p r'=false:=by
       rw[e1]at h1;have h1:(!p r')=true:=h1
       simpa using h1
      have bg:r'≠e:=by rintro rfl;rw[hp]at dA;cases dA
      have dL:cs.all (Lf.nr p)=true:=by
       have:=hl r' (by simp only[jS,e1];exact .head _);unfold yT at this;rw[hm]at this;exact this
      have og:(cW e x u σ).m r'=some (.ax cs):=by
       rw[pK,bJ bg,hm];simp only[jU,aW.drop,oA.nN dL hp]
      refine⟨?_,λmu iG=>?_⟩
      ·rw[e1];simp only[w6,Nat.beq_refl,aq,og,aay hp cs dL,hg];have:Nat.blt cs.length 999=true:=jV hlen;rw[this];rfl
      ·injection iG with iG;subst iG;exact⟨dA,dL,aaz hg dL⟩
   | s t g=>
    cases z with
    |none=>exact ji.elim
    | some mu=>
     cases mu with
     |ax=>exact ji.elim
     | sl q y0=>
      obtain⟨e1,hm,hf⟩:=ji;have hq:p q=false:=by
       rw[e1]at h1;have h1:(!p q)=true:=by simpa [A.nr,Lf.nr,eY]using h1
       simpa using h1
      have bg:q≠e:=by rintro rfl;rw[hp]at hq;cases hq
      refine⟨?_,λmu iG=>?_⟩
      ·rw[e1];simp only[w6];rw[pK,bJ bg,hm];simp only[jU,aW.drop,hf,au]
      ·injection iG with iG;subst iG;exact hq
  split at h
  ·rename_i mu lR k1 k2;injection h with h;subst h;obtain⟨g1,g2⟩:=iG _ k1;obtain⟨f1,f2⟩:=Ub hp ps xs lR (λy h=>hy y (.tail _ h)) lA k2
   refine⟨by simp only[lF,g1,f1],λm hm=>?_⟩
   rcases iL.1 hm with rfl|hm
   ·exact g2 _ rfl
   ·exact f2 m hm
  next lR k1 k2=>injection h with h;subst h;obtain⟨g1,g2⟩:=iG _ k1;obtain⟨f1,f2⟩:=Ub hp ps xs lR (λy h=>hy y (.tail _ h)) lA k2;exact⟨by simp only[lF,g1,f1],f2⟩
  ·cases h
theorem Nv(hp:p e=true)(ns:af Nat):∀ (ps:af PK) (xs:af Operand) (aL:af Mu) (k:nL ps->aj X),(∀ y∈xs,(aF σ y).nr p=true/\y ≠ .tmp e)->jR (cW e x u σ) ns ps xs aL k=jR σ ns ps xs aL k
 |[],[],[],k,_=>rfl
 | .v b t :: ps,y :: xs,aL,k,h=>by
  obtain⟨h1,h2⟩:=h y (.head _);simp only[jR];rw[yW h1 hp h2,aj5 h1 hp];congr 1;funext z;congr 1;split
  ·exact Nv hp ns ps xs aL _ (λy hy=>h y (.tail _ hy))
  ·rfl
 | .p t g off :: ps,y :: xs,.ax r' cs vs :: aL,k,h=>by
  simp only[jR];split
  ·exact Nv hp ns ps xs aL _ (λy hy=>h y (.tail _ hy))
  ·rfl
 | .s t g :: ps,y :: xs,.sl q y0 :: aL,k,h=>by
  simp only[jR];split
  ·exact Nv hp ns ps xs aL _ (λy hy=>h y (.tail _ hy))
  ·rfl
 |[],[],_::_,k,_=>rfl
 |[],_::_,_,k,_=>rfl
 |.v _ _::_,[],_,k,_=>rfl
 |.p _ _ _::_,[],_,k,_=>rfl
 |.s _ _::_,[],_,k,_=>rfl
 |.p _ _ _::_,_::_,[],k,_=>rfl
 |.s _ _::_,_::_,[],k,_=>rfl
 |.p _ _ _::_,_::_,.sl _ _::_,k,_=>rfl
 |.s _ _::_,_::_,.ax _ _ _::_,k,_=>rfl
theorem Uc{i:Nat}:∀ (vs:af (V×aj Nat)) (j:Nat),(∀ v∈vs,∀ q,v.2=some q->p q=false)->∀ u∈EZ i j vs,p u.1=false
 |[],_,_,u,hu=>by cases hu
 |(y,none)::vs,j,h,u,hu=>Uc vs (j+1) (λv hv=>h v (.tail _ hv)) u hu
 | (y,some q) :: vs,j,h,u,hu=>by
  rcases iL.1 hu with rfl|hu
  ·exact h _ (.head _) q rfl
  ·exact Uc vs (j+1) (λv hv=>h v (.tail _ hv)) u hu
theorem Ud:∀ (aL:af Mu) (i:Nat),(∀ mu∈aL,Nu p mu)->∀ u∈mN i aL,p u.1=false
 |[],_,_,u,hu=>by cases hu
 | .ax r' cs vs :: aL,i,h,u,hu=>by
  obtain⟨h1,h2,h3⟩:=h _ (.head _);rcases iL.1 hu with rfl|hu
  ·exact h1
  ·rcases List.mem_append.1 hu with hu | hu
   ·exact Uc vs 0 h3 u hu
   ·exact Ud aL (i+1) (λm hm=>h m (.tail _ hm)) u hu
 | .sl q y :: aL,i,h,u,hu=>by
  rcases iL.1 hu with rfl|hu
  ·exact h _ (.head _)
  ·exact Ud aL (i+1) (λm hm=>h m (.tail _ hm)) u hu
theorem Ue{c0:Nat}(hc:∀ n,c0<=n->p n=false):∀ (vs:af (V×aj Nat)) (n:Nat),(∀ v∈vs,∀ q,v.2=some q->p q=false)->∀ u∈ow c0 n vs,p u=false
 |[],_,_,u,hu=>by cases hu
 | (y,none) :: vs,n,h,u,hu=>by
  rcases iL.1 hu with rfl|hu
  ·exact hc _ (by omega)
  ·exact Ue hc vs (n+1) (λv hv=>h v (.tail _ hv)) u hu
 | (y,some q) :: vs,n,h,u,hu=>by
  rcases iL.1 hu with rfl|hu
  ·exact h _ (.head _) _ rfl
  ·exact Ue hc vs (n+1) (λv hv=>h v (.tail _ hv)) u hu
theorem Uf:∀ (dW:af Nat) (xs:af V),∀ u∈w8 dW xs,u∈dW
 |[],[],u,hu=>by cases hu
 |[],_::_,u,hu=>by cases hu
 |_::_,[],u,hu=>by cases hu
 | n :: dW,y :: xs,u,hu=>by
  simp only[w8]at hu;cases hf:y.aA with
  |true=>rw[hf]at hu;exact .tail _ (Uf dW xs u hu)
  | false=>
   rw[hf,au]at hu;rcases iL.1 hu with rfl|hu
   ·exact .head _
   ·exact .tail _ (Uf dW xs u hu)
theorem aaA{ns cn:af Nat}:∀ (dW:af Nat) (ls:af Lf) (xs:af V),(∀ n∈dW,p n=false)->ls.all (Lf.nr p)=true->(qT ns cn dW ls xs).all (Lf.nr p)=true
 |[],_,_,_,_=>by simp[qT]
 |_::_,[],_,_,_=>by simp[qT]
 |_::_,_::_,[],_,_=>by simp[qT]
 | n :: dW,l :: ls,y :: xs,h1,h2=>by
  rw[List.all_cons,aJ]at h2;simp only[qT,List.all_cons,aJ]
  refine⟨?_,aaA dW ls xs (λn hn=>h1 n (.tail _ hn)) h2.2⟩
  cases y.plain with
  |true=>rfl
  | false=>
   simp only[au];cases y.aA with
   | true=>
    simp only[aq];cases l with
    | own k=>
     have e2:Lf.bA ns cn (.own k)=(bif cF k cn ||(cF k ns && !(Nat.beq k.length 1))then .dead else .own k):=rfl;rw[e2];cases (cF k cn ||(cF k ns && !(Nat.beq k.length 1)))with
     |true=>rfl
     |false=>exact h2.1
    |v x=>rfl
    |dead=>rfl
   | false=>
    simp only[au,Lf.nr,eY,List.getLast?_singleton];rw[h1 n (.head _)];rfl
theorem Ug:∀ (dW:af Nat) (xs:af V),∀ u∈vE dW xs,u.1∈dW/\∃ y,u.2 = .sl y
 |[],[],u,hu=>by cases hu
 |[],_::_,u,hu=>by cases hu
 |_::_,[],u,hu=>by cases hu
 | n :: dW,y :: xs,u,hu=>by
  simp only[vE]at hu;cases hf:y.aA with
  |true=>rw[hf]at hu;obtain⟨h1,h2⟩:=Ug dW xs u hu;exact⟨.tail _ h1,h2⟩
  | false=>
   rw[hf,au]at hu;rcases iL.1 hu with rfl|hu
   ·exact⟨.head _,_,rfl⟩
   ·obtain⟨h1,h2⟩:=Ug dW xs u hu;exact⟨.tail _ h1,h2⟩
theorem Uh{c0:Nat}{ns cn:af Nat}(hp:p e=true)(hc:∀ n,c0<=n->p n=false):∀ (aL:af Mu) (outs:af In) (pos:Nat),(∀ mu∈aL,Nu p mu)->(∀ u∈ox c0 pos aL outs,p u=false)/\∀ u∈m9 ns cn c0 pos aL outs,u.1≠e/\u.2.drop e=u.2
 |[],outs,pos,_=>⟨(λu hu=>by simp[ox]at hu),(λu hu=>by simp[m9]at hu)⟩
 |.ax _ _ _::_,[],pos,_=>⟨(λu hu=>by cases hu),(λu hu=>by cases hu)⟩
 |.sl _ _::_,[],pos,_=>⟨(λu hu=>by cases hu),(λu hu=>by cases hu)⟩
 |.ax _ _ _::_,.sl _::_,pos,_=>⟨(λu hu=>by cases hu),(λu hu=>by cases hu)⟩
 |.sl _ _::_,.ax _::_,pos,_=>⟨(λu hu=>by cases hu),(λu hu=>by cases hu)⟩
 | .ax r' cs vs :: aL,.ax xs :: outs,pos,h=>by
  obtain⟨h1,h2,h3⟩:=h _ (.head _);obtain⟨k1,k2⟩:=Uh (ns:=ns) (cn:=cn) hp hc aL outs (pos+1+vs.length) (λm hm=>h m (.tail _ hm));have bg:∀n,p n=false->n≠e:=by rintro n hn rfl;rw[hp]at hn;cases hn
  have dR:=Ue hc vs (pos+1) h3
  refine⟨λu hu=>?_,λu hu=>?_⟩
  ·simp only[ox]at hu;rcases List.mem_append.1 hu with hu | hu
   ·exact dR u (Uf _ _ u hu)
   ·exact k1 u hu
  ·simp only[m9]at hu;rcases iL.1 hu with rfl | hu
   ·refine⟨bg _ h1,?_⟩;simp only[aW.drop];rw[oA.nN (aaA _ _ _ dR h2) hp]
   ·rcases List.mem_append.1 hu with hu | hu
    ·obtain⟨g1,y,g2⟩:=Ug _ _ u hu;exact⟨bg _ (dR _ g1),by rw[g2];rfl⟩
    ·exact k2 u hu
 | .sl q y :: aL,.sl y' :: outs,pos,h=>by
  have h1:p q=false:=h _ (.head _);obtain⟨k1,k2⟩:=Uh (ns:=ns) (cn:=cn) hp hc aL outs (pos+1) (λm hm=>h m (.tail _ hm))
  refine⟨λu hu=>k1 u (by simpa [ox]using hu),λu hu=>?_⟩
  simp only[m9]at hu;cases hy:y'.l5 with
  |false=>rw[hy]at hu;exact k2 u hu
  |true=>
  rw[hy]at hu;rcases iL.1 hu with rfl|hu
  ·exact⟨(by rintro rfl;rw[hp]at h1;cases h1),rfl⟩
  ·exact k2 u hu
theorem Nw:∀ (xs:af V) (c:Nat),e<c->(mc c xs).map (Lf.drop e)=mc c xs
 |[],_,_=>rfl
 | y :: xs,c,h=>by
  simp only[mc,kN];rw[Nw xs (c+1) (by omega)];cases y.aA with
  |true=>rfl
  | false=>
   have:bH e [c]=false:=by simp[bH];omega
   simp only[au,Lf.drop,this]
theorem aaB{b:Bool}{xs:af Lf}{y:A}(h:sU (b,xs)=some y)(hx:xs.map (Lf.drop e)=xs):y.drop e=y:=by
 unfold sU at h;split at h
 next e1=>injection h with h;subst h;simp only[jL]at e1;obtain⟨_,rfl⟩:=e1;exact cA A.agg hx
 next z e1=>injection h with h;subst h;simp only[jL]at e1;obtain⟨_,rfl⟩:=e1;simp only[kN,List.map_nil,List.cons.injEq,and_true]at hx;exact cA A.lf hx
 ·cases h
theorem aaC:∀ (ps:af Pt) (c:Nat),e<c->(nJ c ps).map (λq=>(q.1,q.2.map (Lf.drop e)))=nJ c ps
 |[],_,_=>rfl
 | q :: ps,c,h=>by
  simp only[nJ,kN];rw[Nw _ _ h,aaC ps _ (by omega)]
theorem aaD(ps:af Pt)(c:Nat)(h:e<c):A.drop e (.cP (nJ c ps)) = .cP (nJ c ps):=cA A.cP (aaC ps c h)
theorem aj7(hx:qZ x)(hu:pJ e u)(he:e<20000){dst:aj Tmp}(hd:dst≠some e){res:iF}{τ:S}(h:oy N σ dst res some=some τ):oy N (cW e x u σ) dst res some=some (cW e x u τ):=by
 cases dst with
 | none=>
  have h:some σ=some τ:=h;injection h with h;rw[<-h];rfl
 | some d=>
  have Bf:d≠e:=by rintro rfl;exact hd rfl
  unfold oy at h ⊢;cases hN:Nat.blt d N with
  |false=>simp only[hN,au]at h;cases h
  | true=>
   simp only[hN,aq]at h ⊢;cases res with
   | one q=>
    simp only at h ⊢;split at h
    next y hy=>injection h with h;subst h;rw[I9 hx hu _ _ _ (by omega),Fh Bf (aaB hy (Nw _ _ (by omega)))]
    ·cases h
   | cP ps=>
    injection h with h;subst h;simp only;rw[T7 hx hu _ _ _ (by omega),Fh Bf (aaD _ _ (by omega))]
theorem aj8(bS:ig P Φ)(hx:qZ x)(hu:pJ e u)(he:e<20000)(hp:p e=true)(C7:∀ n,20000<=n->p n=false)(dZ:pI Φ o=true)(hd:o.dst≠some e)(cw:∀ y∈o.op.operands,(aF σ y).nr p=true/\y ≠ .tmp e)(hl:∀ n∈qX Φ σ o,yT σ p n=true){τ:S}
  (h:dG P N Φ σ o some=some τ):dG P N Φ (cW e x u σ) o some=some (cW e x u τ):=by
 have iR:∃ f args dV,o.op = .call { callee:=.value (.func f),args:=args,argTypes:=dV }:=by
  unfold pI at dZ;split at dZ
  ·exact⟨_,_,_,by assumption⟩
  ·cases dZ
 obtain⟨f,args,dV,ho⟩:=iR;have jn:∀ y∈args.toList,(aF σ y).nr p=true/\y ≠ .tmp e:=by
  intro y hy;refine cw y ?_;rw[ho];simp only[Op.operands,Call.operands];simp only[Array.mem_append]
  first
   |exact .inr (by simpa using hy)
   |exact .inl (by simpa using hy)
 have bq:∀ σ2,dG P N Φ σ2 o some=jF P N Φ σ2 o some:=by
  intro σ2;unfold dG;rw[show gH o.op=false by rw[ho];rfl,au]
 rw[bq]at h ⊢;cases hc:Φ f with
 |none=>simp only[jF,ho,hc]at h;cases h
 | some c=>
  cases c with
  |n F=>rw[pI,ho]at dZ;simp[hc]at dZ
  |v c=>rw[pI,ho]at dZ;simp[hc]at dZ
  |i c=>rw[pI,ho]at dZ;simp[hc]at dZ
  |d c=>rw[pI,ho]at dZ;simp[hc]at dZ
  |q c=>rw[pI,ho]at dZ;simp[hc]at dZ
  |c c=>rw[pI,ho]at dZ;simp[hc]at dZ
  | p c=>
   simp only[jF,ho,hc]at h ⊢;obtain⟨d,kE,h⟩:=iU h;have Bf:d≠e:=by rintro rfl;exact hd kE
   obtain⟨res,gv,h1,h2,h3⟩:=IK (bS f _ hc).2 h;injection h2 with h2;subst h2;simp only[fD,kE]
   refine(h3 (cW e x u σ) (cW e x u gv) (λX k=>aaw hp _ k jn) ?_).at_ _
   unfold qV at h1 ⊢;cases res with
   | one q=>
    simp only at h1 ⊢;split at h1
    next y hy=>injection h1 with h1;subst h1;rw[I9 hx hu _ _ _ (by omega),Fh Bf (aaB hy (Nw _ _ (by omega)))]
    ·cases h1
   | cP ps=>
    injection h1 with h1;subst h1;simp only;rw[T7 hx hu _ _ _ (by omega),Fh Bf (aaD _ _ (by omega))]
  | m c=>
   simp only[jF,ho,hc]at h ⊢;have AV:∀ n∈jS σ c.ps args.toList,yT σ p n=true:=by
    intro n hn;refine hl n ?_;simp only[qX,ho,hc];exact hn
   unfold nM at h;split at h
   ·rename_i aL oz;obtain⟨g1,g2⟩:=Ub (x:=x) (u:=u) hp c.ps args.toList aL jn AV oz;cases kC:(once (mN 0 aL)&&Nat.ble aL.length 40)with
    |false=>rw[kC]at h;cases h
    | true=>
     rw[kC,aq]at h;obtain⟨z,h2,aaE⟩:=CW _ _ _ _ h;simp only[nM,g1,kC,aq];rw[Nv hp _ _ _ _ _ jn];refine(aaE S _).trans ?_;split at h2
     ·rename_i y hy;unfold AT at h2 ⊢;generalize qN:ox (ju o.dst) (fK c.ro y.1).len aL (jQ (fC c.ps) y.2)=cn at h2;generalize eK:CJ N aL (jQ (fC c.ps) y.2) cn=ok at h2;cases ok with
      |false=>cases h2
      | true=>
       rw[aq]at h2;have vC:∀ n,ju o.dst<=n->p n=false:=by
        intro n hn;refine C7 n ?_;cases kE:o.dst with
        |none=>rw[kE]at hn;simp only[ju]at hn;omega
        |some d=>rw[kE]at hn;simp only[ju]at hn;omega
       obtain⟨k1,k2⟩:=Uh (ns:=(mN 0 aL).map (·.1)) (cn:=cn) hp vC aL (jQ (fC c.ps) y.2) (fK c.ro y.1).len g2;rw[qN]at k1;rw[aq,aj2 hx hu ?_ ?_ k2]
       ·exact aj7 hx hu he hd h2
       ·cases hm:cc e ((mN 0 aL).map (·.1))with
        |false=>rfl
        | true=>
         obtain⟨u,hu,e1⟩:=List.mem_map.1 (vD.1 hm);have:=Ud aL 0 g2 u hu;rw[e1,hp]at this;cases this
       ·cases hm:cc e cn with
        |false=>rfl
        |true=>have:=k1 e (vD.1 hm);rw[hp]at this;cases this
     ·cases h2
   ·cases h
theorem A.Ny{y:A}(h:y.gH=true)(n:Nat):y.drop n=y:=by
 cases y with
 |lf l=>cases l<;>first|rfl|cases h
 | agg cs=>
  refine cA A.agg ?_
  conv=>rhs;rw[<-List.map_id cs]
  refine lK λl hl=>?_
  have:=c9.1 h l hl;cases l<;>first|rfl|cases this
 |_=>cases h
theorem A.aj9{y:A}(h:y.gH=true)(ns cn:af Nat):y.bA ns cn=y:=by
 cases y with
 |lf l=>cases l<;>first|rfl|cases h
 | agg cs=>
  refine cA A.agg ?_
  conv=>rhs;rw[<-List.map_id cs]
  refine lK λl hl=>?_
  have:=c9.1 h l hl;cases l<;>first|rfl|cases this
 |_=>cases h
theorem Ja:∀ (xs:af V) (c:Nat) (σ:S) {t:Nat},(σ.t t).gH=true->(jP c σ xs).t t=σ.t t
 |[],c,σ,t,h=>rfl
 | y :: xs,c,σ,t,h=>by
  simp only[jP];cases y.aA with
  |true=>exact Ja xs (c+1) σ h
  | false=>
   simp only[au];have e1:(((σ.drop c).root c (.sl y)).t t)=σ.t t:=by rw[T6];exact A.Ny h c
   rw[Ja xs (c+1) _ (by rw[e1];exact h),e1]
theorem Ui:∀ (ps:af Pt) (c:Nat) (σ:S) {t:Nat},(σ.t t).gH=true->(mM c σ ps).t t=σ.t t
 |[],c,σ,t,h=>rfl
 | q :: ps,c,σ,t,h=>by
  simp only[mM];have e1:=Ja q.2 c σ h;rw[Ui ps _ _ (by rw[e1];exact h),e1]
theorem aka{dst:aj Tmp}{res:iF}{τ:S}(h:oy N σ dst res some=some τ){t:Nat}(ht:(σ.t t).gH=true)(hd:dst≠some t):τ.t t=σ.t t:=by
 cases dst with
 | none=>
  have h:some σ=some τ:=h;injection h with h;rw[<-h]
 | some d=>
  have vI:t≠d:=by rintro rfl;exact hd rfl
  unfold oy at h;cases hN:Nat.blt d N with
  |false=>simp only[hN,au]at h;cases h
  | true=>
   simp only[hN,aq]at h;cases res with
   | one q=>
    simp only at h;split at h
    next y hy=>injection h with h;subst h;exact(cL _ _ _ vI).trans (Ja _ _ _ ht)
    ·cases h
   | cP ps=>
    injection h with h;subst h;exact(cL _ _ _ vI).trans (Ui _ _ _ ht)
theorem akb(bS:ig P Φ)(dZ:pI Φ o=true){τ:S}(h:dG P N Φ σ o some=some τ){t:Nat}(ht:(σ.t t).gH=true)(hd:o.dst≠some t):τ.t t=σ.t t:=by
 have iR:∃ f args dV,o.op = .call { callee:=.value (.func f),args:=args,argTypes:=dV }:=by
  unfold pI at dZ;split at dZ
  ·exact⟨_,_,_,by assumption⟩
  ·cases dZ
 obtain⟨f,args,dV,ho⟩:=iR;have bq:dG P N Φ σ o some=jF P N Φ σ o some:=by
  unfold dG;rw[show gH o.op=false by rw[ho];rfl,au]
 rw[bq]at h;cases hc:Φ f with
 |none=>simp only[jF,ho,hc]at h;cases h
 | some c=>
  cases c with
  |n F=>rw[pI,ho]at dZ;simp[hc]at dZ
  |v c=>rw[pI,ho]at dZ;simp[hc]at dZ
  |i c=>rw[pI,ho]at dZ;simp[hc]at dZ
  |d c=>rw[pI,ho]at dZ;simp[hc]at dZ
  |q c=>rw[pI,ho]at dZ;simp[hc]at dZ
  |c c=>rw[pI,ho]at dZ;simp[hc]at dZ
  | p c=>
   simp only[jF,ho,hc]at h;obtain⟨d,kE,h⟩:=iU h;obtain⟨res,gv,h1,h2,h3⟩:=IK (bS f _ hc).2 h;injection h2 with h2;subst h2;have vI:t≠d:=by rintro rfl;exact hd kE
   unfold qV at h1;cases res with
   | one q=>
    simp only at h1;split at h1
    next y hy=>injection h1 with h1;subst h1;exact(cL _ _ _ vI).trans (Ja _ _ _ ht)
    ·cases h1
   | cP ps=>
    injection h1 with h1;subst h1;exact(cL _ _ _ vI).trans (Ui _ _ _ ht)
  | m c=>
   simp only[jF,ho,hc]at h;unfold nM at h;split at h
   ·rename_i aL oz;cases kC:(once (mN 0 aL)&&Nat.ble aL.length 40)with
    |false=>rw[kC]at h;cases h
    | true=>
     rw[kC,aq]at h;obtain⟨z,h2,aaE⟩:=CW _ _ _ _ h;split at h2
     ·rename_i y hy;unfold AT at h2;generalize CJ N aL (jQ (fC c.ps) y.2) (ox (ju o.dst) (fK c.ro y.1).len aL (jQ (fC c.ps) y.2))=ok at h2;cases ok with
      |false=>cases h2
      | true=>
       rw[aq]at h2;have e1:∀ns cn nr,(σ.bA ns cn nr).t t=σ.t t:=λns cn nr=>A.aj9 ht ns cn
       have:=aka (t:=t) h2 (by rw[e1];exact ht) hd;rw[this,e1]
     ·cases h2
   ·cases h
theorem akc{e':Nat}{x':aW}{u':A}(hx:qZ x)(hu:pJ e u)(cV:qZ x')(l8:pJ e' u')(h:e≠e'):cW e' x' u' (cW e x u σ)=cW e x u (cW e' x' u' σ):=by
 refine S.ext' (λk=>?_) λn=>?_
 ·simp only[tH];by_cases h1:k=e'
  ·subst h1;rw[bu rfl,bJ (Ne.symm h),bu rfl,l8.drop (Ne.symm h)]
  ·rw[bJ h1];by_cases h2:k=e
   ·subst h2;rw[bu rfl,bu rfl,hu.drop h]
   ·rw[bJ h2,bJ h2,bJ h1,A.tG]
 ·simp only[pK];by_cases h1:n=e'
  ·subst h1;rw[bu rfl,bJ (Ne.symm h),bu rfl,jU,cV.1]
  ·rw[bJ h1];by_cases h2:n=e
   ·subst h2;rw[bu rfl,bu rfl,jU,hx.1]
   ·rw[bJ h2,bJ h2,bJ h1];cases σ.m n with
    |none=>rfl
    |some y=>simp only[jU,aW.tG]
theorem akd(hx:qZ x)(hu:pJ e u)(hp:p e=true)(hm:qg o=true)(hd:o.dst≠some e)(cw:∀ y∈o.op.operands,(aF σ y).nr p=true/\y ≠ .tmp e){τ:S}
  (h:dG P N Φ σ o some=some τ):dG P N Φ (cW e x u σ) o some=some (cW e x u τ):=by
 obtain⟨e',x',u',wL,Iw,cV,l8,en,ir⟩:=Nm (o:={ o with guard:=none }) (ops:=#[]) (σ:=σ) (Φ:=Φ) (P:=P) (N:=N) hm rfl h;have bg:e≠e':=by rintro rfl;exact hd wL
 have h2:=ir (cW e x u σ) rfl λy hy=>yW (cw y hy).1 hp (cw y hy).2
 rw[akc hx hu cV l8 bg,<-en]at h2;exact h2
theorem ake(hm:qg o=true){τ:S}(h:dG P N Φ σ o some=some τ){t:Nat}(ht:(σ.t t).gH=true)(hd:o.dst≠some t):τ.t t=σ.t t:=by
 obtain⟨e',x',u',wL,Iw,cV,l8,en,ir⟩:=Nm (o:={ o with guard:=none }) (ops:=#[]) (σ:=σ) (Φ:=Φ) (P:=P) (N:=N) hm rfl h;have bg:t≠e':=by rintro rfl;exact hd wL
 rw[en,tH,bJ bg,A.Ny ht]
theorem akf(hx:qZ x)(hu:pJ e u)(hp:p e=true)(hm:isApp o=true)(hd:o.dst≠some e)(cw:∀ y∈o.op.operands,(aF σ y).nr p=true/\y ≠ .tmp e){τ:S}
  (h:dG P N Φ σ o some=some τ):dG P N Φ (cW e x u σ) o some=some (cW e x u τ):=by
 obtain⟨a,b,t,t',ho,hn,gG,hk⟩:=T0 hm;have ha:=cw a (by rw[ho];simp[Op.operands,Call.operands]);have hb:=cw b (by rw[ho];simp[Op.operands,Call.operands]);rw[I7 ho hn gG hk]at h ⊢;obtain⟨d,kE,h⟩:=iU h;obtain⟨r,v,en,hr,ir⟩:=Nn h;have Bf:d≠e:=by rintro rfl;exact hd kE
 have Jb:r≠e:=by
  rcases hr with h1|h1
  ·rw[h1];exact Bf
  ·rintro rfl;have h2:=ha.1;rw[h1]at h2;simp[A.nr,Lf.nr,eY,hp]at h2
 unfold fD;rw[kE];simp only;rw[yW ha.1 hp ha.2,yW hb.1 hp hb.2,ir (cW e x u σ) (λk=>aj3 hb.1 hp) (λr' v' dA og=>?_)]
 ·rw[aat v hx hu (Ne.symm Jb),Fh Bf ?_,en];have:bH e [r]=false:=by simp[bH,Jb]
  simp only[A.drop,Lf.drop,this,au]
 ·have bg:r'≠e:=by
   rintro rfl;have h2:=ha.1;rw[dA]at h2;simp[A.nr,Lf.nr,eY,hp]at h2
  rw[pK,bJ bg,og];rfl
theorem akg(hm:isApp o=true){τ:S}(h:dG P N Φ σ o some=some τ){t:Nat}(ht:(σ.t t).gH=true)(hd:o.dst≠some t):τ.t t=σ.t t:=by
 obtain⟨a,b,t1,t2,ho,hn,gG,hk⟩:=T0 hm;rw[I7 ho hn gG hk]at h;obtain⟨d,kE,h⟩:=iU h;obtain⟨r,v,en,hr,ir⟩:=Nn h;have bg:t≠d:=by rintro rfl;exact hd kE
 rw[en];show bP ((σ.drop r).root r (.sl v)).t d _ t=_;rw[cL _ _ _ bg];exact A.Ny ht r
theorem aaF(ho:∃ ty t y,o.op = .store ty (.tmp t) y/\o.dst=none/\∃ r j,σ.t t = .aG r j){τ:S}(h:dG P N Φ σ o some=some τ):∃ t y r j cs xs,o.op.operands = #[.tmp t,y]/\σ.t t = .aG r j/\(aF σ y).Az=some xs/\σ.m r=some (.ax cs)/\τ=σ.root r (.ax (splice cs j xs))/\
  ∀(σ2:S) (Fi:af Lf),σ2.t t = .aG r j->aF σ2 y=aF σ y->σ2.m r=some (.ax Fi)->Fi.length=cs.length->dG P N Φ σ2 o some=some (σ2.root r (.ax (splice Fi j xs))):=by
 obtain⟨ty,t,y,ho,hd,r,j,ht⟩:=ho;have bq:∀ σ2:S,σ2.t t = .aG r j->dG P N Φ σ2 o some=o7 P σ2 ty (.aG r j) (aF σ2 y) some:=by
  intro σ2 h2;unfold dG;rw[show gH o.op=false by rw[ho];rfl,au];simp only[jF,ho,hd];have e1:aF σ2 (.tmp t) = .aG r j:=h2;rw[e1,show xg (.aG r j) (aF σ2 y)=false from rfl,au]
 rw[bq σ ht]at h;unfold o7 at h;split at h
 ·rename_i n xs hn iQ;split at h
  ·rename_i hlen;simp only at h;split at h
   ·rename_i cs dL;split at h
    ·rename_i hj;cases hl:xs.all Lf.live with
     |false=>rw[hl]at h;cases h
     | true=>
      rw[hl,aq]at h;injection h with h
      refine⟨t,y,r,j,cs,xs,by rw[ho];rfl,ht,iQ,dL,h.symm,λσ2 Fi h1 h2 h3 h4=>?_⟩
      rw[bq σ2 h1,h2];simp only[o7,hn,iQ,bu hlen,h3];rw[bu (by rw[h4];exact hj),hl];rfl
    ·cases h
   ·cases h
  ·cases h
 ·cases h
theorem aaG(hm:IX o=true)(hs:yS σ o=true):∃ ty t y,o.op = .store ty (.tmp t) y/\o.dst=none/\∃ r j,σ.t t = .aG r j:=by
 unfold IX at hm;rw[aJ]at hm;obtain⟨h1,h2⟩:=hm;split at h1
 ·rename_i ty t y ho;refine⟨ty,t,y,ho,Option.isNone_iff_eq_none.1 h2,?_⟩;unfold yS at hs;rw[ho]at hs;simp only at hs;split at hs
  ·exact⟨_,_,by assumption⟩
  ·cases hs
 ·cases h1
theorem akh{y:A}{xs:af Lf}(h:y.Az=some xs)(hn:y.nr p=true):xs.all (Lf.nr p)=true:=by
 cases y with
 |lf l=>injection h with h;subst h;simpa [A.nr]using hn
 |agg cs=>injection h with h;subst h;exact hn
 |_=>cases h
theorem aki(hx:qZ x)(hu:pJ e u)(hp:p e=true)(hm:IX o=true)(hs:yS σ o=true)(cw:∀ y∈o.op.operands,(aF σ y).nr p=true/\y ≠ .tmp e){τ:S}
  (h:dG P N Φ σ o some=some τ):dG P N Φ (cW e x u σ) o some=some (cW e x u τ):=by
 obtain⟨t,y,r,j,cs,xs,g1,g2,g3,g4,g5,g6⟩:=aaF (aaG hm hs) h;have ht:=cw (.tmp t) (by rw[g1];simp);have hy:=cw y (by rw[g1];simp);have e1:(cW e x u σ).t t = .aG r j:=(yW ht.1 hp ht.2).trans g2;have Jb:r≠e:=by
  have h2:(aF σ (.tmp t)).nr p=true:=ht.1;have h3:aF σ (.tmp t) = .aG r j:=g2;rw[h3]at h2;exact ajF h2 hp
 have e3:(cW e x u σ).m r=some (.ax (cs.map (Lf.drop e))):=by
  rw[pK,bJ Jb,g4];rfl
 have iQ:=oA.nN (akh g3 hy.1) hp;rw[g6 (cW e x u σ) _ e1 (yW hy.1 hp hy.2) e3 (by rw[eV]),g5];congr 1
 refine S.ext' (λk=>?_) λn=>?_
 ·show (cW e x u σ).t k=(cW e x u (σ.root r (.ax (splice cs j xs)))).t k;rw[tH,tH];rfl
 ·show bP (cW e x u σ).m r (some (.ax (splice (cs.map (Lf.drop e)) j xs))) n=(cW e x u (σ.root r (.ax (splice cs j xs)))).m n;rw[pK];by_cases hn:n=r
  ·subst hn;rw[bY,bJ Jb];show _=(bP σ.m n (some (aW.ax (splice cs j xs))) n).map (aW.drop e);rw[bY];simp only[jU,aW.drop,splice,List.map_append,List.map_take,List.map_drop,iQ]
  ·rw[cL _ _ _ hn,pK];have:(σ.root r (.ax (splice cs j xs))).m n=σ.m n:=cL _ _ _ hn;rw[this]
theorem akj(hm:IX o=true)(hs:yS σ o=true){τ:S}(h:dG P N Φ σ o some=some τ)(t:Nat):τ.t t=σ.t t:=by
 obtain⟨_,_,r,j,cs,xs,_,_,_,_,g5,_⟩:=aaF (aaG hm hs) h;rw[g5];rfl
theorem akk(bS:ig P Φ)(hx:qZ x)(hu:pJ e u)(he:e<20000)(hp:p e=true)(C7:∀ n,20000<=n->p n=false)(dZ:IY Φ o=true)(jl:yS σ o=true)(hd:o.dst≠some e)(cw:∀ y∈o.op.operands,(aF σ y).nr p=true/\y ≠ .tmp e)(hl:∀ n∈qX Φ σ o,yT σ p n=true){τ:S}
  (h:dG P N Φ σ o some=some τ):dG P N Φ (cW e x u σ) o some=some (cW e x u τ):=by
 unfold IY at dZ;rw[eH,eH,eH]at dZ;rcases dZ with ((hc|hc)|hc)|hc
 ·exact aj8 bS hx hu he hp C7 hc hd cw hl h
 ·exact akd hx hu hp hc hd cw h
 ·exact akf hx hu hp hc hd cw h
 ·exact aki hx hu hp hc jl cw h
theorem akl(bS:ig P Φ)(dZ:IY Φ o=true)(jl:yS σ o=true){τ:S}(h:dG P N Φ σ o some=some τ){t:Nat}(ht:(σ.t t).gH=true)(hd:o.dst≠some t):τ.t t=σ.t t:=by
 unfold IY at dZ;rw[eH,eH,eH]at dZ;rcases dZ with ((hc|hc)|hc)|hc
 ·exact akb bS hc h ht hd
 ·exact ake hc h ht hd
 ·exact akg hc h ht hd
 ·exact akj hc jl h t
end
end Go.Proofs.YtcioagfjiccleaaGreat
