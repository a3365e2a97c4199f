/-
  Running the program over pure contents, and that it follows (part 4). Nothing here is a claim.
-/
import Derived.Test.YtecofnkoloihpaaGreatV3
set_option linter.unusedSimpArgs false
namespace Go.Proofs.YtecofnkoloihpaaGreat
open Go.RowKit
set_option linter.unusedVariables false
abbrev fo:=Nat->ak ru
def ir(P:Program)(Φ:fo):Prop:=∀f c,Φ f=some c->enters P f/\Uc P f c
def fM{X:Type}(o:Oper)(k:Nat->ak X):ak X:=
 match o.dst with
 |some d=>k d
 |none=>none
def gF:Op->Bool
 |.move _|.assign _|.pick .. |.build .. |.load .. |.binOp .. |.unOp .. |.convert .. |.fieldAddr .. |.field .. |.indexAddr .. |.index .. |.extract .. |.nilCheck _=>true
 |.call ⟨.builtin .len,_,_⟩|.call ⟨.builtin .max,_,_⟩|.call ⟨.builtin .min,_,_⟩=>true
 |.slice _ _ _ _ none=>true
 |_=>false
def gy{X:Type}(P:Program)(σ:S)(op:Op)(k:A->ak X):ak X:=
 match op with
 |.move x=>k (aH σ x)
 |.assign x=>k (aH σ x)
 | .pick c x y=>(match aH σ c with
  |.lf (.v (.bool b))=>bif b then k (aH σ x)else k (aH σ y)
  |_=>none)
 |.build t parts=>vS P σ t parts.toList k
 |.load t x=>mq P σ t (aH σ x) k
 |.binOp op t x y _=>nX P σ op t (aH σ x) (aH σ y) k
 |.unOp op _ x=>vK (aH σ x) λa=>D7 op a λz=>k (.lf (.v z))
 |.convert s d x=>qg P σ s d (aH σ x) k
 |.fieldAddr s x f=>vM P s (aH σ x) f k
 |.field s x f=>zB P s (aH σ x) f k
 |.indexAddr t x i=>qZ P σ t (aH σ x) (aH σ i) k
 |.index t x i=>BA P t (aH σ x) (aH σ i) k
 |.extract x i=>xg (aH σ x) i k
 |.nilCheck x=>M1 (aH σ x) k
 |.call ⟨.builtin .len,⟨[x]⟩,⟨[t]⟩⟩=>p9 P σ t (aH σ x) k
 |.call ⟨.builtin .max,⟨[x,y]⟩,⟨[_,_]⟩⟩=>Bz true (aH σ x) (aH σ y) k
 |.call ⟨.builtin .min,⟨[x,y]⟩,⟨[_,_]⟩⟩=>Bz false (aH σ x) (aH σ y) k
 |.slice t x lo hi none=>tA P σ t (aH σ x) (lo.map (aH σ)) (hi.map (aH σ)) k
 |_=>none
def ju{X:Type}(P:Program)(N:Nat)(Φ:fo)(σ:S)(o:Oper)(k:S->ak X):ak X:=
 match o.op with
 |.alloc e=>fM o λd=>tw P N σ d e k
 |.box e x=>fM o λd=>B1 N σ d (aH σ x) k
 |.buildSlice t len parts=>fM o λd=>bif pH t then Aa P N σ d t len parts.toList k else By P N σ d t len parts.toList k
 | .store t x y=>(match o.dst with
  |none=>bif v7 (aH σ x) (aH σ y)then sE P σ t (aH σ x) (aH σ y) k else oB P σ t (aH σ x) (aH σ y) k
  |some _=>none)
 |.makeSlice t l c=>fM o λd=>Bq P N σ d t (aH σ l) (aH σ c) k
 | .call ⟨.value (.func f),args,_⟩=>(match Φ f with
  |some (.p c)=>fM o λd=>zL N σ d c args.toList k
  |some (.m c)=>qp N σ o.dst c args.toList k
  |some (.v c)=>fM o λd=>B3 N σ d c args.toList k
  |some (.n F)=>none
  |some (.i c)=>B4 N σ o.dst c (args.toList.map (aH σ)++[]) k
  |some (.d c)=>BZ N σ o.dst c args.toList k
  |some (.q c)=>fM o λd=>su N σ d c args.toList k
  |some (.c c)=>B5 N σ o.dst c args.toList k
  |none=>none)
 |.call ⟨.builtin .append,⟨[x,y]⟩,⟨[t,t']⟩⟩=>bif Nat.beq t t' then fM o λd=>bif pH t then Ab P N σ d t (aH σ x) (aH σ y) k else bif HI t d x then Af P N σ d t (aH σ x) (aH σ y) k else q5 P N σ d t (aH σ x) (aH σ y) k else none
 | .call ⟨.value (.tmp t),args,_⟩=>(match M6 (aH σ (.tmp t))with
  | some (f,ex)=>(match Φ f with
   |some (.i c)=>B4 N σ o.dst c (args.toList.map (aH σ)++ex) k
   |_=>none)
  |none=>none)
 | .makeFunc (.func f) ⟨[]⟩ HJ=>(match HG σ HJ.toList with
  |some ps=>jD N σ o.dst (.fn f ps) k
  |none=>none)
 |.call ⟨.builtin .clear,⟨[x]⟩,⟨[t]⟩⟩=>Bw P σ t (aH σ x) λaA=>jD N aA o.dst .undef k
 |_=>none
def dU{X:Type}(P:Program)(N:Nat)(Φ:fo)(σ:S)(o:Oper)(k:S->ak X):ak X:=
 bif gF o.op then gy P σ o.op λv=>jD N σ o.dst v k else ju P N Φ σ o k
def oO{X:Type}(P:Program)(N:Nat)(Φ:fo)(σ:S)(o:Oper)(k:S->ak X):ak X:=
 match o.op,o.dst with
 | .store t x y,none=>(match aH σ y with
  |.view [q] s i j=>Ad P σ q s i j t (aH σ x) k
  |_=>dU P N Φ σ o k)
 |.slice t x (some lo) (some hi) (some mx),some d=>Ae P σ t (aH σ x) (aH σ lo) (aH σ hi) (aH σ mx) (bif Nat.blt d N then k (σ.set d .undef)else none)
 |_,_=>dU P N Φ σ o k
def gG(σ:S)(ops:Array Oper)(o:Oper):ak Bool:=
 match o.guard with
 |none=>some true
 | some (j,want)=>match (ops[j]?).bind (·.dst)with
  | some t=>(match σ.t t with
   |.lf (.v (.bool b))=>some (b==want)
   |.skip=>some false
   |_=>none)
  |none=>none
def HK(ops:Array Oper)(j:Nat):Bool:=ops.toList.any λo=>match o.guard with
 |some (i,_)=>Nat.beq i j
 |none=>false
def pI{X:Type}(σ:S)(dst:ak Tmp)(g:Bool)(k:S->ak X):ak X:=
 bif g then (match dst with
  | some d=>(match σ.t d with
   |.lf (.v (.bool b))=>bif b then k (σ.set d (.lf (.v (.bool true))))else k (σ.set d (.lf (.v (.bool false))))
   |_=>k σ)
  |none=>k σ)else k σ
def v9{X:Type}(P:Program)(N:Nat)(Φ:fo)(ops:Array Oper):Nat->af Oper->S->(S->ak X)->ak X
 |_,[],σ,k=>k σ
 | j,o :: rest,σ,k=>match gG σ ops o with
  |some true=>oO P N Φ σ o λaA=>pI aA o.dst (HK ops j) λtJ=>v9 P N Φ ops (j+1) rest tJ k
  |some false=>jD N σ o.dst .skip λaA=>v9 P N Φ ops (j+1) rest aA k
  |none=>none
/-! Regions whose order is open: what is listed is a set of bits. -/
def dN{X:Type}(P:Program)(N:Nat)(Φ:fo)(ops:Array Oper)(σ:S)(o:Oper)(k:S->ak X):ak X:=
 match gG σ ops o with
 |some true=>dU P N Φ σ o k
 |some false=>jD N σ o.dst .skip k
 |none=>none
def nE(ops:Array Oper)(L j:Nat):Bool:=!L.testBit j&&(match ops[j]? with
 |some o=>o.after.toList.all λe=>!Region.binds .any e ||L.testBit e.on
 |none=>false)
def HL(ops:Array Oper)(i W j:Nat):Bool:=(match ops[j]? with
 |some o=>o.after.toList.any λe=>Region.binds .any e&&(Nat.beq e.on i ||W.testBit e.on)
 |none=>false)
def waits(ops:Array Oper)(i:Nat):Nat->Nat->Nat->Nat
 |0,_,W=>W
 |n+1,j,W=>waits ops i n (j+1) (bif HL ops i W j then W |||2 ^ j else W)
def fH(o:Oper)(n:Nat):Bool:=match o.dst with
 | some d=>(match o.op with
  |.alloc _|.box .. |.buildSlice .. |.makeSlice ..=>Nat.beq n d
  |.call ⟨.value (.func _),_,_⟩=>Nat.ble (1000000000100000+1000*d) n
  |.call ⟨.builtin .append,_,_⟩=>Nat.beq n d
  |_=>false)
 |none=>false
def M8(Φ:fo)(op:Op):Bool:=gF op || (match op with
 |.alloc _|.box .. |.buildSlice .. |.makeSlice ..=>true
 | .call ⟨.value (.func f),_,_⟩=>(match Φ f with
  |some (.p _)=>true
  |some (.q _)=>true
  |_=>false)
 |_=>false)
def lE(g:Oper->Bool)(ops:Array Oper)(i L W:Nat):Nat->Nat->Bool
 |0,_=>false
 | f+1,j=>(!(Nat.beq j i || L.testBit j || W.testBit j)&&(match ops[j]? with
  |some oj=>g oj
  |none=>false)) ||lE g ops i L W f (j+1)
def HM(g:Oper->Bool)(ops:Array Oper)(oi:Oper)(i L W:Nat):Nat->Nat->Bool
 |0,_=>true
 | n+1,j=>(Nat.beq j i || L.testBit j || (bif W.testBit j then HL ops i W j else (match ops[j]? with
  |some oj=>g oj&&oi.apart ops oj
  |none=>true)))&&HM g ops oi i L W n (j+1)
def abn(ok:Nat->Nat->Bool)(σ:S):af PK->af Operand->Bool
 | .p _ _ _ :: ps,.tmp t :: xs=>(match σ.t t with
  |.aK r _=>ok t r
  |_=>false)&&abn ok σ ps xs
 |.v _ _::ps,_::xs=>abn ok σ ps xs
 |[],[]=>true
 |_,_=>false
def pJ(σ:S):af PK->af Operand->af Nat
 | .p _ _ _ :: ps,x :: xs=>(match aH σ x with
  |.aK r _=>r::pJ σ ps xs
  |_=>pJ σ ps xs)
 |_::ps,_::xs=>pJ σ ps xs
 |_,_=>[]
def tK(Φ:fo)(σ:S)(o:Oper):af Nat:=match o.op with
 | .call ⟨.value (.func f),args,_⟩=>(match Φ f with
  |some (.m c)=>pJ σ c.ps args.toList
  |_=>[])
 |_=>[]
def mX(t:Nat)(o:Oper):Bool:=match o.dst with
 |some d=>Nat.beq d t
 |none=>false
def we(o:Oper):Bool:=(match o.op with
 |.alloc _=>true
 |_=>false)&&o.guard.isNone&&(match o.dst with
 |some d=>Nat.blt d 20000
 |none=>false)
def pK(o:Oper):Bool:=(match o.op with
 |.alloc _=>true
 |.buildSlice t _ _=>!pH t
 |.makeSlice ..=>true
 |_=>false)&&(match o.dst with
 |some d=>Nat.blt d 20000
 |none=>false)
def isApp(o:Oper):Bool:=match o.op with
 |.call ⟨.builtin .append,⟨[x,_]⟩,⟨[t,t']⟩⟩=>!pH t&&Nat.beq t t' && !B6 o.dst t x
 |_=>false
def A.nG(p pb:Nat->Bool):A->Bool
 |.lf x=>x.nr p
 |.agg cs=>cs.all (Lf.nr p)
 |.cU xs=>xs.all λq=>q.2.all (Lf.nr p)
 |.ptr k=>gx p k
 |.aK r _=>!pb r
 |.pk r _=>!pb r
 |.view k _ _ _=>gx p k
 |.fn _ cap=>cap.all λq=>!pb q.1
 |_=>true
def B8(σ:S)(o:Oper):af Nat:=match o.op with
 | .store _ (.tmp t) _=>(match σ.t t with
  |.aK r _=>[r]
  |_=>[])
 | .call ⟨.builtin .append,⟨[.tmp t,_]⟩,⟨[_,_]⟩⟩=>(match σ.t t with
  |.lf (.own [r])=>[r]
  |_=>[])
 |_=>[]
def M9(σ:S)(o:Oper):af Nat:=match o.op with
 | .call ⟨.builtin .append,⟨[.tmp t,_]⟩,⟨[_,_]⟩⟩=>(match σ.t t with
  |.lf (.own [r])=>[r]
  |_=>[])
 |_=>[]
def amy(t:Nat)(o:Oper):Bool:=match o.op with
 |.store _ (.tmp t') _=>Nat.beq t' t
 |_=>false
def faR(ops:Array Oper)(i L W:Nat)(σ:S)(o:Oper):af Nat:=match o.op,o.dst with
 | .fieldAddr _ (.tmp x) _,some t=>bif lE (amy t) ops i L W ops.size 0 then (match σ.t x with
  |.aK r _=>[r]
  |_=>[])else []
 |_,_=>[]
def B9(Φ:fo)(ops:Array Oper)(i L W:Nat)(σ:S)(n:Nat):Bool:=
 lE (λo=>fH o n) ops i L W ops.size 0 ||lE (λo=>cX n (tK Φ σ o) ||cX n (B8 σ o)) ops i L W ops.size 0
def wg(Φ:fo)(ops:Array Oper)(i L W:Nat)(σ:S)(n:Nat):Bool:=
 B9 Φ ops i L W σ n ||lE (λo=>cX n (faR ops i L W σ o)) ops i L W ops.size 0
def xN(σ:S)(ops:Array Oper)(i L W n:Nat):Bool:=lE (λo=>fH o n) ops i L W ops.size 0 ||lE (λo=>cX n (M9 σ o)) ops i L W ops.size 0
def Ag(Φ:fo)(o:Oper):Bool:=match o.op with
 | .call ⟨.value (.func f),_,_⟩=>(match Φ f with
  |some (.p _)=>true
  |_=>false)
 |_=>false
def n7(Φ:fo)(ops:Array Oper)(i L W t:Nat):Bool:=!lE (λok=>mX t ok && !(pK ok ||isApp ok ||Ag Φ ok)) ops i L W ops.size 0
def Ui(Φ:fo)(ops:Array Oper)(i L W:Nat)(o:Oper):Bool:=match o.op with
 |.call ⟨.builtin .append,⟨[.tmp t,_]⟩,⟨[ty,ty']⟩⟩=>n7 Φ ops i L W t&&(!pH ty&&Nat.beq ty ty' && !B6 o.dst ty (.tmp t))
 |_=>false
def n8(Φ:fo)(ops:Array Oper)(i L W:Nat)(σ:S)(x:Nat):Bool:=!lE (mX x) ops i L W ops.size 0&&(match σ.t x with
 |.aK r _=>wg Φ ops i L W σ r
 |.je _=>true
 |_=>false)
def Na(Φ:fo)(ops:Array Oper)(i L W:Nat)(σ:S)(o:Oper):Bool:=match o.op with
 |.fieldAddr _ (.tmp x) _=>n8 Φ ops i L W σ x
 |_=>false
def Nb(Φ:fo)(ops:Array Oper)(i L W:Nat)(σ:S)(t:Nat):Bool:=!lE (λok=>mX t ok && !(we ok ||Na Φ ops i L W σ ok)) ops i L W ops.size 0
def GI(Φ:fo)(ops:Array Oper)(i L W:Nat)(σ:S)(o:Oper):Bool:=match o.op with
 | .store _ (.tmp t) _=>o.dst.isNone&&Nb Φ ops i L W σ t&&(match σ.t t with
  |.ptr _=>false
  |_=>true)
 |_=>false
def Uj(σ:S)(p:Nat->Bool)(o:Oper):Bool:=o.op.operands.toList.all λx=>(aH σ x).nr p
def Uk(σ:S)(p pb:Nat->Bool)(o:Oper):Bool:=(o.op.operands.toList.all λx=>(aH σ x).nG p pb)&&(match o.op with
 | .load _ x=>(match aH σ x with
  |.aK r _=>!p r
  |_=>true)
 |_=>true)
def abo(Φ:fo)(ops:Array Oper)(L:Nat)(σ:S)(i:Nat):Bool:=match ops[i]? with
 | some oi=>(gF oi.op || (match gG σ ops oi with
  |some b=>!b
  |none=>false))&&Nat.beq ((L |||2 ^ i) &&& waits ops i ops.size 0 0) 0&&HM (λoj=>M8 Φ oj.op ||false ||GI Φ ops i L (waits ops i ops.size 0 0) σ oj ||Ui Φ ops i L (waits ops i ops.size 0 0) oj) ops oi i L (waits ops i ops.size 0 0) ops.size 0&&Uk σ (wg Φ ops i L (waits ops i ops.size 0 0) σ) (xN σ ops i L (waits ops i ops.size 0 0)) oi
 |none=>false
def Ah{X:Type}(P:Program)(N:Nat)(Φ:fo)(ops:Array Oper)(L i:Nat)(σ:S)(o:Oper)(k:S->ak X):ak X:=
 match gG σ ops o with
 |some true=>gy P σ o.op λv=>bif v.nG (wg Φ ops i L (waits ops i ops.size 0 0) σ) (xN σ ops i L (waits ops i ops.size 0 0))then jD N σ o.dst v k else none
 |some false=>jD N σ o.dst .skip k
 |none=>none
/-! A call may be taken first where all that is free beside it are new blocks. -/
def A.gF:A->Bool
 |.lf (.v _)=>true
 | .agg cs=>cs.all λl=>match l with
  |.v _=>true
  |_=>false
 |_=>false
def Ul(ops:Array Oper)(i L W:Nat)(σ:S)(o:Oper):Bool:=pK o&&(match gG σ ops o with
 |some b=>b
 | none=>false)&&(o.op.operands.toList.all λx=>(aH σ x).gF&&(match x with
  |.tmp t=>!lE (mX t) ops i L W ops.size 0
  |_=>true))&&(match o.guard with
 | some (g,_)=>(match (ops[g]?).bind (·.dst)with
  |some t=>!lE (mX t) ops i L W ops.size 0
  |none=>true)
 |none=>true)
def oP(Φ:fo)(o:Oper):Bool:=match o.op with
 | .call ⟨.value (.func f),_,_⟩=>(match Φ f with
  |some (.p _)=>true
  |some (.m _)=>true
  |_=>false)
 |_=>false
def HN(o:Oper):Bool:=(match o.op with
 |.store _ (.tmp _) _=>true
 |_=>false)&&o.dst.isNone
def xO(σ:S)(o:Oper):Bool:=match o.op with
 | .store _ (.tmp t) _=>(match σ.t t with
  |.aK _ _=>true
  |_=>false)
 |_=>true
def HO(Φ:fo)(o:Oper):Bool:=oP Φ o ||pK o ||isApp o ||HN o
def xP(σ:S)(p:Nat->Bool)(r:Nat):Bool:=match σ.m r with
 |some (.aC cs)=>cs.all (Lf.nr p)
 |_=>true
def Ep(o:Oper)(n:Nat):Bool:=mX n o
def abp(Φ:fo)(ops:Array Oper)(L:Nat)(σ:S)(i:Nat):Bool:=match ops[i]? with
 | some oi=>HO Φ oi&&Nat.beq ((L ||| 2 ^ i) &&& waits ops i ops.size 0 0) 0&&HM (Ul ops i L (waits ops i ops.size 0 0) σ) ops oi i L (waits ops i ops.size 0 0) ops.size 0 &&
   Uj σ (λn=>lE (λo=>Ep o n) ops i L (waits ops i ops.size 0 0) ops.size 0) oi&&(tK Φ σ oi).all (xP σ (λn=>lE (λo=>Ep o n) ops i L (waits ops i ops.size 0 0) ops.size 0))&&xO σ oi
 |none=>false
def sF(x:A)(n:Nat):ak V:=match x with
 | .cU xs=>(match xs[n]? with
  |some (false,[.v z])=>some z
  |_=>none)
 |_=>none
def Um(ops:Array Oper)(L:Nat)(σ:S)(i:Nat):Bool:=match ops[i]?,(List.range ops.size).filter (λj=>!(Nat.beq j i || L.testBit j))with
 | some oi,[j0]=>(match oi.op,oi.dst,oi.guard,ops[j0]? with
  | .extract (.tmp x) n,some _,none,some oj=>(match oj.op,oj.dst,oj.guard with
   |.store _ a b,none,none=>(sF (σ.t x) n).isSome&&v7 (aH σ a) (aH σ b)&&oi.apart ops oj
   |_,_,_=>false)
  |_,_,_,_=>false)
 |_,_=>false
def lU{X:Type}(P:Program)(N:Nat)(Φ:fo)(ops:Array Oper):Nat->Nat->S->(S->ak X)->ak X
 | 0,L,σ,k=>(match (List.range ops.size).filter (nE ops L)with
  |[]=>k σ
  |_=>none)
 | f+1,L,σ,k=>(match (List.range ops.size).filter (nE ops L)with
  |[]=>k σ
  | [i]=>(match ops[i]? with
   |some o=>dN P N Φ ops σ o λaA=>pI aA o.dst (HK ops i) λtJ=>lU P N Φ ops f (L |||2 ^ i) tJ k
   |none=>none)
  | rs=>(match rs.find? (abo Φ ops L σ)with
   | some i=>(match ops[i]? with
    |some o=>Ah P N Φ ops L i σ o λaA=>pI aA o.dst (HK ops i) λtJ=>lU P N Φ ops f (L |||2 ^ i) tJ k
    |none=>none)
   | none=>(match rs.find? (abp Φ ops L σ)with
    | some i=>(match ops[i]? with
     |some o=>dN P N Φ ops σ o λaA=>pI aA o.dst (HK ops i) λtJ=>lU P N Φ ops f (L |||2 ^ i) tJ k
     |none=>none)
    | none=>(match rs.find? (Um ops L σ)with
     | some i=>(match ops[i]? with
      |some o=>dN P N Φ ops σ o λaA=>pI aA o.dst (HK ops i) λtJ=>lU P N Φ ops f (L |||2 ^ i) tJ k
      |none=>none)
     |none=>none))))
/-! A new slice of constants may come first,beside values and calls of contents. -/
structure tL where
 run:(X:Type)->S->(Exit->S->Option X)->Option X
abbrev oQ:=Nat->ak tL
def iI{X:Type}(P:Program)(N:Nat)(Φ:fo)(Λ:oQ):Code->S->(Exit->S->ak X)->ak X
 |.skip,σ,k=>k .normal σ
 |.label _,σ,k=>k .normal σ
 |.ret,σ,k=>k .ret σ
 |.exit id,σ,k=>k (.exit id) σ
 |.region _ ops false,σ,k=>v9 P N Φ ops 0 ops.toList σ λaA=>k .normal aA
 |.region _ ops true,σ,k=>bif P.follows .mixedOrders then lU P N Φ ops ops.size 0 σ λaA=>k .normal aA else none
 | .seq x y,σ,k=>iI P N Φ Λ x σ λe aA=>match e with
  |.normal=>iI P N Φ Λ y aA k
  |e=>k e aA
 | .cond c x y,σ,k=>match aH σ c with
  |.lf (.v (.bool b))=>bif b then iI P N Φ Λ x σ k else iI P N Φ Λ y σ k
  |_=>none
 | .block id c,σ,k=>match Λ id with
  |some b=>b.run X σ k
  | none=>iI P N Φ Λ c σ λe aA=>match e with
   |.exit sG=>if sG=id then k .normal aA else k (.exit sG) aA
   |e=>k e aA
 |_,_,_=>none
def AW(P:Program)(w0:Wd)(N:Nat)(c:Code)(σ:S)(K:Exit->S->Prop):Prop:=
 ∀a w,R w0 N σ a w->c.wp P (λe a' w'=>∃aA,K e aA/\R w0 N aA a' w') a w
def occs:Code->af (Nat×Code)
 |.seq x y=>occs x++occs y
 |.cond _ x y=>occs x++occs y
 |.block id c=>(id,c)::occs c
 |_=>[]
def Ca(P:Program)(N:Nat)(c:Code)(b:tL):Prop:=∀(X:Type) σ k (r:X) w0,b.run X σ k=some r->AW P w0 N c σ λe aA=>k e aA=some r
def rz(P:Program)(N:Nat)(Λ:oQ)(l:af (Nat×Code)):Prop:=∀p∈l,∀b,Λ p.1=some b->Ca P N (.block p.1 p.2) b
section
variable {P:Program} {w w':World} {w0:Wd} {B N:Nat} {aj aD:bM} {ρ ρ':Nat->Loc} {σ:S} {a:Act} {X:Type} {d:Nat} {r:X} {o:Oper} {Φ:fo} {Λ:oQ}
theorem oz.mem{aA:S}(hd:o.dst=some d)(h:∀ aj ρ a w,Rl w0 N aj ρ σ a w->∃ w' aD ρ' v,(execOp a.eval o).run P w = .ok (.value v) w'/\Rl w0 N aD ρ' aA (a.put (some d) v) w'):oz P w0 N o σ aA:=by
 intro a w K Q hR hK;obtain⟨aj,ρ,hR⟩:=hR;obtain⟨w',aD,ρ',v,bE,aV⟩:=h aj ρ a w hR;unfold Oper.wp;rw[bE,Oper.upon_value,hd];exact hK _ _ ⟨aD,ρ',aV⟩
theorem jl{k:Nat->ak X}(h:fM o k=some r):∃ d,o.dst=some d/\k d=some r:=by
 unfold fM at h;split at h
 next d hd=>exact⟨d,hd,h⟩
 ·cases h
theorem oR{s:Sem Value}{v:Value}(h:s.run P w = .ok v w'):(do pure (.value (<-s)):Sem Next).run P w = .ok (.value v) w':=by
 rw[gk,h];rfl
theorem HP{op:Op}{k:A->ak X}(h:gy P σ op k=some r):∃ v,k v=some r/\cR (λX k=>gy (X:=X) P σ op k) v/\∀ aj ρ a w (o:Oper),o.op=op->Rl w0 N aj ρ σ a w->∃ u,(execOp a.eval o).run P w = .ok (.value u) w/\RA w w0.heap.size aj ρ v u:=by
 unfold gy at h;split at h
 next x=>exact⟨_,h,λX k=>rfl,λaj ρ a w o ho hR=>⟨a.eval x,by simp[execOp,ho],hR.aH x⟩⟩
 next x=>exact⟨_,h,λX k=>rfl,λaj ρ a w o ho hR=>⟨a.eval x,by simp[execOp,ho],hR.aH x⟩⟩
 ·rename_i c x y;split at h
  ·rename_i b hb
   refine⟨bif b then aH σ x else aH σ y,by cases b<;>exact h,λX k=>by simp only[gy,hb];cases b<;>rfl,λaj ρ a w o ho hR=>?_⟩
   have hc:=hR.aH c;rw[hb]at hc;have hv:=hc.2.zq;cases b with
   |true=>exact⟨a.eval x,by simp[execOp,ho,hv,asBool],hR.aH x⟩
   |false=>exact⟨a.eval y,by simp[execOp,ho,hv,asBool],hR.aH y⟩
  ·cases h
 ·rename_i t parts;obtain⟨y,h1,hd⟩:=alT h;obtain⟨y',eo,hs⟩:=akL (w0:=w0) (N:=N) (k:=λz=>some z) (r:=y) (hd.at_ _);injection eo with eo;subst eo
  refine⟨_,h1,λX k=>hd.at_ _,λaj ρ a w o ho hR=>?_⟩
  obtain⟨v,bE,aV⟩:=hs aj ρ a w hR;exact⟨v,by simp only[execOp,ho];exact oR bE,aV⟩
 ·rename_i t x;obtain⟨y,h1,hd⟩:=M0 h;obtain⟨y',eo,hs⟩:=Z8 (w0:=w0) (N:=N) (k:=λz=>some z) (r:=y) (hd.at_ _);injection eo with eo;subst eo
  refine⟨_,h1,λX k=>hd.at_ _,λaj ρ a w o ho hR=>?_⟩
  obtain⟨v,bE,aV⟩:=hs aj ρ a w hR _ (hR.aH x);exact⟨v,by simp only[execOp,ho];exact oR bE,aV⟩
 ·rename_i op t x y yt;obtain⟨z,h1,hd⟩:=alN h;obtain⟨z',eo,hs⟩:=akX (w0:=w0) (N:=N) (k:=λz=>some z) (r:=z) (hd.at_ _);injection eo with eo;subst eo
  refine⟨_,h1,λX k=>hd.at_ _,λaj ρ a w o ho hR=>?_⟩
  obtain⟨t',bE,hr⟩:=hs aj ρ a w hR x y _ _ (hR.aH x) (hR.aH y);exact⟨t',by simp only[execOp,ho];exact oR bE,hr⟩
 ·rename_i op t x;obtain⟨u,h1,BB⟩:=T5 h;obtain⟨z,h3,En⟩:=alO h1;obtain⟨u',hx,eo⟩:=Ml (k:=λz=>some z) (r:=u) (BB.at_ _);injection eo with eo;subst eo;obtain⟨z',BE,hp,hs⟩:=ako (P:=P) (k:=λz=>some z) (r:=z) (En.at_ _);injection BE with BE;subst BE
  refine⟨_,h3,λX k=>(BB.at_ _).trans (En.at_ _),λaj ρ a w o ho hR=>?_⟩
  have h1:=hR.aH x;rw[hx]at h1;obtain⟨t',bE,hr⟩:=hs w _ aj [] _ h1.2;exact⟨t',by simp only[execOp,ho];exact oR bE,V.GM hp,hr⟩
 ·rename_i s d' x;obtain⟨y,h1,hd⟩:=alX h;obtain⟨y',eo,hs⟩:=akT (w0:=w0) (N:=N) (k:=λz=>some z) (r:=y) (hd.at_ _);injection eo with eo;subst eo
  refine⟨_,h1,λX k=>hd.at_ _,λaj ρ a w o ho hR=>?_⟩
  obtain⟨v,bE,aV⟩:=hs aj ρ a w hR _ (hR.aH x);exact⟨v,by simp only[execOp,ho];exact oR bE,aV⟩
 ·rename_i s x f;obtain⟨y,h1,hd⟩:=alP h;obtain⟨y',eo,hs⟩:=akr (k:=λz=>some z) (r:=y) (hd.at_ _);injection eo with eo;subst eo
  refine⟨_,h1,λX k=>hd.at_ _,λaj ρ a w o ho hR=>?_⟩
  obtain⟨v,bE,aV⟩:=hs w _ aj ρ _ (hR.aH x);exact⟨v,by simp only[execOp,ho];exact oR bE,aV⟩
 ·rename_i s x f;obtain⟨y,h1,hd⟩:=alU h;obtain⟨y',eo,hs⟩:=akU (k:=λz=>some z) (r:=y) (hd.at_ _);injection eo with eo;subst eo
  refine⟨_,h1,λX k=>hd.at_ _,λaj ρ a w o ho hR=>?_⟩
  obtain⟨v,bE,aV⟩:=hs w _ aj ρ _ (hR.aH x);exact⟨v,by simp only[execOp,ho];exact oR bE,aV⟩
 ·rename_i t x i;obtain⟨y,h1,hd⟩:=alQ h;obtain⟨y',eo,hs⟩:=aks (w0:=w0) (N:=N) (k:=λz=>some z) (r:=y) (hd.at_ _);injection eo with eo;subst eo
  refine⟨_,h1,λX k=>hd.at_ _,λaj ρ a w o ho hR=>?_⟩
  obtain⟨v,bE,aV⟩:=hs aj ρ a w hR _ _ (hR.aH x) (hR.aH i);exact⟨v,by simp only[execOp,ho];exact oR bE,aV⟩
 ·rename_i t x i;obtain⟨y,h1,hd⟩:=alV h;obtain⟨y',eo,hs⟩:=akS (k:=λz=>some z) (r:=y) (hd.at_ _);injection eo with eo;subst eo
  refine⟨_,h1,λX k=>hd.at_ _,λaj ρ a w o ho hR=>?_⟩
  obtain⟨v,bE,aV⟩:=hs w _ aj ρ _ _ (hR.aH x) (hR.aH i);exact⟨v,by simp only[execOp,ho];exact oR bE,aV⟩
 ·rename_i x i;obtain⟨y,h1,hd⟩:=alS h;obtain⟨y',eo,hs⟩:=aku (P:=P) (k:=λz=>some z) (r:=y) (hd.at_ _);injection eo with eo;subst eo
  refine⟨_,h1,λX k=>hd.at_ _,λaj ρ a w o ho hR=>?_⟩
  obtain⟨v,bE,aV⟩:=hs w _ aj ρ _ (hR.aH x);exact⟨v,by simp only[execOp,ho];exact oR bE,aV⟩
 ·rename_i x;obtain⟨h1,hd,hs⟩:=abd (w:=default) (B:=0) (aj:=λ_=>none) (ρ:=λ_=>.eK undef) h
  refine⟨_,h1,λX k=>hd.at_ _,λaj ρ a w o ho hR=>?_⟩
  obtain⟨_,_,hs⟩:=abd (w:=w) (B:=w0.heap.size) (aj:=aj) (ρ:=ρ) h;obtain⟨ad,hu⟩:=hs _ (hR.aH x);refine⟨a.eval x,?_,hR.aH x⟩;simp only[execOp,ho,hu];rfl
 ·rename_i x t;obtain⟨y,h1,hd⟩:=alR h
  refine⟨_,h1,λX k=>hd.at_ _,λaj ρ a w o ho hR=>?_⟩
  obtain⟨y',eo,hs⟩:=akt (w0:=w0) (N:=N) (ty:=o.type) (k:=λz=>some z) (r:=y) (hd.at_ _);injection eo with eo;subst eo;obtain⟨v,bE,aV⟩:=hs aj ρ a w hR _ (hR.aH x);exact⟨v,by simp only[execOp,ho,resolve,gk,Sem.run_pure,oZ,invoke,builtin,List.map_toArray,lK,List.map_nil];rw[bE];rfl,aV⟩
 ·rename_i x y t t';obtain⟨z,h1,hd⟩:=aa6 h;obtain⟨z',eo,hs⟩:=aas (P:=P) (k:=λz=>some z) (r:=z) (hd.at_ _);injection eo with eo;subst eo
  refine⟨_,h1,λX k=>hd.at_ _,λaj ρ a w o ho hR=>?_⟩
  obtain⟨v,bE,aV⟩:=hs w _ aj ρ t o.type _ _ (hR.aH x) (hR.aH y);refine⟨v,?_,aV⟩;simp only[execOp,ho,resolve,gk,Sem.run_pure,oZ,invoke,builtin,List.map_toArray,lK,List.map_nil];have bE:(Builtin.max_ #[t,t'] o.type #[a.eval x,a.eval y]).run P w = .ok v w:=bE;rw[bE];rfl
 ·rename_i x y t t';obtain⟨z,h1,hd⟩:=aa6 h;obtain⟨z',eo,hs⟩:=aas (P:=P) (k:=λz=>some z) (r:=z) (hd.at_ _);injection eo with eo;subst eo
  refine⟨_,h1,λX k=>hd.at_ _,λaj ρ a w o ho hR=>?_⟩
  obtain⟨v,bE,aV⟩:=hs w _ aj ρ t o.type _ _ (hR.aH x) (hR.aH y);refine⟨v,?_,aV⟩;simp only[execOp,ho,resolve,gk,Sem.run_pure,oZ,invoke,builtin,List.map_toArray,lK,List.map_nil];have bE:(Builtin.min_ #[t,t'] o.type #[a.eval x,a.eval y]).run P w = .ok v w:=bE;rw[bE];rfl
 ·rename_i t x lo hi;obtain⟨y,h1,hd⟩:=alY h;obtain⟨y',eo,hs⟩:=ak0 (w0:=w0) (N:=N) (k:=λz=>some z) (r:=y) (hd.at_ _);injection eo with eo;subst eo
  refine⟨_,h1,λX k=>hd.at_ _,λaj ρ a w o ho hR=>?_⟩
  have ob:∀ z:ak Operand,(∀ b,z.map (aH σ)=some b->∃ v,z.map a.eval=some v/\RA w w0.heap.size aj ρ b v)/\(z.map (aH σ)=none->z.map a.eval=none):=by
   intro z;cases z with
   |none=>exact⟨λb hb=>(by cases hb),λ_=>rfl⟩
   |some z=>exact⟨λb hb=>(by cases hb;exact⟨_,rfl,hR.aH z⟩),λhb=>(by cases hb)⟩
  obtain⟨v,bE,hr⟩:=hs aj ρ a w hR _ _ _ (hR.aH x) (ob lo).1 (ob lo).2 (ob hi).1 (ob hi).2;exact⟨v,by simp only[execOp,ho];exact oR bE,hr⟩
 ·cases h
theorem amz{k:S->ak X}(cy:ir P Φ)(h:ju P N Φ σ o k=some r):∃ aA,k aA=some r/\oz P w0 N o σ aA:=by
 unfold ju at h;split at h
 ·rename_i e ho;obtain⟨d,hd,h⟩:=jl h;obtain⟨aA,h,hs⟩:=akC (w0:=w0) h
  refine⟨aA,h,.mem hd λaj ρ a w hR=>?_⟩
  obtain⟨w',aD,ρ',v,bE,aV⟩:=hs aj ρ a w hR;exact⟨w',aD,ρ',v,by simp only[execOp,ho];exact oR bE,aV⟩
 ·rename_i e x ho;obtain⟨d,hd,h⟩:=jl h;obtain⟨aA,h,hs⟩:=al3 (w0:=w0) (e:=e) h
  refine⟨aA,h,.mem hd λaj ρ a w hR=>?_⟩
  obtain⟨w',aD,ρ',v,bE,aV⟩:=hs aj ρ a w hR _ (hR.aH x);exact⟨w',aD,ρ',v,by simp only[execOp,ho];exact oR bE,aV⟩
 ·rename_i t len parts ho;obtain⟨d,hd,h⟩:=jl h;cases hn:pH t with
  | true=>
   rw[hn,aq]at h;obtain⟨aA,h,hs⟩:=al4 (w0:=w0) h
   refine⟨aA,h,.mem hd λaj ρ a w hR=>?_⟩
   obtain⟨w',aD,ρ',v,bE,aV⟩:=hs aj ρ a w hR;exact⟨w',aD,ρ',v,by simp only[execOp,ho];exact oR bE,aV⟩
  | false=>
   rw[hn,au]at h;obtain⟨aA,h,hs⟩:=akQ (w0:=w0) h
   refine⟨aA,h,.mem hd λaj ρ a w hR=>?_⟩
   obtain⟨w',aD,ρ',v,bE,aV⟩:=hs aj ρ a w hR;exact⟨w',aD,ρ',v,by simp only[execOp,ho];exact oR bE,aV⟩
 ·rename_i t x y ho;split at h
  ·rename_i hd;cases hn:v7 (aH σ x) (aH σ y)with
   | true=>
    rw[hn,aq]at h;obtain⟨aA,h,hs⟩:=ama (w0:=w0) (N:=N) h
    refine⟨aA,h,λa w K Q hR hK=>?_⟩
    obtain⟨aj,ρ,hR⟩:=hR;obtain⟨w',aD,bE,aV⟩:=hs aj ρ a w hR _ _ (hR.aH x) (hR.aH y);have:(execOp a.eval o).run P w = .ok .skip w':=by
     simp only[execOp,ho];rw[gk,bE];rfl
    unfold Oper.wp;rw[this,Oper.upon_skip,hd];exact hK _ _ ⟨aD,ρ,aV⟩
   | false=>
    rw[hn,au]at h;obtain⟨aA,h,hs⟩:=aaa (w0:=w0) (N:=N) h
    refine⟨aA,h,λa w K Q hR hK=>?_⟩
    obtain⟨aj,ρ,hR⟩:=hR;obtain⟨w',bE,aV⟩:=hs aj ρ a w hR _ _ (hR.aH x) (hR.aH y);have:(execOp a.eval o).run P w = .ok .skip w':=by
     simp only[execOp,ho];rw[gk,bE];rfl
    unfold Oper.wp;rw[this,Oper.upon_skip,hd];exact hK _ _ ⟨aj,ρ,aV⟩
  ·cases h
 ·rename_i t l c ho;obtain⟨d,hd,h⟩:=jl h;obtain⟨aA,h,hs⟩:=akD (w0:=w0) h
  refine⟨aA,h,.mem hd λaj ρ a w hR=>?_⟩
  obtain⟨w',aD,ρ',v,bE,aV⟩:=hs aj ρ a w hR _ _ (hR.aH l) (hR.aH c);exact⟨w',aD,ρ',v,by simp only[execOp,ho];exact oR bE,aV⟩
 ·rename_i f args gf ho;split at h
  next c hc=>obtain⟨d,hd,h⟩:=jl h;obtain⟨he,eH⟩:=cy f _ hc;exact ak4 ho hd he eH h
  next c hc=>obtain⟨he,eH⟩:=cy f _ hc;exact alr ho he eH h
  next c hc=>obtain⟨d,hd,h⟩:=jl h;obtain⟨he,eH⟩:=cy f _ hc;exact amf ho hd he eH h
  ·cases h
  next c hc=>obtain⟨he,eH⟩:=cy f _ hc;exact abj (ex:=[]) ho rfl he eH h
  next c hc=>obtain⟨he,eH⟩:=cy f _ hc;exact aly ho he eH h
  next c hc=>obtain⟨d,hd,h⟩:=jl h;obtain⟨he,eH⟩:=cy f _ hc;exact ak5 ho hd he eH h
  next c hc=>obtain⟨he,eH⟩:=cy f _ hc;exact amm ho he eH h
  ·cases h
 ·rename_i x y t t' ho;cases gw:Nat.beq t t' with
  |false=>rw[gw]at h;cases h
  | true=>
   rw[gw,aq]at h;obtain rfl:=cr gw;obtain⟨d,hd,h⟩:=jl h;have hh:∃ aA,k aA=some r/\∀ aj ρ a w,Rl w0 N aj ρ σ a w->∀ u v,RA w w0.heap.size aj ρ (aH σ x) u->RA w w0.heap.size aj ρ (aH σ y) v->
     ∃w' aD ρ' z,(Builtin.append_ #[t,t] o.type #[u,v]).run P w = .ok z w'/\Rl w0 N aD ρ' aA (a.put (some d) z) w':=by
    cases hn:pH t with
    |true=>rw[hn,aq]at h;exact al8 h
    | false=>
     rw[hn,au]at h;cases hk:HI t d x with
     |true=>rw[hk,aq]at h;exact amw h
     |false=>rw[hk,au]at h;exact akE h
   obtain⟨aA,h,hs⟩:=hh
   refine⟨aA,h,.mem hd λaj ρ a w hR=>?_⟩
   obtain⟨w',aD,ρ',v,bE,aV⟩:=hs aj ρ a w hR _ _ (hR.aH x) (hR.aH y);refine⟨w',aD,ρ',v,?_,aV⟩;simp only[execOp,ho,resolve,gk,Sem.run_pure,oZ,invoke,builtin,List.map_toArray,lK,List.map_nil];rw[bE];rfl
 ·rename_i t args gf ho;split at h
  ·rename_i f cap eC;split at h
   next c hc=>obtain⟨he,eH⟩:=cy f _ hc;exact abj ho eC he eH h
   ·cases h
  ·cases h
 ·rename_i f HJ ho;split at h
  ·rename_i ps iQ;obtain⟨h1,h2⟩:=abk (w0:=w0) (N:=N) _ _ iQ
   refine oz.val h λaj ρ a w hR=>⟨.func (.func f) #[] (HJ.map a.eval),by simp[execOp,ho,Instr.makeFunc],_,rfl,by simp[h1],λj p hp=>?_⟩
   obtain⟨b,off,e1,e2⟩:=h2 aj ρ a w hR j p hp;exact⟨b,off,e1,by simpa using e2⟩
  ·cases h
 ·rename_i x t ho;obtain⟨mW,h1,hs⟩:=akH (w0:=w0) (N:=N) (ty:=o.type) h;have run:∀ aj ρ a w,Rl w0 N aj ρ σ a w->∃ w',(execOp a.eval o).run P w = .ok (.value (.tuple #[])) w'/\Rl w0 N aj ρ mW a w':=by
   intro aj ρ a w hR;obtain⟨w',bE,aV⟩:=hs aj ρ a w hR _ (hR.aH x);refine⟨w',?_,aV⟩;simp only[execOp,ho,resolve,gk,Sem.run_pure,oZ,invoke,builtin,List.map_toArray,lK,List.map_nil];rw[bE];rfl
  unfold jD at h1;split at h1
  ·rename_i hd
   refine⟨_,h1,λa w K Q hR hK=>?_⟩
   obtain⟨aj,ρ,hR⟩:=hR;obtain⟨w',bE,aV⟩:=run aj ρ a w hR;unfold Oper.wp;rw[bE,Oper.upon_value,hd];exact hK _ _ ⟨aj,ρ,aV⟩
  ·rename_i d hd;cases hN:Nat.blt d N with
   |false=>rw[hN]at h1;cases h1
   | true=>
    rw[hN,aq]at h1
    refine⟨_,h1,.mem hd λaj ρ a w hR=>?_⟩
    obtain⟨w',bE,aV⟩:=run aj ρ a w hR;exact⟨w',aj,ρ,_,bE,aV.set trivial (by have:=cT hN;omega)⟩
 ·cases h
theorem Un{k:S->ak X}(cy:ir P Φ)(h:dU P N Φ σ o k=some r):∃ aA,k aA=some r/\oz P w0 N o σ aA:=by
 unfold dU at h;cases hv:gF o.op with
 | true=>
  rw[hv,aq]at h;obtain⟨v,h1,_,hs⟩:=HP (w0:=w0) (N:=N) h;exact oz.val h1 λaj ρ a w hR=>hs aj ρ a w o rfl hR
 | false=>
  rw[hv,au]at h;exact amz cy h
theorem amA{k:S->ak X}(cy:ir P Φ)(h:oO P N Φ σ o k=some r):∃ aA,k aA=some r/\oz P w0 N o σ aA:=by
 unfold oO at h;split at h
 ·rename_i t x y ho hd;split at h
  ·rename_i q s i j hy;obtain⟨aA,h1,hs⟩:=amp (w0:=w0) (N:=N) h
   refine⟨aA,h1,λa w K Q hR hK=>?_⟩
   obtain⟨aj,ρ,hR⟩:=hR;have hv:=hR.aH y;rw[hy]at hv;obtain⟨w',aD,bE,aV⟩:=hs aj ρ a w hR _ _ (hR.aH x) hv;have:(execOp a.eval o).run P w = .ok .skip w':=by
    simp only[execOp,ho];rw[gk,bE];rfl
   unfold Oper.wp;rw[this,Oper.upon_skip,hd];exact hK _ _ ⟨aD,ρ,aV⟩
  ·exact Un cy h
 ·rename_i t x lo hi mx d ho hd;obtain⟨h1,hs⟩:=amr (w0:=w0) (N:=N) h;cases hN:Nat.blt d N with
  |false=>rw[hN]at h1;cases h1
  | true=>
   rw[hN,aq]at h1
   refine⟨_,h1,.mem hd λaj ρ a w hR=>?_⟩
   obtain⟨v,bE⟩:=hs aj ρ a w hR _ _ _ _ (hR.aH x) (hR.aH lo) (hR.aH hi) (hR.aH mx);refine⟨w,aj,ρ,v,?_,hR.set trivial (by have:=cT hN;omega)⟩;simp only[execOp,ho,jM];exact oR bE
 ·exact Un cy h
end
end Go.Proofs.YtecofnkoloihpaaGreat
namespace Go.Proofs.YtecofnkoloihpaaGreat
open Go.RowKit
set_option linter.unusedVariables false
section
variable {P:Program} {w w':World} {w0:Wd} {B N:Nat} {aj aD:bM} {ρ ρ':Nat->Loc} {σ:S} {a:Act} {X:Type} {d:Nat} {r:X} {o:Oper} {Φ:fo}
/-! What an operation gives hangs on its operands and on the roots alone. -/
theorem HQ{σ2:S}(hm:σ2.m=σ.m)(x:Lf)(k:V->ak X):kK σ2 x k=kK σ x k:=by
 cases x<;>simp only[kK,hm]
theorem amB{σ2:S}(hm:σ2.m=σ.m)(t:TypeId)(x:A)(k:A->ak X):mq P σ2 t x k=mq P σ t x k:=by
 simp only[mq,hm]
theorem amC{σ2:S}(hm:σ2.m=σ.m)(t:TypeId)(x i:A)(k:A->ak X):qZ P σ2 t x i k=qZ P σ t x i k:=by
 simp only[qZ,hm]
theorem abq{σ2:S}(hm:σ2.m=σ.m)(q:af Nat)(s i j:Nat)(k:V->ak X):tj σ2 q s i j k=tj σ q s i j k:=by
 simp only[tj,hm]
theorem amD{σ2:S}(hm:σ2.m=σ.m)(x:A)(k:V->ak X):qX σ2 x k=qX σ x k:=by
 cases x<;>simp only[qX,HQ hm,abq hm]
theorem amE{σ2:S}(hm:σ2.m=σ.m)(t:TypeId)(x:A)(lo hi:ak A)(k:A->ak X):tA P σ2 t x lo hi k=tA P σ t x lo hi k:=by
 unfold tA;split
 ·simp only[rj,hm]
 ·simp only[rj,hm]
 ·rfl
theorem amF{σ2:S}(hm:σ2.m=σ.m)(t t':TypeId)(x:A)(k:A->ak X):qg P σ2 t t' x k=qg P σ t t' x k:=by
 unfold qg;split<;>simp only[HQ hm]
theorem amG{σ2:S}(hm:σ2.m=σ.m)(t:TypeId)(x:A)(k:A->ak X):p9 P σ2 t x k=p9 P σ t x k:=by
 cases x<;>simp only[p9,HQ hm]
theorem amH{σ2:S}(hm:σ2.m=σ.m)(op:BinOp)(t:TypeId)(x y:A)(k:A->ak X):nX P σ2 op t x y k=nX P σ op t x y k:=by
 simp only[nX,HQ hm]
theorem abr{σ2:S}{op:BinOp}{t:TypeId}{x y:A}{k:A->ak X}(h:∀ l,x = .lf l->∀ (k:V->ak X),kK σ2 l k=kK σ l k):nX P σ2 op t x y k=nX P σ op t x y k:=by
 unfold nX;split
 ·rfl
 ·split
  ·exact h _ rfl _
  ·rfl
 ·rfl
theorem amI{σ2:S}(t:TypeId)(parts:af (Nat×Operand))(h:∀ p∈parts,aH σ2 p.2=aH σ p.2)(k:A->ak X):vS P σ2 t parts k=vS P σ t parts k:=by
 have e:(parts.map λp=>(p.1,aH σ2 p.2))=parts.map λp=>(p.1,aH σ p.2):=mK λp hp=>by rw[h p hp]
 simp only[vS,e]
theorem Uo{σ2:S}(hm:σ2.m=σ.m):∀ (xs:af Lf) (k:af V->ak X),oF σ2 xs k=oF σ xs k
 |[],k=>rfl
 | x :: xs,k=>by
  simp only[oF,HQ hm];congr 1;funext y;exact Uo hm xs _
theorem abt{σ2:S}(hm:σ2.m=σ.m)(x:A)(k:Pt->ak X):nZ σ2 x k=nZ σ x k:=by
 unfold nZ;simp only[Uo hm,abq hm,hm]
theorem abu{σ2:S}(hm:σ2.m=σ.m):∀ (xs:af Operand) (k:af Pt->ak X),(∀ x∈xs,aH σ2 x=aH σ x)->mz σ2 xs k=mz σ xs k
 |[],k,_=>rfl
 | x :: xs,k,h=>by
  simp only[mz,abt hm,h x (.head _)];congr 1;funext p;exact abu hm xs _ (λy hy=>h y (.tail _ hy))
theorem amJ{σ2:S}(hm:σ2.m=σ.m)(x:A)(k:Pt->ak X):tC σ2 x k=tC σ x k:=by
 unfold tC;simp only[abt hm,Uo hm,hm]
theorem abv{σ2:S}(hm:σ2.m=σ.m):∀ (xs:af Operand) (k:af Pt->ak X),(∀ x∈xs,aH σ2 x=aH σ x)->oG σ2 xs k=oG σ xs k
 |[],k,_=>rfl
 | x :: xs,k,h=>by
  simp only[oG,amJ hm,h x (.head _)];congr 1;funext p;exact abv hm xs _ (λy hy=>h y (.tail _ hy))
theorem Nc{σ2:S}(op:Op)(hm:σ2.m=σ.m)(h:∀ x∈op.operands,aH σ2 x=aH σ x)(k:A->ak X):gy P σ2 op k=gy P σ op k:=by
 unfold gy;split
 ·rw[h _ (by simp[Op.operands])]
 ·rw[h _ (by simp[Op.operands])]
 next c x y=>rw[h c (by simp[Op.operands]),h x (by simp[Op.operands]),h y (by simp[Op.operands])]
 next t parts=>exact amI t _ (λp hp=>h p.2 (by simp only[Op.operands];exact List.mem_toArray.2 (List.mem_map_of_mem (f:=(·.2)) hp))) k
 next t x=>rw[h x (by simp[Op.operands]),amB hm]
 next op t x y yt=>rw[h x (by simp[Op.operands]),h y (by simp[Op.operands]),amH hm]
 next op t x=>rw[h x (by simp[Op.operands])]
 next s d x=>rw[h x (by simp[Op.operands]),amF hm]
 next s x f=>rw[h x (by simp[Op.operands])]
 next s x f=>rw[h x (by simp[Op.operands])]
 next t x i=>rw[h x (by simp[Op.operands]),h i (by simp[Op.operands]),amC hm]
 next t x i=>rw[h x (by simp[Op.operands]),h i (by simp[Op.operands])]
 next x i=>rw[h x (by simp[Op.operands])]
 next x=>rw[h x (by simp[Op.operands])]
 next x t=>rw[h x (by simp[Op.operands,Call.operands]),amG hm]
 next x y t t'=>rw[h x (by simp[Op.operands,Call.operands]),h y (by simp[Op.operands,Call.operands])]
 next x y t t'=>rw[h x (by simp[Op.operands,Call.operands]),h y (by simp[Op.operands,Call.operands])]
 ·rename_i t x lo hi;have e:∀ z:ak Operand,(∀ y,z=some y->aH σ2 y=aH σ y)->z.map (aH σ2)=z.map (aH σ):=by
   intro z hz;cases z with
   |none=>rfl
   |some z=>exact bJ some (hz z rfl)
  rw[h x (by simp[Op.operands]),e lo (λy hy=>h y (by subst hy;simp[Op.operands])),e hi (λy hy=>h y (by subst hy;simp[Op.operands])),amE hm]
 ·rfl
/-! .. and a root that it does not name is of no account. -/
def Nd(n:Nat)(x:bg)(m:Nat->ak bg):Nat->ak bg:=cB (λr=>bif Nat.beq r n then none else (m r).map (bg.drop n)) n (some x)
theorem abw{n:Nat}{x:bg}{m:Nat->ak bg}{q:Nat}(h:q≠n):Nd n x m q=(m q).map (bg.drop n):=by
 have hb:Nat.beq q n=false:=by
  cases hb:Nat.beq q n with
  |false=>rfl
  |true=>exact absurd (cr hb) h
 unfold Nd;rw[cV _ _ _ h,hb];rfl
theorem xQ{n:Nat}{x:bg}{m:Nat->ak bg}:∀ (q:af Nat) (k:V->ak X),bP n q=false->gR (Nd n x m) q k=gR m q k
 |[],_,_=>rfl
 | [y],k,h=>by
  have hy:y≠n:=by rintro rfl;simp[bP]at h
  simp only[gR,abw hy];cases m y with
  |none=>rfl
  |some z=>cases z<;>rfl
 |[_,_],_,_=>rfl
 |[j,i,s],k,h=>rfl
 | j :: i :: s :: q0 :: q,k,h=>by
  have h':bP n (q0::q)=false:=by simpa [bP]using h
  simp only[gR];exact xQ (q0::q) _ h'
theorem amK{n:Nat}{t:TypeId}{cs:af Lf}{y:A}(h:cR (λX k=>p7 (X:=X) P t cs k) y):cR (λX k=>p7 (X:=X) P t (cs.map (Lf.drop n)) k) (y.drop n):=by
 have h1:=h.at_ (X:=A) (λz=>some z);unfold p7 at h1;split at h1
 ·rename_i sz dO;split at h1
  ·rename_i hl;split at h1
   next hr=>injection h1 with h1;subst h1;intro X k;simp only[p7,dO,gB,bB hl,hr];rfl
   ·rename_i hr;split at h1
    next z=>injection h1 with h1;subst h1;intro X k;simp only[List.length_singleton]at hl;simp only[p7,dO,lK,List.map_nil,List.length_singleton,bB hl,hr];rfl
    ·cases h1
   ·cases h1
  ·cases h1
 ·cases h1
theorem A.wh{p pb:Nat->Bool}{x:A}{n:Nat}(h:x.nG p pb=true)(hn:p n=true)(hb:pb n=true):x.drop n=x:=by
 cases x with
 |lf x=>exact bJ A.lf (Lf.nD h hn)
 |agg cs=>exact bJ A.agg (qu.nD h hn)
 |cU xs=>exact A.nD (x:=.cU xs) (p:=p) h hn
 |ptr k=>exact A.nD (x:=.ptr k) (p:=p) h hn
 |view k s i j=>exact A.nD (x:=.view k s i j) (p:=p) h hn
 |pk r j=>exact A.nD (x:=.pk r j) (p:=pb) h hb
 |aK r j=>exact A.nD (x:=.aK r j) (p:=pb) h hb
 |fn f cap=>exact A.nD (x:=.fn f cap) (p:=pb) h hb
 |_=>rfl
theorem amL{p pb:Nat->Bool}{r j n:Nat}(h:(A.aK r j).nG p pb=true)(hn:pb n=true):r≠n:=by
 rintro rfl;have h:(!pb r)=true:=h;rw[hn]at h;cases h
theorem amM{p:Nat->Bool}{r j n:Nat}(h:(A.aK r j).nr p=true)(hn:p n=true):r≠n:=by
 rintro rfl;have h:(!p r)=true:=h;rw[hn]at h;cases h
theorem amN{p pb:Nat->Bool}{n:Nat}{x:bg}{op:Op}{v:A}(h:cR (λX k=>gy (X:=X) P σ op k) v)(hn:p n=true)(v5:pb n=true)(dc:∀ y∈op.operands,(aH σ y).nG p pb=true)(hv:v.nG p pb=true):
  cR (λX k=>gy (X:=X) P ((σ.drop n).root n x) op k) v:=by
 have ho:∀ y∈op.operands,aH ((σ.drop n).root n x) y=aH σ y:=by
  intro y hy;have:=A.wh (dc y hy) hn v5;cases y with
  |tmp t=>exact this
  |const v=>rfl
  |global g=>rfl
  |func f=>rfl
 have hm:((σ.drop n).root n x).m=Nd n x σ.m:=rfl;have hvd:=A.wh hv hn v5;have ja:∀ y∈op.operands,aH ⟨((σ.drop n).root n x).t,σ.m⟩ y=aH σ y:=by
  intro y hy;rw[<-ho y hy];cases y<;>rfl
 -- an operation that does not look at the roots
 have Up:(∀ (X:Type) (k:A->ak X),gy P ⟨((σ.drop n).root n x).t,σ.m⟩ op k=gy P ((σ.drop n).root n x) op k)->cR (λX k=>gy (X:=X) P ((σ.drop n).root n x) op k) v:=by
  intro he X k;exact(he X k).symm.trans ((Nc (σ:=σ) (σ2:=⟨((σ.drop n).root n x).t,σ.m⟩) op rfl ja k).trans (h.at_ k))
 have h0:=h.at_ (X:=A) (λz=>some z);unfold gy at h0;split at h0
 case h_5 t y=>
  intro X k;have hy:=dc y (by simp[Op.operands]);have lF:=ho y (by simp[Op.operands]);simp only[gy];rw[lF];generalize aH σ y=u at h0 hy;have hd:cR (λX k=>mq (X:=X) P σ t u k) v:=by
   obtain⟨y',h1,h2⟩:=M0 h0;injection h1 with h1;subst h1;exact h2
  unfold mq at h0 ⊢;split at h0
  ·cases h0
  ·rename_i sz dO;split at h0
   ·rename_i r' j;split at h0
    next cs eR=>obtain⟨y',h1,h2⟩:=B0 h0;injection h1 with h1;subst h1;have h3:=amK (n:=n) h2;rw[hvd]at h3;rw[hm,abw (amL hy v5),eR];simp only[jM,bg.drop];rw[<-List.map_drop,<-List.map_take];exact h3.at_ k
    ·cases h0
   ·obtain⟨y',h1,h2⟩:=B0 h0;injection h1 with h1;subst h1;exact h2.at_ k
   ·rename_i j i s q;have hq:bP n q=false:=by
     have hk:gx p (j::i::s::q)=true:=hy;have:=tH hk hn;cases q with
     | nil=>
      obtain⟨z,_,hg,_⟩:=uH _ _ h0;cases hg
     |cons q0 q=>simpa [bP]using this
    rw[hm,xQ q _ hq];have h3:=hd.at_ k;unfold mq at h3;rw[dO]at h3;exact h3
   ·cases h0
 case h_6 op t x y yt=>
  intro X k;have hx:=dc x (by simp[Op.operands]);have Uq:=ho x (by simp[Op.operands]);have lF:=ho y (by simp[Op.operands]);have h1:=h.at_ k;simp only[gy]at h1 ⊢;rw[Uq,lF,<-h1];generalize aH σ x=u at hx
  refine abr λl e k=>?_
  subst e;cases l with
  | own q=>
   have hk:gx p q=true:=hx;simp only[kK];rw[hm,xQ q _ (tH hk hn)]
  |v z=>rfl
  |dead=>rfl
 case h_11 t y i=>
  intro X k;have hy:=dc y (by simp[Op.operands]);have lF:=ho y (by simp[Op.operands]);have Ur:=ho i (by simp[Op.operands]);have h1:=h.at_ k;simp only[gy]at h1 ⊢;rw[lF,Ur,<-h1];generalize aH σ y=u at hy;unfold qZ;split
  ·rfl
  ·split
   ·split
    ·rfl
    next q=>have hk:gx p q=true:=hy;rw[hm,xQ q _ (tH hk hn)]
    ·rfl
   ·rfl
 case h_8 t t2 y=>
  intro X k;have hy:=dc y (by simp[Op.operands]);have lF:=ho y (by simp[Op.operands]);have h1:=h.at_ k;simp only[gy]at h1 ⊢;rw[lF,<-h1];generalize aH σ y=u at hy;unfold qg;split
  ·rfl
  ·rename_i z _;cases z with
   | own q=>
    have hk:gx p q=true:=hy;simp only[kK];rw[hm,xQ q _ (tH hk hn)]
   |v z=>rfl
   |dead=>rfl
  ·rfl
 case h_15 y t=>
  intro X k;have hy:=dc y (by simp[Op.operands,Call.operands]);have lF:=ho y (by simp[Op.operands,Call.operands]);have h1:=h.at_ k;simp only[gy]at h1 ⊢;rw[lF,<-h1];generalize aH σ y=u at hy;unfold p9;split
  ·rename_i z;cases z with
   | own q=>
    have hk:gx p q=true:=hy;simp only[kK];rw[hm,xQ q _ (tH hk hn)]
   |v z=>rfl
   |dead=>rfl
  ·rfl
  ·rfl
 case h_18 t y lo hi=>
  intro X k;have hy:=dc y (by simp[Op.operands]);have lF:=ho y (by simp[Op.operands]);have e:∀ z:ak Operand,(∀ y,z=some y->aH ((σ.drop n).root n x) y=aH σ y)->z.map (aH ((σ.drop n).root n x))=z.map (aH σ):=by
   intro z hz;cases z with
   |none=>rfl
   |some z=>exact bJ some (hz z rfl)
  have h1:=h.at_ k;simp only[gy]at h1 ⊢;rw[lF,e lo (λy hy=>ho y (by subst hy;simp[Op.operands])),e hi (λy hy=>ho y (by subst hy;simp[Op.operands])),<-h1];generalize aH σ y=u at hy;unfold tA;split
  ·rename_i q;have hk:gx p q=true:=hy;unfold rj;split
   ·split
    ·rw[hm,xQ q _ (tH hk hn)]
    ·rfl
   ·rfl
  ·rename_i q s j;have hk:gx p q=true:=hy;unfold rj;split
   ·split
    ·rw[hm,xQ q _ (tH hk hn)]
    ·rfl
   ·rfl
  ·rfl
 case h_19=>cases h0
 all_goals exact Up λX k=>rfl
/-! .. nor are roots that a call writes. -/
def Us(ns:af Nat)(nr:af (Nat×bg))(m:Nat->ak bg):Nat->ak bg:=λr=>match nr.lookup r with
 |some x=>some x
 |none=>bif cX r ns ||cX r []then none else (m r).map (bg.cL ns [])
structure abx (p:Nat->Bool) (ns:List Nat) (nr:List (Nat×bg)):Prop where
 ns:∀n,cX n ns=true->p n=true
 nr:∀n x,nr.lookup n=some x->p n=true
theorem amO{p:Nat->Bool}{ns:af Nat}{nr:af (Nat×bg)}{m:Nat->ak bg}(hb:abx p ns nr){q:Nat}(h:p q=false):Us ns nr m q=(m q).map (bg.cL ns []):=by
 unfold Us;cases h1:nr.lookup q with
 |some x=>rw[hb.nr q x h1]at h;cases h
 | none=>
  cases h2:cX q ns with
  |true=>rw[hb.ns q h2]at h;cases h
  |false=>rfl
theorem amP{p:Nat->Bool}{ns:af Nat}{nr:af (Nat×bg)}{m:Nat->ak bg}(hb:abx p ns nr):∀ (q:af Nat) (k:V->ak X),gx p q=true->gR (Us ns nr m) q k=gR m q k
 |[],_,_=>rfl
 | [y],k,h=>by
  have hy:p y=false:=by simpa [gx]using h
  simp only[gR,amO hb hy];cases m y with
  |none=>rfl
  |some z=>cases z<;>rfl
 |[_,_],_,_=>rfl
 |[j,i,s],k,h=>rfl
 | j :: i :: s :: q0 :: q,k,h=>by
  have h':gx p (q0::q)=true:=by simpa [gx,List.getLast?_cons_cons]using h
  simp only[gR];exact amP hb (q0::q) _ h'
/-! .. nor is a root that is written. -/
theorem Ai{p:Nat->Bool}{n:Nat}{x:bg}{m:Nat->ak bg}(hn:p n=true):∀ (q:af Nat) (k:V->ak X),gx p q=true->gR (cB m n (some x)) q k=gR m q k
 |[],_,_=>rfl
 | [y],k,h=>by
  have hy:p y=false:=by simpa [gx]using h
  simp only[gR];rw[cV _ _ _ (by rintro rfl;rw[hn]at hy;cases hy)]
 |[_,_],_,_=>rfl
 |[j,i,s],k,h=>rfl
 | j :: i :: s :: q0 :: q,k,h=>by
  have h':gx p (q0::q)=true:=by simpa [gx,List.getLast?_cons_cons]using h
  simp only[gR];exact Ai hn (q0::q) _ h'
theorem amQ{p pb:Nat->Bool}{n:Nat}{x:bg}{op:Op}{v:A}(h:cR (λX k=>gy (X:=X) P σ op k) v)(hn:p n=true)(dc:∀ y∈op.operands,(aH σ y).nG p pb=true)(hv:v.nG p pb=true)(zO:∀ t y r j,op = .load t y->aH σ y = .aK r j->p r=false):
  cR (λX k=>gy (X:=X) P (σ.root n x) op k) v:=by
 have ho:∀ y∈op.operands,aH (σ.root n x) y=aH σ y:=by
  intro y hy;cases y<;>rfl
 have hm:(σ.root n x).m=cB σ.m n (some x):=rfl;have ja:∀ y∈op.operands,aH ⟨(σ.root n x).t,σ.m⟩ y=aH σ y:=by
  intro y hy;rw[<-ho y hy];cases y<;>rfl
 have Up:(∀ (X:Type) (k:A->ak X),gy P ⟨(σ.root n x).t,σ.m⟩ op k=gy P (σ.root n x) op k)->cR (λX k=>gy (X:=X) P (σ.root n x) op k) v:=by
  intro he X k;exact(he X k).symm.trans ((Nc (σ:=σ) (σ2:=⟨(σ.root n x).t,σ.m⟩) op rfl ja k).trans (h.at_ k))
 have h0:=h.at_ (X:=A) (λz=>some z);unfold gy at h0;split at h0
 case h_5 t y=>
  intro X k;have hy:=dc y (by simp[Op.operands]);have lF:=ho y (by simp[Op.operands]);simp only[gy];rw[lF];have zO:=λr j e=>zO t y r j rfl e
  generalize aH σ y=u at h0 hy zO;have hd:cR (λX k=>mq (X:=X) P σ t u k) v:=by
   obtain⟨y',h1,h2⟩:=M0 h0;injection h1 with h1;subst h1;exact h2
  unfold mq at h0 ⊢;split at h0
  ·cases h0
  ·rename_i sz dO;split at h0
   ·rename_i r' j;split at h0
    next cs eR=>obtain⟨y',h1,h2⟩:=B0 h0;injection h1 with h1;subst h1;have hp:p r'=false:=zO r' _ rfl;rw[hm,cV _ _ _ (by rintro rfl;rw[hn]at hp;cases hp),eR];exact h2.at_ k
    ·cases h0
   ·obtain⟨y',h1,h2⟩:=B0 h0;injection h1 with h1;subst h1;exact h2.at_ k
   ·rename_i j i s q;have hq:gx p q=true:=by
     have hk:gx p (j::i::s::q)=true:=hy;cases q with
     | nil=>
      obtain⟨z,_,hg,_⟩:=uH _ _ h0;cases hg
     |cons q0 q=>simpa [gx,List.getLast?_cons_cons]using hk
    rw[hm,Ai hn q _ hq];have h3:=hd.at_ k;unfold mq at h3;rw[dO]at h3;exact h3
   ·cases h0
 case h_6 op t x y yt=>
  intro X k;have hx:=dc x (by simp[Op.operands]);have Uq:=ho x (by simp[Op.operands]);have lF:=ho y (by simp[Op.operands]);have h1:=h.at_ k;simp only[gy]at h1 ⊢;rw[Uq,lF,<-h1];generalize aH σ x=u at hx
  refine abr λl e k=>?_
  subst e;cases l with
  | own q=>
   have hk:gx p q=true:=hx;simp only[kK];rw[hm,Ai hn q _ hk]
  |v z=>rfl
  |dead=>rfl
 case h_11 t y i=>
  intro X k;have hy:=dc y (by simp[Op.operands]);have lF:=ho y (by simp[Op.operands]);have Ur:=ho i (by simp[Op.operands]);have h1:=h.at_ k;simp only[gy]at h1 ⊢;rw[lF,Ur,<-h1];generalize aH σ y=u at hy;unfold qZ;split
  ·rfl
  ·split
   ·split
    ·rfl
    next q=>have hk:gx p q=true:=hy;rw[hm,Ai hn q _ hk]
    ·rfl
   ·rfl
 case h_8 t t2 y=>
  intro X k;have hy:=dc y (by simp[Op.operands]);have lF:=ho y (by simp[Op.operands]);have h1:=h.at_ k;simp only[gy]at h1 ⊢;rw[lF,<-h1];generalize aH σ y=u at hy;unfold qg;split
  ·rfl
  ·rename_i z _;cases z with
   | own q=>
    have hk:gx p q=true:=hy;simp only[kK];rw[hm,Ai hn q _ hk]
   |v z=>rfl
   |dead=>rfl
  ·rfl
 case h_15 y t=>
  intro X k;have hy:=dc y (by simp[Op.operands,Call.operands]);have lF:=ho y (by simp[Op.operands,Call.operands]);have h1:=h.at_ k;simp only[gy]at h1 ⊢;rw[lF,<-h1];generalize aH σ y=u at hy;unfold p9;split
  ·rename_i z;cases z with
   | own q=>
    have hk:gx p q=true:=hy;simp only[kK];rw[hm,Ai hn q _ hk]
   |v z=>rfl
   |dead=>rfl
  ·rfl
  ·rfl
 case h_18 t y lo hi=>
  intro X k;have hy:=dc y (by simp[Op.operands]);have lF:=ho y (by simp[Op.operands]);have e:∀ z:ak Operand,(∀ y,z=some y->aH (σ.root n x) y=aH σ y)->z.map (aH (σ.root n x))=z.map (aH σ):=by
   intro z hz;cases z with
   |none=>rfl
   |some z=>exact bJ some (hz z rfl)
  have h1:=h.at_ k;simp only[gy]at h1 ⊢;rw[lF,e lo (λy hy=>ho y (by subst hy;simp[Op.operands])),e hi (λy hy=>ho y (by subst hy;simp[Op.operands])),<-h1];generalize aH σ y=u at hy;unfold tA;split
  ·rename_i q;have hk:gx p q=true:=hy;unfold rj;split
   ·split
    ·rw[hm,Ai hn q _ hk]
    ·rfl
   ·rfl
  ·rename_i q s j;have hk:gx p q=true:=hy;unfold rj;split
   ·split
    ·rw[hm,Ai hn q _ hk]
    ·rfl
   ·rfl
  ·rfl
 case h_19=>cases h0
 all_goals exact Up λX k=>rfl
end
end Go.Proofs.YtecofnkoloihpaaGreat
namespace Go.Proofs.YtecofnkoloihpaaGreat
open Go.RowKit
set_option linter.unusedVariables false
def gX(σ:S):ak Tmp->A->S
 |none,_=>σ
 |some d,v=>σ.set d v
inductive jS (p pb:Nat->Bool):S->S->Prop
 |refl (σ:S):jS p pb σ σ
 |root {σ aA:S} (n:Nat) (x:bg):p n=true->pb n=true->jS p pb σ aA->jS p pb σ ((aA.drop n).root n x)
 |rt {σ aA:S} (n:Nat) (x:bg):p n=true->jS p pb σ aA->jS p pb σ (aA.root n x)
section
variable {P:Program} {w w':World} {w0:Wd} {B N:Nat} {aj aD:bM} {ρ ρ':Nat->Loc} {σ:S} {a:Act} {X:Type} {d:Nat} {r:X} {o:Oper} {Φ:fo} {p pb:Nat->Bool}
theorem mC{dst:ak Tmp}{x:A}{k:S->ak X}(h:jD N σ dst x k=some r):k (gX σ dst x)=some r/\∀ (σ2:S),cR (λX k=>jD (X:=X) N σ2 dst x k) (gX σ2 dst x):=by
 unfold jD at h;split at h
 ·exact⟨h,λ_ X k=>rfl⟩
 ·rename_i d;cases hN:Nat.blt d N with
  |false=>rw[hN]at h;cases h
  |true=>rw[hN]at h;exact⟨h,λ_ X k=>by simp only[jD,hN,aq];rfl⟩
theorem aby[Inhabited Wd]{f:Nat}{dst:ak Tmp}{c:uJ}{xs:af A}{k:S->ak X}(hc:mB P f c)(h:B4 N σ dst c xs k=some r):∃ τ,k τ=some r/\cR (λX k=>B4 (X:=X) N σ dst c xs k) τ:=by
 unfold B4 at h;obtain⟨aA,y,h1,h2,_⟩:=hc _ _ _ _ _ _ h;obtain⟨h3,h4⟩:=mC h1;exact⟨_,h3,λX k=>(h2 X _).trans ((h4 aA).at_ k)⟩
theorem jS.t{σ aA:S}(h:jS p pb σ aA){g:Nat}(hg:(σ.t g).nG p pb=true):aA.t g=σ.t g:=by
 induction h with
 |refl=>rfl
 | root n x hn hb _ ih=>
  show (A.drop n _)=_;rw[ih];exact A.wh hg hn hb
 |rt n x hn _ ih=>exact ih
theorem jS.bp{σ aA:S}(h:jS p pb σ aA){t r j:Nat}(ht:σ.t t = .aK r j)(hr:pb r=false):aA.t t = .aK r j:=by
 rw[<-ht];refine h.t ?_;rw[ht];show (!pb r)=true;rw[hr];rfl
def kC(p:Nat->Bool):A->Prop
 |.aK r _=>p r=true
 |.ptr _=>False
 |_=>True
theorem kC.drop{x:A}(h:kC p x)(n:Nat):kC p (x.drop n):=by
 cases x with
 | aK r j=>
  have e:A.drop n (.aK r j)=(bif Nat.beq r n then .undef else .aK r j):=rfl;rw[e];cases Nat.beq r n with
  |true=>trivial
  |false=>exact h
 |ptr k=>exact h.elim
 | view k s i j=>
  have e:A.drop n (.view k s i j)=(bif bP n k then .undef else .view k s i j):=rfl;rw[e];cases bP n k<;>trivial
 | pk r j=>
  have e:A.drop n (.pk r j)=(bif Nat.beq r n then .undef else .pk r j):=rfl;rw[e];cases Nat.beq r n<;>trivial
 | fn f cap=>
  have e:A.drop n (.fn f cap)=(bif cap.any (λp=>Nat.beq p.1 n)then .undef else .fn f cap):=rfl;rw[e];cases (cap.any λp=>Nat.beq p.1 n)<;>trivial
 |_=>trivial
theorem jS.st{p':Nat->Bool}{σ aA:S}(h:jS p pb σ aA){t:Nat}(ht:kC p' (σ.t t)):kC p' (aA.t t):=by
 induction h with
 |refl=>exact ht
 |root n x hn hb _ ih=>exact ih.drop n
 |rt n x hn _ ih=>exact ih
theorem jS.HR{σ aA:S}(h:jS p pb σ aA){x:Operand}(hx:(aH σ x).nG p pb=true):aH aA x=aH σ x:=by
 cases x with
 |tmp t=>exact h.t hx
 |const v=>rfl
 |global g=>rfl
 |func f=>rfl
theorem jS.val{σ aA:S}(h:jS p pb σ aA){op:Op}{v:A}(hd:cR (λX k=>gy (X:=X) P σ op k) v)(dc:∀ y∈op.operands,(aH σ y).nG p pb=true)(hv:v.nG p pb=true)(zO:∀ t y r j,op = .load t y->aH σ y = .aK r j->p r=false):cR (λX k=>gy (X:=X) P aA op k) v:=by
 have hl:∀ {aA:S},jS p pb σ aA->∀ t y r j,op = .load t y->aH aA y = .aK r j->p r=false:=by
  intro aA hg t y r j e h;refine zO t y r j e ?_;rw[<-hg.HR (dc y (by rw[e];simp[Op.operands]))];exact h
 induction h with
 |refl=>exact hd
 | root n x hn hb hg ih=>
  exact amN ih hn hb (λy hy=>by rw[hg.HR (dc y hy)];exact dc y hy) hv
 | rt n x hn hg ih=>
  exact amQ ih hn (λy hy=>by rw[hg.HR (dc y hy)];exact dc y hy) hv (hl hg)
theorem jS.trans{σ aA tJ:S}(h:jS p pb σ aA)(h':jS p pb aA tJ):jS p pb σ tJ:=by
 induction h' with
 |refl=>exact h
 |root n x hn hb _ ih=>exact .root n x hn hb ih
 |rt n x hn _ ih=>exact .rt n x hn ih
theorem Cb:∀ (xs:af V) (c:Nat) (σ:S),(∀ n,c<=n->p n=true/\pb n=true)->jS p pb σ (jG c σ xs)
 |[],c,σ,h=>.refl σ
 | x :: xs,c,σ,h=>by
  simp only[jG];cases hf:x.az with
  |true=>exact Cb xs (c+1) σ (λn hn=>h n (by omega))
  |false=>exact .trans (.root c (.sl x) (h c (gj _)).1 (h c (gj _)).2 (.refl σ)) (Cb xs (c+1) _ (λn hn=>h n (by omega)))
theorem HS:∀ (ps:af Pt) (c:Nat) (σ:S),(∀ n,c<=n->p n=true/\pb n=true)->jS p pb σ (mT c σ ps)
 |[],c,σ,h=>.refl σ
 |q::ps,c,σ,h=>(Cb q.2 c σ h).trans (HS ps _ _ (λn hn=>h n (by omega)))
theorem Aj{σ2:S}{ops:Array Oper}(h:∀ g b t,o.guard=some (g,b)->(ops[g]?).bind (·.dst)=some t->σ2.t t=σ.t t):gG σ2 ops o=gG σ ops o:=by
 unfold gG;split
 ·rfl
 ·rename_i g b hg;split
  next t ht=>rw[h g b t hg ht]
  ·rfl
def pL(p pb:Nat->Bool)(x:A):Prop:=∀r,x = .lf (.own [r])->p r=true/\pb r=true
theorem pL.drop{p pb:Nat->Bool}{x:A}(h:pL p pb x)(n:Nat):pL p pb (x.drop n):=by
 intro r hr;refine h r ?_;cases x with
 | lf l=>
  cases l with
  | own k=>
   have e:A.drop n (.lf (.own k)) = .lf (bif bP n k then .dead else .own k):=rfl;rw[e]at hr;cases hb:bP n k with
   |true=>rw[hb]at hr;cases hr
   |false=>rw[hb]at hr;exact hr
  |v z=>cases hr
  |dead=>cases hr
 | aK q j=>
  have e:A.drop n (.aK q j)=(bif Nat.beq q n then .undef else .aK q j):=rfl;rw[e]at hr;cases hb:Nat.beq q n<;>rw[hb]at hr<;>cases hr
 | ptr k=>
  have e:A.drop n (.ptr k)=(bif bP n k then .undef else .ptr k):=rfl;rw[e]at hr;cases hb:bP n k<;>rw[hb]at hr<;>cases hr
 | view k s i j=>
  have e:A.drop n (.view k s i j)=(bif bP n k then .undef else .view k s i j):=rfl;rw[e]at hr;cases hb:bP n k<;>rw[hb]at hr<;>cases hr
 | pk q j=>
  have e:A.drop n (.pk q j)=(bif Nat.beq q n then .undef else .pk q j):=rfl;rw[e]at hr;cases hb:Nat.beq q n<;>rw[hb]at hr<;>cases hr
 | fn f cap=>
  have e:A.drop n (.fn f cap)=(bif cap.any (λp=>Nat.beq p.1 n)then .undef else .fn f cap):=rfl;rw[e]at hr;cases hb:(cap.any λp=>Nat.beq p.1 n)<;>rw[hb]at hr<;>cases hr
 |_=>cases hr
theorem jS.tg{p' pb':Nat->Bool}{σ aA:S}(h:jS p pb σ aA){t:Nat}(ht:pL p' pb' (σ.t t)):pL p' pb' (aA.t t):=by
 induction h with
 |refl=>exact ht
 |root n x hn hb _ ih=>exact ih.drop n
 |rt n x hn _ ih=>exact ih
structure uL (P:Program) (N:Nat) (Φ:fo) (o:Oper) (p pb:Nat->Bool) (mW τ:S) where
 G:S->S
 u:A
 eq:τ=gX (G mW) o.dst u
 run:∀σ2:S,(∀x∈o.op.operands,aH σ2 x=aH mW x)->σ2.m=mW.m->dU P N Φ σ2 o some=some (gX (G σ2) o.dst u)
 grow:∀σ,jS p pb σ (G σ)
 set:∀(σ:S) d v,(A.nG p pb v)=true->G (σ.set d v)=(G σ).set d v
 bp:isApp o=false->∀(σ:S) t r j,σ.t t = .aK r j->fH o r=false->(G σ).t t = .aK r j
theorem uL.new{mW:S}{d:Nat}(hd:o.dst=some d)(hp:p d=true/\pb d=true)(eS:fH o d=true)(x:bg)(u:A){τ:S}(e:τ=((mW.drop d).root d x).set d u)
  (hr:∀σ2:S,(∀x∈o.op.operands,aH σ2 x=aH mW x)->dU P N Φ σ2 o some=some (((σ2.drop d).root d x).set d u)):Nonempty (uL P N Φ o p pb mW τ):=
 ⟨{ G:=λσ=>(σ.drop d).root d x,u:=u,eq:=by rw[hd];exact e,run:=λσ2 h _=>by rw[hr σ2 h,hd];rfl,grow:=λσ=>.root d x hp.1 hp.2 (.refl σ),
    set:=λσ e v hv=>by rw[S.drop_set d (A.wh hv hp.1 hp.2)];rfl
    bp:=λ_ σ t r j ht hr=>by
     show A.drop d (σ.t t)=_;rw[ht];have:Nat.beq r d=false:=by
      cases hb:Nat.beq r d with
      |false=>rfl
      |true=>rw[cr hb,eS]at hr;cases hr
     simp only[A.drop,this,au] }⟩
theorem amR[Inhabited Wd](cy:ir P Φ){τ:S}(ht:M8 Φ o.op=true)(hp:∀ n,fH o n=true->p n=true/\pb n=true)(h:dU P N Φ σ o some=some τ):Nonempty (uL P N Φ o p pb σ τ):=by
 have h0:=h;unfold dU at h;cases hv:gF o.op with
 | true=>
  rw[hv,aq]at h;obtain⟨v,h1,hd,_⟩:=HP (w0:=default) (N:=N) h;obtain⟨h2,h3⟩:=mC h1;injection h2 with h2
  refine⟨{ G:=λσ=>σ,u:=v,eq:=h2.symm,run:=λσ2 ho hm=>?_,grow:=.refl,set:=λ_ _ _ _=>rfl,bp:=λ_ _ _ _ _ h _=>h }⟩
  unfold dU;rw[hv,aq,Nc o.op hm ho];refine(hd.at_ _).trans ?_;exact(h3 σ2).at_ _
 | false=>
  rw[hv,au]at h;have bE:∀σ2,dU P N Φ σ2 o some=ju P N Φ σ2 o some:=λσ2=>by unfold dU;rw[hv,au]
  unfold ju at h bE;unfold M8 at ht;rw[hv,Bool.false_or]at ht;split at h
  ·rename_i e ho;obtain⟨d,hd,h⟩:=jl h;obtain⟨x,y,h1,_,h2⟩:=aa7 h;injection h1 with h1;have eS:fH o d=true:=by unfold fH;rw[hd,ho];exact Nat.beq_refl d
   refine uL.new hd (hp d eS) eS x y h1.symm λσ2 _=>?_
   rw[bE,ho];simp only[fM,hd];exact(h2 σ2).at_ _
  ·rename_i e x ho;obtain⟨d,hd,h⟩:=jl h;obtain⟨y,u,h1,h2⟩:=abc h;injection h1 with h1;have eS:fH o d=true:=by unfold fH;rw[hd,ho];exact Nat.beq_refl d
   refine uL.new hd (hp d eS) eS _ _ h1.symm λσ2 dc=>?_
   rw[bE,ho];simp only[fM,hd];rw[dc x (by rw[ho];simp[Op.operands])];exact(h2 σ2).at_ _
  ·rename_i t len parts ho;obtain⟨d,hd,h⟩:=jl h;have eS:fH o d=true:=by unfold fH;rw[hd,ho];exact Nat.beq_refl d
   cases hn:pH t with
   | true=>
    rw[hn,aq]at h;obtain⟨y,u,h1,h2⟩:=abf h;injection h1 with h1
    refine uL.new hd (hp d eS) eS _ _ h1.symm λσ2 dc=>?_
    rw[bE,ho];simp only[fM,hd,hn,aq]
    refine(h2 σ2 λq hq=>dc _ ?_).at_ _
    rw[ho];simp only[Op.operands];exact List.mem_toArray.2 (List.mem_map_of_mem (f:=(·.2)) hq)
   | false=>
    rw[hn,au]at h;obtain⟨y,h1,h2⟩:=T7 h;injection h1 with h1
    refine uL.new hd (hp d eS) eS _ _ h1.symm λσ2 dc=>?_
    rw[bE,ho];simp only[fM,hd,hn,au]
    refine(h2 σ2 λq hq=>dc _ ?_).at_ _
    rw[ho];simp only[Op.operands];exact List.mem_toArray.2 (List.mem_map_of_mem (f:=(·.2)) hq)
  next t x y ho=>rw[ho]at ht;cases ht
  ·rename_i t l c ho;obtain⟨d,hd,h⟩:=jl h;obtain⟨y,h1,h2⟩:=T6 h;injection h1 with h1;have eS:fH o d=true:=by unfold fH;rw[hd,ho];exact Nat.beq_refl d
   refine uL.new hd (hp d eS) eS _ _ h1.symm λσ2 dc=>?_
   rw[bE,ho];simp only[fM,hd];rw[dc l (by rw[ho];simp[Op.operands]),dc c (by rw[ho];simp[Op.operands])];exact(h2 σ2).at_ _
  ·rename_i f args gf ho;split at h
   rotate_left
   next c hc=>rw[ho]at ht;simp[hc]at ht
   next c hc=>rw[ho]at ht;simp[hc]at ht
   next F hc=>rw[ho]at ht;simp[hc]at ht
   next c hc=>rw[ho]at ht;simp[hc]at ht
   next c hc=>rw[ho]at ht;simp[hc]at ht
   ·rename_i c hc;obtain⟨d,hd,h⟩:=jl h;obtain⟨res,gp,h1,h2,h3⟩:=al2 (cy f _ hc).2 h;injection h2 with h2;subst h2;have eS:∀ n,1000000000100000+1000*d<=n->fH o n=true:=λn hn=>by unfold fH;rw[hd,ho];exact mJ hn
    have nH:∀n,1000000000100000+1000*d<=n->p n=true/\pb n=true:=λn hn=>hp n (eS n hn)
    have HT:∀ σ2:S,(∀ x∈o.op.operands,aH σ2 x=aH σ x)->σ2.m=σ.m->∀ (X:Type) (k:af Pt->ak X),oG σ2 args.toList k=oG σ args.toList k:=by
     intro σ2 dc hm X k
     refine abv hm _ _ λx hx=>dc x ?_
     rw[ho];simp only[Op.operands,Call.operands];simp only[Array.mem_append]
     first
      |exact .inr (by simpa using hx)
      |exact .inl (by simpa using hx)
    unfold qt at h1 h3;cases res with
    | one q=>
     simp only at h1 h3;split at h1
     ·rename_i y hy;injection h1 with h1
      refine⟨{ G:=λσ=>jG (1000000000100000+1000*d) σ q.2,u:=y,eq:=by rw[hd];exact h1.symm,run:=λσ2 dc hm=>?_,grow:=λσ=>Cb q.2 _ σ nH,set:=λσ e v hv=>HD v q.2 _ σ λn hn=>A.wh hv (nH n hn).1 (nH n hn).2,bp:=λ_ σ t r j ht hr=>(Cb (p:=fH o) (pb:=fH o) q.2 _ σ (λn hn=>⟨eS n hn,eS n hn⟩)).bp ht hr }⟩
      rw[bE,ho];simp only[fM,hd,hc];exact(h3 σ2 ((jG (1000000000100000+1000*d) σ2 q.2).set d y) (HT σ2 dc hm) (by rw[hy])).at_ _
     ·cases h1
    | cU ps=>
     injection h1 with h1
     refine⟨{ G:=λσ=>mT (1000000000100000+1000*d) σ ps,u:=_,eq:=by rw[hd];exact h1.symm,run:=λσ2 dc hm=>?_,grow:=λσ=>HS ps _ σ nH,set:=λσ e v hv=>Ua v ps _ σ λn hn=>A.wh hv (nH n hn).1 (nH n hn).2,bp:=λ_ σ t r j ht hr=>(HS (p:=fH o) (pb:=fH o) ps _ σ (λn hn=>⟨eS n hn,eS n hn⟩)).bp ht hr }⟩
     rw[bE,ho];simp only[fM,hd,hc];exact(h3 σ2 _ (HT σ2 dc hm) rfl).at_ _
   next c hc=>rw[ho]at ht;simp[hc]at ht
   ·cases h
   ·rename_i c hc;obtain⟨d,hd,h⟩:=jl h;obtain⟨res,gp,h1,h2,h3⟩:=HC (cy f _ hc).2 h;injection h2 with h2;subst h2;have eS:∀ n,1000000000100000+1000*d<=n->fH o n=true:=λn hn=>by unfold fH;rw[hd,ho];exact mJ hn
    have nH:∀n,1000000000100000+1000*d<=n->p n=true/\pb n=true:=λn hn=>hp n (eS n hn)
    have HT:∀ σ2:S,(∀ x∈o.op.operands,aH σ2 x=aH σ x)->σ2.m=σ.m->∀ (X:Type) (k:af Pt->ak X),mz σ2 args.toList k=mz σ args.toList k:=by
     intro σ2 dc hm X k
     refine abu hm _ _ λx hx=>dc x ?_
     rw[ho];simp only[Op.operands,Call.operands];simp only[Array.mem_append]
     first
      |exact .inr (by simpa using hx)
      |exact .inl (by simpa using hx)
    unfold qt at h1 h3;cases res with
    | one q=>
     simp only at h1 h3;split at h1
     ·rename_i y hy;injection h1 with h1
      refine⟨{ G:=λσ=>jG (1000000000100000+1000*d) σ q.2,u:=y,eq:=by rw[hd];exact h1.symm,run:=λσ2 dc hm=>?_,grow:=λσ=>Cb q.2 _ σ nH,set:=λσ e v hv=>HD v q.2 _ σ λn hn=>A.wh hv (nH n hn).1 (nH n hn).2,bp:=λ_ σ t r j ht hr=>(Cb (p:=fH o) (pb:=fH o) q.2 _ σ (λn hn=>⟨eS n hn,eS n hn⟩)).bp ht hr }⟩
      rw[bE,ho];simp only[fM,hd,hc];exact(h3 σ2 ((jG (1000000000100000+1000*d) σ2 q.2).set d y) (HT σ2 dc hm) (by rw[hy])).at_ _
     ·cases h1
    | cU ps=>
     injection h1 with h1
     refine⟨{ G:=λσ=>mT (1000000000100000+1000*d) σ ps,u:=_,eq:=by rw[hd];exact h1.symm,run:=λσ2 dc hm=>?_,grow:=λσ=>HS ps _ σ nH,set:=λσ e v hv=>Ua v ps _ σ λn hn=>A.wh hv (nH n hn).1 (nH n hn).2,bp:=λ_ σ t r j ht hr=>(HS (p:=fH o) (pb:=fH o) ps _ σ (λn hn=>⟨eS n hn,eS n hn⟩)).bp ht hr }⟩
     rw[bE,ho];simp only[fM,hd,hc];exact(h3 σ2 _ (HT σ2 dc hm) rfl).at_ _
  next x y t t' ho=>rw[ho]at ht;cases ht
  next t args gf ho=>rw[ho]at ht;cases ht
  next f HJ ho=>rw[ho]at ht;cases ht
  next x t ho=>rw[ho]at ht;cases ht
  ·cases h
theorem Nf[Inhabited Wd](cy:ir P Φ){k:S->ak X}(h:dU P N Φ σ o k=some r):∃ τ,k τ=some r/\∀ (X':Type) (k':S->ak X'),dU P N Φ σ o k'=k' τ:=by
 unfold dU at h ⊢;cases hv:gF o.op with
 | true=>
  rw[hv,aq]at h;obtain⟨v,h1,hd,_⟩:=HP (w0:=default) (N:=N) h;obtain⟨h2,h3⟩:=mC h1
  refine⟨_,h2,λX' k'=>?_⟩
  rw[aq];exact(hd.at_ (λv=>jD N σ o.dst v k')).trans ((h3 σ).at_ _)
 | false=>
  rw[hv,au]at h;show ∃τ,k τ=some r/\∀(X':Type) (k':S->ak X'),ju P N Φ σ o k'=k' τ;unfold ju at h ⊢;split at h
  ·obtain⟨d,hd,h⟩:=jl h;obtain⟨x,y,h1,_,h2⟩:=aa7 h;exact⟨_,h1,λ_ _=>by simp only[fM,hd];exact(h2 σ).at_ _⟩
  ·obtain⟨d,hd,h⟩:=jl h;obtain⟨y,u,h1,h2⟩:=abc h;exact⟨_,h1,λ_ _=>by simp only[fM,hd];exact(h2 σ).at_ _⟩
  ·rename_i t len parts ho;obtain⟨d,hd,h⟩:=jl h;cases hn:pH t with
   | true=>
    rw[hn,aq]at h;obtain⟨y,u,h1,h2⟩:=abf h;exact⟨_,h1,λ_ _=>by simp only[fM,hd,aq];exact(h2 σ λ_ _=>rfl).at_ _⟩
   | false=>
    rw[hn,au]at h;obtain⟨y,h1,h2⟩:=T7 h;exact⟨_,h1,λ_ _=>by simp only[fM,hd,au];exact(h2 σ λ_ _=>rfl).at_ _⟩
  ·split at h
   ·rename_i t x y ho _ hd;cases hn:v7 (aH σ x) (aH σ y)with
    | true=>
     rw[hn,aq]at h;obtain⟨τ,h1,h2⟩:=amb h;exact⟨τ,h1,λ_ _=>by simp only[aq];exact h2.at_ _⟩
    | false=>
     rw[hn,au]at h;obtain⟨τ,h1,h2⟩:=aba h;exact⟨τ,h1,λ_ _=>by simp only[au];exact h2.at_ _⟩
   ·cases h
  ·obtain⟨d,hd,h⟩:=jl h;obtain⟨y,h1,h2⟩:=T6 h;exact⟨_,h1,λ_ _=>by simp only[fM,hd];exact(h2 σ).at_ _⟩
  ·rename_i f args gf ho;split at h
   next c hc=>obtain⟨d,hd,h⟩:=jl h;obtain⟨res,τ,h1,h2,h3⟩:=HC (cy f _ hc).2 h;exact⟨τ,h2,λ_ _=>by simp only[fM,hd];exact(h3 σ τ (λ_ _=>rfl) h1).at_ _⟩
   next c hc=>obtain⟨τ,h1,h2⟩:=Ue h;exact⟨τ,h1,λ_ _=>h2.at_ _⟩
   next c hc=>obtain⟨d,hd,h⟩:=jl h;obtain⟨τ,h1,h2⟩:=amg h;exact⟨τ,h1,λ_ _=>by simp only[fM,hd];exact h2.at_ _⟩
   ·cases h
   next c hc=>obtain⟨τ,h1,h2⟩:=aby (cy f _ hc).2 h;exact⟨τ,h1,λ_ _=>h2.at_ _⟩
   next c hc=>obtain⟨τ,h1,h2⟩:=alL (λh=>let ⟨τ,g1,g2⟩:=Ue h;⟨τ,g1,λX k=>g2 X k⟩) h;exact⟨τ,h1,h2⟩
   next c hc=>obtain⟨d,hd,h⟩:=jl h;obtain⟨τ,h1,h2⟩:=al1 (cy f _ hc).2 h;exact⟨τ,h1,λ_ _=>by simp only[fM,hd];exact h2.at_ _⟩
   next c hc=>obtain⟨τ,h1,h2⟩:=amn h;exact⟨τ,h1,h2⟩
   ·cases h
  ·rename_i x y t t' ho;cases gw:Nat.beq t t' with
   |false=>rw[gw]at h;cases h
   | true=>
    rw[gw,aq]at h;obtain⟨d,hd,h⟩:=jl h;cases hn:pH t with
    | true=>
     rw[hn,aq]at h;obtain⟨τ,h1,h2⟩:=al9 h;exact⟨τ,h1,λ_ _=>by simp only[aq,fM,hd];exact h2.at_ _⟩
    | false=>
     rw[hn,au]at h;cases hk:HI t d x with
     | true=>
      rw[hk,aq]at h;obtain⟨τ,h1,h2⟩:=amx h;exact⟨τ,h1,λ_ _=>by simp only[aq,au,fM,hd,hk];exact h2.at_ _⟩
     | false=>
      rw[hk,au]at h;obtain⟨τ,h1,h2⟩:=alZ h;exact⟨τ,h1,λ_ _=>by simp only[aq,au,fM,hd,hk];exact h2.at_ _⟩
  ·rename_i t args gf ho;split at h
   ·rename_i f cap eC;split at h
    next c hc=>obtain⟨τ,h1,h2⟩:=aby (cy f _ hc).2 h;exact⟨τ,h1,λ_ _=>h2.at_ _⟩
    ·cases h
   ·cases h
  ·rename_i f HJ ho;split at h
   next ps iQ=>obtain⟨h3,h4⟩:=mC h;exact⟨_,h3,λ_ _=>(h4 σ).at_ _⟩
   ·cases h
  ·obtain⟨mW,h1,h2⟩:=akI h;obtain⟨h3,h4⟩:=mC h1;exact⟨_,h3,λ_ _=>(h2 _ _).trans ((h4 mW).at_ _)⟩
  ·cases h
theorem amS[Inhabited Wd](cy:ir P Φ){k:S->ak X}(h:dU P N Φ σ o k=some r):∃ τ,k τ=some r/\dU P N Φ σ o some=some τ:=
 let ⟨τ,h1,h2⟩:=Nf cy h
 ⟨τ,h1,h2 S some⟩
theorem Ut[Inhabited Wd](cy:ir P Φ){ops:Array Oper}{k:S->ak X}(h:dN P N Φ ops σ o k=some r):∃ τ,k τ=some r/\dN P N Φ ops σ o some=some τ:=by
 unfold dN at h ⊢;split at h
 ·exact amS cy h
 ·obtain⟨h1,h2⟩:=mC h;exact⟨_,h1,(h2 σ).at_ _⟩
 ·cases h
theorem Uu{ops:Array Oper}{b:Bool}(h:gG σ ops o=some b):∀ g c t,o.guard=some (g,c)->(ops[g]?).bind (·.dst)=some t->(σ.t t).nG p pb=true:=by
 intro g c t hg ht;unfold gG at h;rw[hg]at h;simp only[ht]at h;split at h
 next hb=>rw[hb];rfl
 next hb=>rw[hb];rfl
 ·cases h
theorem Er{ops:Array Oper}{d:Nat}(h:d ∉ o.looksAt ops)(v:A){x:Operand}(hx:x∈o.op.operands):aH (σ.set d v) x=aH σ x:=by
 cases x with
 | tmp t=>
  have:t≠d:=by
   rintro rfl;exact h (List.mem_append_left _ (List.mem_filterMap.2 ⟨.tmp t,by simpa using hx,rfl⟩))
  exact cV _ _ _ this
 |_=>rfl
theorem Uv{ops:Array Oper}{d:Nat}(h:d ∉ o.looksAt ops)(v:A):∀ g b t,o.guard=some (g,b)->(ops[g]?).bind (·.dst)=some t->(σ.set d v).t t=σ.t t:=by
 intro g b t hg ht;have:t≠d:=by
  rintro rfl;refine h (List.mem_append_right _ ?_);rw[hg];simp only[ht];simp
 exact cV _ _ _ this
def n9(P:Program)(ops:Array Oper)(oi:Oper)(p pb:Nat->Bool)(v:A)(σ:S):Prop:=
 (gG σ ops oi=some true/\gF oi.op=true/\cR (λX k=>gy (X:=X) P σ oi.op k) v/\(∀y∈oi.op.operands,(aH σ y).nG p pb=true)/\v.nG p pb=true/\∀t y r j,oi.op = .load t y->aH σ y = .aK r j->p r=false)\/(gG σ ops oi=some false/\v = .skip)
theorem n9.grow{ops:Array Oper}{oi:Oper}{v:A}(h:n9 P ops oi p pb v σ){aA:S}(hg:jS p pb σ aA):n9 P ops oi p pb v aA:=by
 rcases h with ⟨h1,h2,h3,h4,h5,h6⟩|⟨h1,h2⟩
 ·refine .inl ⟨?_,h2,hg.val h3 h4 h5 h6,λy hy=>?_,h5,λt y r j e h=>?_⟩
  ·rw[Aj λg b t e1 e2=>hg.t (Uu h1 g b t e1 e2)];exact h1
  ·rw[hg.HR (h4 y hy)];exact h4 y hy
  ·exact h6 t y r j e (by rw[<-hg.HR (h4 y (by rw[e];simp[Op.operands]))];exact h)
 ·refine .inr ⟨?_,h2⟩;rw[Aj λg b t e1 e2=>hg.t (Uu h1 g b t e1 e2)];exact h1
theorem n9.set{ops:Array Oper}{oi:Oper}{v u:A}(h:n9 P ops oi p pb v σ){d:Nat}(hd:d ∉ oi.looksAt ops):n9 P ops oi p pb v (σ.set d u):=by
 rcases h with ⟨h1,h2,h3,h4,h5,h6⟩|⟨h1,h2⟩
 ·refine .inl ⟨?_,h2,λX k=>?_,λy hy=>?_,h5,λt y r j e h=>?_⟩
  ·rw[Aj (Uv hd u)];exact h1
  ·exact(Nc (σ:=σ) (σ2:=σ.set d u) oi.op rfl (λx hx=>Er hd u hx) k).trans (h3.at_ k)
  ·rw[Er hd u hy];exact h4 y hy
  ·exact h6 t y r j e (by rw[<-Er hd u (by rw[e];simp[Op.operands])];exact h)
 ·refine .inr ⟨?_,h2⟩;rw[Aj (Uv hd u)];exact h1
theorem n9.put{ops:Array Oper}{oi:Oper}{v u:A}(h:n9 P ops oi p pb v σ){dst:ak Tmp}(hd:∀ d,dst=some d->d ∉ oi.looksAt ops):n9 P ops oi p pb v (gX σ dst u):=by
 cases dst with
 |none=>exact h
 |some d=>exact h.set (hd d rfl)
theorem n9.nr{ops:Array Oper}{oi:Oper}{v:A}(h:n9 P ops oi p pb v σ):v.nG p pb=true:=by
 rcases h with ⟨_,_,_,_,h5,_⟩|⟨_,h2⟩
 ·exact h5
 ·rw[h2];rfl
theorem abz{x y:ak Tmp}(v u:A)(h:∀ d,x=some d->y≠some d):gX (gX σ x v) y u=gX (gX σ y u) x v:=by
 cases x with
 |none=>rfl
 | some d=>cases y with
  |none=>rfl
  |some e=>exact S.set_set (λhe=>h d rfl (bJ some he)) v u
theorem amT(x:ak Tmp)(v:A):(gX σ x v).m=σ.m:=by cases x<;>rfl
theorem Uw{ops:Array Oper}{dst:ak Tmp}(h:∀ d,dst=some d->d ∉ o.looksAt ops)(v:A){x:Operand}(hx:x∈o.op.operands):aH (gX σ dst v) x=aH σ x:=by
 cases dst with
 |none=>rfl
 |some d=>exact Er (h d rfl) v hx
theorem amU{ops:Array Oper}{dst:ak Tmp}(h:∀ d,dst=some d->d ∉ o.looksAt ops)(v:A):gG (gX σ dst v) ops o=gG σ ops o:=by
 cases dst with
 |none=>rfl
 |some d=>exact Aj (Uv (h d rfl) v)
/-! Calls that write blocks alone. -/
theorem S.amV{ns:af Nat}{nr:af (Nat×bg)}(v:A)(h:v.cL ns []=v):(σ.set d v).cL ns [] nr=(σ.cL ns [] nr).set d v:=by
 refine S.ext' (λk=>?_) λ_=>rfl
 show (cB σ.t d v k).cL ns []=cB (λk=>(σ.t k).cL ns []) d v k;by_cases hk:k=d
 ·subst hk;rw[cG,cG];exact h
 ·rw[cV _ _ _ hk,cV _ _ _ hk]
theorem Ux{n:Nat}{x:bg}:∀ {l:af (Nat×bg)},l.lookup n=some x->(n,x)∈l
 |[],h=>by cases h
 | q :: l,h=>by
  rw[List.lookup_cons]at h;cases hb:n==q.1 with
  | true=>
   rw[hb]at h;have e:n=q.1:=by simpa using hb
   injection h with h;rw[e,<-h];exact .head _
  |false=>rw[hb]at h;exact .tail _ (Ux h)
def Calm(Φ:fo)(ok:Nat->Nat->Bool)(sH n7 p pb:Nat->Bool)(σ:S)(o:Oper):Prop:=
 M8 Φ o.op=true\/False\/
 (∃ty t y,o.op = .store ty (.tmp t) y/\o.dst=none/\sH t=true/\kC p (σ.t t))\/
 ∃x y t t',o.op = .call ⟨.builtin .append,⟨[.tmp x,y]⟩,⟨[t,t']⟩⟩/\n7 x=true/\(pH t=false/\Nat.beq t t'=true/\B6 o.dst t (.tmp x)=false)/\pL p pb (σ.t x)
theorem amW{τ:S}{ty:TypeId}{t:Tmp}{y:Operand}(ho:o.op = .store ty (.tmp t) y)(hd:o.dst=none)(jk:kC p (σ.t t))(h:dU P N Φ σ o some=some τ):Nonempty (uL P N Φ o p pb σ τ):=by
 have Hu:∀ (x:A) (z:A),(∀ k,x ≠ .ptr k)->v7 x z=false:=by
  intro x z hx;unfold v7;split
  ·exact absurd rfl (hx _)
  ·rfl
 have bE:∀ σ2:S,(∀ k,σ2.t t ≠ .ptr k)->dU P N Φ σ2 o some=oB P σ2 ty (σ2.t t) (aH σ2 y) some:=by
  intro σ2 Ng;unfold dU;rw[show gF o.op=false by rw[ho];rfl,au];simp only[ju,ho,hd];rw[show v7 (aH σ2 (.tmp t)) (aH σ2 y)=false from Hu _ _ Ng,au];rfl
 rw[bE σ (λk hk=>by rw[hk]at jk;exact jk)]at h;cases hx:σ.t t with
 | aK r' j=>
  rw[hx]at h jk;have hp:p r'=true:=jk;have key:∃ x,∀ σ2:S,σ2.m=σ.m->∀ v,v=aH σ y->oB P σ2 ty (.aK r' j) v some=some (σ2.root r' x):=by
   unfold oB at h;split at h
   ·rename_i n xs hn gV;split at h
    ·rename_i hlen;simp only at h;split at h
     ·rename_i cs eR;split at h
      ·rename_i hj;cases hl:xs.all Lf.live with
       |false=>rw[hl]at h;cases h
       | true=>
        refine⟨.aC (splice cs j xs),λσ2 hm v hv=>?_⟩
        subst hv;simp only[oB,hn,gV,bB hlen,hm,eR,bB hj,hl,aq];simp only[S.root,hm]
      ·cases h
     ·cases h
    ·cases h
   ·cases h
  obtain⟨x,cW⟩:=key;have h1:=cW σ rfl _ rfl;rw[h]at h1;injection h1 with h1
  refine⟨{ G:=λσ=>σ.root r' x,u:=.undef,eq:=by rw[hd];exact h1,run:=λσ2 dc hm=>?_,grow:=λσ=>.rt r' x hp (.refl σ),set:=λσ d v hv=>rfl,bp:=λ_ σ t r j ht _=>ht }⟩
  have e1:σ2.t t = .aK r' j:=(dc (.tmp t) (by rw[ho];simp[Op.operands])).trans hx;rw[bE σ2 (λk hk=>by rw[e1]at hk;cases hk),e1,cW σ2 hm _ (dc y (by rw[ho];simp[Op.operands])),hd];rfl
 |ptr k=>rw[hx]at jk;exact jk.elim
 | _=>
  rw[hx]at h;exfalso;revert h;unfold oB;split
  ·split<;>exact λh=>by cases h
  ·exact λh=>by cases h
def cY(e:Nat)(x:bg)(u:A)(σ:S):S:=((σ.drop e).root e x).set e u
def oS(e:Nat)(u:A):Prop:=u = .aK e 0\/u = .lf (.own [e])
structure qw (x:bg):Prop where
 drop:∀n,x.drop n=x
 cL:∀ns cn,x.cL ns cn=x
theorem abA(h:we o=true):∃ t,∃ e:Nat,o.op = .alloc t/\o.guard=none/\o.dst=some e/\e<20000:=by
 unfold we at h;rw[bx,bx]at h;obtain⟨⟨h1,h2⟩,h3⟩:=h;split at h1
 ·rename_i t ht;split at h3
  next e he=>exact⟨t,e,ht,by simpa using h2,he,cT h3⟩
  ·cases h3
 ·cases h1
theorem amX{ops:Array Oper}{t:TypeId}{e:Nat}(ht:o.op = .alloc t)(hg:o.guard=none)(hd:o.dst=some e){τ:S}(h:dN P N Φ ops σ o some=some τ):∃ x,qw x/\τ=cY e x (.aK e 0) σ/\∀ σ2,dN P N Φ ops σ2 o some=some (cY e x (.aK e 0) σ2):=by
 have bE:∀ σ2,dN P N Φ ops σ2 o some=tw P N σ2 e t some:=by
  intro σ2;unfold dN gG;rw[hg];simp only;unfold dU;rw[show gF o.op=false by rw[ht];rfl,au];simp only[ju,ht,fM,hd]
 rw[bE]at h;unfold tw at h;split at h
 ·rename_i z hz;unfold jF at h;cases hN:Nat.blt e N with
  |false=>rw[hN]at h;cases h
  | true=>
   rw[hN,aq]at h;injection h with h;have h1:∀(n:Nat) v,(jE v).drop n=jE v:=λn v=>by unfold jE;split<;>rfl
   have h2:∀(ns cn:af Nat) v,(jE v).cL ns cn=jE v:=λns cn v=>by unfold jE;split<;>rfl
   refine⟨.aC (z.cells.toList.map jE),⟨λn=>?_,λns cn=>?_⟩,h.symm,λσ2=>(bE σ2).trans ?_⟩
   ·simp only[bg.drop,List.map_map];congr 1;exact mK λv _=>h1 n v
   ·simp only[bg.cL,List.map_map];congr 1;exact mK λv _=>h2 ns cn v
   ·unfold tw jF;rw[hz,hN];rfl
 ·cases h
theorem Nh{σ2:S}:∀ (ps:af PK) (xs:af Operand),(∀ x∈xs,aH σ2 x=aH σ x)->pJ σ2 ps xs=pJ σ ps xs
 |[],[],_=>rfl
 |[],_::_,_=>rfl
 |.v _ _::_,[],_=>rfl
 |.p _ _ _::_,[],_=>rfl
 |.s _ _::_,[],_=>rfl
 |.v _ _::ps,x::xs,h=>by simp only[pJ];exact Nh ps xs (λy hy=>h y (.tail _ hy))
 |.s _ _::ps,x::xs,h=>by simp only[pJ];exact Nh ps xs (λy hy=>h y (.tail _ hy))
 | .p _ _ _ :: ps,x :: xs,h=>by
  simp only[pJ];rw[h x (.head _),Nh ps xs (λy hy=>h y (.tail _ hy))]
theorem Calm.iz{ok:Nat->Nat->Bool}{sH n7:Nat->Bool}{σ2:S}(h:Calm Φ ok sH n7 p pb σ o)(hk:∀ t r j,σ.t t = .aK r j->ok t r=true->σ2.t t = .aK r j)(hs:∀ t,sH t=true->kC p (σ.t t)->kC p (σ2.t t))(ha:∀ t,n7 t=true->pL p pb (σ.t t)->pL p pb (σ2.t t)):Calm Φ ok sH n7 p pb σ2 o:=by
 rcases h with h|h|⟨ty,t,y,h1,h2,h3,h4⟩|⟨x,y,t,t',h1,h2,hn,h3⟩
 ·exact .inl h
 ·exact h.elim
 ·exact .inr (.inr (.inl ⟨ty,t,y,h1,h2,h3,hs t h3 h4⟩))
 ·exact .inr (.inr (.inr ⟨x,y,t,t',h1,h2,hn,ha x h2 h3⟩))
theorem Ni{ops:Array Oper}(hm:pK o=true)(hw:gG σ ops o=some true){τ:S}(h:dN P N Φ ops σ o some=some τ):∃ (e:Nat) (x:bg) (u:A),o.dst=some e/\e<20000/\qw x/\oS e u/\τ=cY e x u σ/\
  ∀σ2,gG σ2 ops o=some true->(∀y∈o.op.operands,aH σ2 y=aH σ y)->dN P N Φ ops σ2 o some=some (cY e x u σ2):=by
 have bE:gF o.op=false->∀ σ2,gG σ2 ops o=some true->dN P N Φ ops σ2 o some=ju P N Φ σ2 o some:=by
  intro hv σ2 xR;unfold dN;rw[xR];simp only;unfold dU;rw[hv,au]
 have bsl:∀y:V,qw (.sl y):=λy=>⟨λ_=>rfl,λ_ _=>rfl⟩
 unfold pK at hm;rw[bx]at hm;obtain⟨Uy,Es⟩:=hm;split at Es
 ·rename_i e he;have bW:e<20000:=cT Es;split at Uy
  ·rename_i t ht;have hr:=bE (by rw[ht];rfl);rw[hr σ hw]at h;simp only[ju,ht,fM,he]at h;unfold tw at h;split at h
   ·rename_i z hz;unfold jF at h;cases hN:Nat.blt e N with
    |false=>rw[hN]at h;cases h
    | true=>
     rw[hN,aq]at h;injection h with h;have h1:∀(n:Nat) v,(jE v).drop n=jE v:=λn v=>by unfold jE;split<;>rfl
     have h2:∀(ns cn:af Nat) v,(jE v).cL ns cn=jE v:=λns cn v=>by unfold jE;split<;>rfl
     refine⟨e,.aC (z.cells.toList.map jE),.aK e 0,he,bW,⟨λn=>?_,λns cn=>?_⟩,.inl rfl,h.symm,λσ2 xR _=>(hr σ2 xR).trans ?_⟩
     ·simp only[bg.drop,List.map_map];congr 1;exact mK λv _=>h1 n v
     ·simp only[bg.cL,List.map_map];congr 1;exact mK λv _=>h2 ns cn v
     ·simp only[ju,ht,fM,he];unfold tw jF;rw[hz,hN];rfl
   ·cases h
  ·rename_i t len parts ht;have hr:=bE (by rw[ht];rfl);rw[hr σ hw]at h;have hn:pH t=false:=by simpa using Uy
   simp only[ju,ht,fM,he,hn,au]at h;obtain⟨y,h1,h2⟩:=T7 h;injection h1 with h1
   refine⟨e,.sl y,.lf (.own [e]),he,bW,bsl y,.inr rfl,h1.symm,λσ2 xR dc=>(hr σ2 xR).trans ?_⟩
   simp only[ju,ht,fM,he,hn,au]
   refine(h2 σ2 λq hq=>dc _ ?_).at_ _
   rw[ht];simp only[Op.operands];exact List.mem_toArray.2 (List.mem_map_of_mem (f:=(·.2)) hq)
  ·rename_i t l c ht;have hr:=bE (by rw[ht];rfl);rw[hr σ hw]at h;simp only[ju,ht,fM,he]at h;obtain⟨y,h1,h2⟩:=T6 h;injection h1 with h1
   refine⟨e,.sl y,.lf (.own [e]),he,bW,bsl y,.inr rfl,h1.symm,λσ2 xR dc=>(hr σ2 xR).trans ?_⟩
   simp only[ju,ht,fM,he];rw[dc l (by rw[ht];simp[Op.operands]),dc c (by rw[ht];simp[Op.operands])];exact(h2 σ2).at_ _
  ·cases Uy
 ·cases Es
theorem Nj{d:Nat}{t:TypeId}{y z:A}{τ:S}(h:q5 P N σ d t y z some=some τ):∃ (r:Nat) (v:V),τ=((σ.drop r).root r (.sl v)).set d (.lf (.own [r]))/\(r=d\/y = .lf (.own [r]))/\
  ∀σ2:S,(∀(k:V->ak S),qX σ2 z k=qX σ z k)->(∀r v,y = .lf (.own [r])->σ.m r=some (.sl v)->σ2.m r=some (.sl v))->q5 P N σ2 d t y z some=some (((σ2.drop r).root r (.sl v)).set d (.lf (.own [r]))):=by
 unfold q5 at h;split at h
 ·rename_i e tc gE;cases hc:(Nat.beq (full tc) 0&&(zeroOf P e).any (λz=>Nat.beq z.cells.size (aB tc)))with
  |false=>rw[hc]at h;cases h
  | true=>
   rw[hc,aq]at h;obtain⟨yv,h2,hd⟩:=T4 h;clear h;split at h2
   ·cases h2
   ·rename_i l2 iA;split at h2
    ·cases hL:bH l2.length with
     |false=>rw[hL]at h2;cases h2
     | true=>
      rw[hL,aq]at h2;cases hN:Nat.blt d N with
      |false=>unfold jF at h2;rw[hN]at h2;cases h2
      | true=>
       have h3:=h2;unfold jF at h3;rw[hN,aq]at h3;injection h3 with h3
       refine⟨d,.sl tc 2 false l2,h3.symm,.inl rfl,λσ2 hz Es=>?_⟩
       simp only[q5,gE,hc,aq];refine(hz _).trans ((hd.at_ _).trans ?_);simp only[iA,hL,aq];unfold jF;rw[hN,aq]
    ·rename_i rr;split at h2
     ·rename_i t' o q l hm;split at h2
      ·rename_i gw;cases hL:(Nat.blt d N&&(Nat.blt rr N || Nat.ble 60000 rr)&&bH (l.length+l2.length))with
       |false=>rw[hL]at h2;cases h2
       | true=>
        rw[hL,aq]at h2;injection h2 with h2
        refine⟨rr,_,h2.symm,.inr rfl,λσ2 hz Es=>?_⟩
        simp only[q5,gE,hc,aq];refine(hz _).trans ((hd.at_ _).trans ?_);simp only[iA,Es rr _ rfl hm,aG gw,hL,aq]
      ·cases h2
     ·cases h2
    ·cases h2
 ·cases h
theorem Uz(h:isApp o=true):∃ x y t t',o.op = .call ⟨.builtin .append,⟨[x,y]⟩,⟨[t,t']⟩⟩/\pH t=false/\Nat.beq t t'=true/\B6 o.dst t x=false:=by
 unfold isApp at h;split at h
 ·rw[bx,bx]at h;exact⟨_,_,_,_,by assumption,by simpa using h.1.1,h.1.2,by simpa using h.2⟩
 ·cases h
theorem HU{x y:Operand}{t t':TypeId}(ho:o.op = .call ⟨.builtin .append,⟨[x,y]⟩,⟨[t,t']⟩⟩)(hn:pH t=false)(gw:Nat.beq t t'=true)(hk:B6 o.dst t x=false)(σ:S):dU P N Φ σ o some=fM o λd=>q5 P N σ d t (aH σ x) (aH σ y) some:=by
 unfold dU;rw[show gF o.op=false by rw[ho];rfl,au];simp only[ju,ho,hn,gw,au,aq];unfold fM;cases hd:o.dst with
 |none=>rfl
 | some d=>
  rw[hd]at hk;have hk:HI t d x=false:=hk;simp only[hk,au]
theorem amY{τ:S}{x:Tmp}{y:Operand}{t t':TypeId}(ho:o.op = .call ⟨.builtin .append,⟨[.tmp x,y]⟩,⟨[t,t']⟩⟩)(hn:pH t=false)(gw:Nat.beq t t'=true)(hk:B6 o.dst t (.tmp x)=false)(hp:∀ n,fH o n=true->p n=true/\pb n=true)(jk:pL p pb (σ.t x))(h:dU P N Φ σ o some=some τ):Nonempty (uL P N Φ o p pb σ τ):=by
 rw[HU ho hn gw hk]at h;obtain⟨d,jT,h⟩:=jl h;obtain⟨r,v,ep,hr,oT⟩:=Nj h;have Nk:p r=true/\pb r=true:=by
  rcases hr with hr|hr
  ·rw[hr];exact hp d (by unfold fH;rw[jT,ho];exact Nat.beq_refl d)
  ·exact jk r hr
 refine⟨{ G:=λσ=>(σ.drop r).root r (.sl v),u:=.lf (.own [r]),eq:=by rw[jT];exact ep,run:=λσ2 dc hm=>?_,grow:=λσ=>.root r _ Nk.1 Nk.2 (.refl σ),set:=λσ e v' hv=>(by rw[S.drop_set r (A.wh hv Nk.1 Nk.2)];rfl),bp:=λha=>(by rw[isApp,ho]at ha;simp[hn,gw,hk]at ha) }⟩
 rw[HU ho hn gw hk];unfold fM;rw[jT];simp only;rw[dc (.tmp x) (by rw[ho];simp[Op.operands,Call.operands]),dc y (by rw[ho];simp[Op.operands,Call.operands]),oT σ2 (λk=>amD hm _ k) (λr' v' _ h'=>by rw[hm];exact h')];rfl
theorem amZ[Inhabited Wd](cy:ir P Φ){ok:Nat->Nat->Bool}{sH n7 n8:Nat->Bool}(hX:∀ x,n8 x=true->kC p (σ.t x)){ops:Array Oper}{oi oj:Oper}{v:A}{τ:S}(hF:n9 P ops oi p pb v σ)(ha:oi.apart ops oj=true)(ht:Calm Φ ok sH n7 p pb σ oj)(hp:∀ n,fH oj n=true->p n=true/\pb n=true)
  (h:dN P N Φ ops (gX σ oi.dst v) oj some=some τ):∃ aA,dN P N Φ ops σ oj some=some aA/\τ=gX aA oi.dst v/\n9 P ops oi p pb v aA/\(isApp oj=false->∀ t r j,σ.t t = .aK r j->oj.dst≠some t->fH oj r=false->aA.t t = .aK r j)/\
   (∀t,kC p (σ.t t)->(oj.dst≠some t\/(we oj=true/\p t=true)\/∃s x f,oj.op = .fieldAddr s (.tmp x) f/\n8 x=true)->kC p (aA.t t))/\
   ∀t,pL p pb (σ.t t)->(oj.dst≠some t\/(pK oj=true/\p t=true/\pb t=true)\/(isApp oj=true\/Ag Φ oj=true))->pL p pb (aA.t t):=by
 obtain⟨a1,a2,a3⟩:=Oper.apart_spec ha;have Et:∀ (σ:S) (u:A) t,oj.dst≠some t->(gX σ oj.dst u).t t=σ.t t:=by
  intro σ u t ht;cases hd:oj.dst with
  |none=>rfl
  |some d=>exact cV _ _ _ (by rintro rfl;exact ht hd)
 have Eu:∀ aA,dN P N Φ ops σ oj some=some aA->∀ t,we oj=true->oj.dst=some t->p t=true->kC p (aA.t t):=by
  intro aA dV t Eu hd Uf;obtain⟨ty,e,h1,h2,h3,_⟩:=abA Eu;rw[h3]at hd;injection hd with hd;subst hd;obtain⟨x,_,e1,_⟩:=amX h1 h2 h3 dV;rw[e1];show kC p (cB _ e (.aK e 0) e);rw[cG];exact Uf
 have fin:∀ aA,dN P N Φ ops σ oj some=some aA->(∀ t,oj.dst≠some t->kC p (σ.t t)->kC p (aA.t t))->∀ t,kC p (σ.t t)->(oj.dst≠some t\/(we oj=true/\p t=true)\/∃ s x f,oj.op = .fieldAddr s (.tmp x) f/\n8 x=true)->kC p (aA.t t):=by
  intro aA dV hk t ht UA;rcases UA with br|⟨h1,h2⟩|⟨s,x,f,h1,h2⟩
  ·exact hk t br ht
  ·by_cases hd:oj.dst=some t
   ·exact Eu aA dV t h1 hd h2
   ·exact hk t hd ht
  ·by_cases hd:oj.dst=some t
   ·unfold dN at dV;split at dV
    ·unfold dU at dV;rw[show gF oj.op=true by rw[h1];rfl,aq]at dV;rw[h1]at dV;simp only[gy]at dV;have hx:=hX x h2;have hx:kC p (aH σ (.tmp x)):=hx;generalize aH σ (.tmp x)=z at hx dV;have key:∀ v,jD N σ oj.dst v some=some aA->kC p v->kC p (aA.t t):=by
      intro v hv hA;obtain⟨g1,_⟩:=mC hv;injection g1 with g1;rw[<-g1,hd];show kC p (cB σ.t t v t);rw[cG];exact hA
     unfold vM at dV;split at dV
     ·cases dV
     ·split at dV
      ·split at dV
       ·exact key _ dV hx
       ·exact key _ dV trivial
       ·exact hx.elim
       ·cases dV
      ·cases dV
    ·obtain⟨g1,_⟩:=mC dV;injection g1 with g1;rw[<-g1,hd];show kC p (cB σ.t t .skip t);rw[cG];trivial
    ·cases dV
   ·exact hk t hd ht
 have am0:=ht;have abB:∀ aA,dN P N Φ ops σ oj some=some aA->(∀ t,oj.dst≠some t->pL p pb (σ.t t)->pL p pb (aA.t t))->∀ t,pL p pb (σ.t t)->(oj.dst≠some t\/(pK oj=true/\p t=true/\pb t=true)\/(isApp oj=true\/Ag Φ oj=true))->pL p pb (aA.t t):=by
  intro aA dV hk t ht UA;rcases UA with br|⟨h1,h2⟩|am1|Cc
  ·exact hk t br ht
  ·by_cases hd:oj.dst=some t
   ·cases hw:gG σ ops oj with
    |none=>unfold dN at dV;rw[hw]at dV;cases dV
    | some b=>
     cases b with
     | true=>
      obtain⟨e,x,u,g1,g2,g3,g4,g5,_⟩:=Ni h1 hw dV;rw[hd]at g1;injection g1 with g1;subst g1;rw[g5];intro r hr;have hr:cB _ t u t = .lf (.own [r]):=hr;rw[cG]at hr;rcases g4 with g4|g4
      ·rw[g4]at hr;cases hr
      ·rw[g4]at hr;injection hr with hr;injection hr with hr;injection hr with hr;subst hr;exact h2
     | false=>
      unfold dN at dV;rw[hw]at dV;obtain⟨g1,_⟩:=mC dV;injection g1 with g1;rw[<-g1,hd];intro r hr;have hr:cB σ.t t .skip t = .lf (.own [r]):=hr;rw[cG]at hr;cases hr
   ·exact hk t hd ht
  ·by_cases hd:oj.dst=some t
   ·obtain⟨x,y,t1,t2,g1,g2,g3,g4⟩:=Uz am1;have hT:pL p pb (aH σ x):=by
     rcases am0 with q|q|⟨ty,tt,yy,q1,_⟩|⟨x',y',t1',t2',q1,q2,q3,q4⟩
     ·rw[g1]at q;cases q
     ·exact q.elim
     ·rw[g1]at q1;cases q1
     ·rw[g1]at q1;injection q1 with q1;injection q1 with _ q1 _;injection q1 with q1;injection q1 with q1 _;subst q1;exact q4
    cases hw:gG σ ops oj with
    |none=>unfold dN at dV;rw[hw]at dV;cases dV
    | some b=>
     cases b with
     | true=>
      unfold dN at dV;rw[hw]at dV;have dV:dU P N Φ σ oj some=some aA:=dV;rw[HU g1 g2 g3 g4]at dV;obtain⟨d,jT,dV⟩:=jl dV;rw[hd]at jT;injection jT with jT;subst jT;obtain⟨r,v,ep,hr,_⟩:=Nj dV;rw[ep];intro r' dG;have dG:cB ((σ.drop r).root r (.sl v)).t t (.lf (.own [r])) t = .lf (.own [r']):=dG;rw[cG]at dG;injection dG with dG;injection dG with dG;injection dG with dG;subst dG;rcases hr with hr|hr
      ·rw[hr];exact hp t (by unfold fH;rw[hd,g1];exact Nat.beq_refl t)
      ·exact hT r hr
     | false=>
      unfold dN at dV;rw[hw]at dV;obtain⟨g1,_⟩:=mC dV;injection g1 with g1;rw[<-g1,hd];intro r hr;have hr:cB σ.t t .skip t = .lf (.own [r]):=hr;rw[cG]at hr;cases hr
   ·exact hk t hd ht
  ·by_cases hd:oj.dst=some t
   ·cases hw:gG σ ops oj with
    |none=>unfold dN at dV;rw[hw]at dV;cases dV
    | some b=>
     cases b with
     | true=>
      unfold dN at dV;rw[hw]at dV;have dV:dU P N Φ σ oj some=some aA:=dV;unfold Ag at Cc;split at Cc
      ·rename_i f args gf ho;split at Cc
       ·rename_i c hc;unfold dU at dV;rw[show gF oj.op=false by rw[ho];rfl,au]at dV;simp only[ju,ho,hc]at dV;obtain⟨d,jT,dV⟩:=jl dV;rw[hd]at jT;injection jT with jT;subst jT;obtain⟨res,gp,h1,h2,_⟩:=HC (cy f _ hc).2 dV;injection h2 with h2;subst h2;have eS:∀ n,1000000000100000+1000*t<=n->p n=true/\pb n=true:=λn hn=>hp n (by unfold fH;rw[hd,ho];exact mJ hn)
        intro r hr;unfold qt at h1;cases res with
        | one q=>
         simp only at h1;split at h1
         ·rename_i y hy;injection h1 with h1;rw[<-h1]at hr;have hr:cB _ t y t=A.lf (Lf.own [r]):=hr;rw[cG]at hr;subst hr;obtain⟨b,vs⟩:=q;cases b with
          |true=>cases hy
          | false=>
           match vs,hy with
           | [v],hy=>
            have hy:some (A.lf (bif v.az then Lf.v v else Lf.own [1000000000100000+1000*t]))=some (A.lf (Lf.own [r])):=hy;injection hy with hy;injection hy with hy;cases hf:v.az with
            |true=>rw[hf]at hy;cases hy
            | false=>
             rw[hf]at hy;injection hy with hy;injection hy with hy;subst hy;exact eS _ (gj _)
         ·cases h1
        | cU ps=>
         injection h1 with h1;rw[<-h1]at hr;have hr:cB _ t _ t=A.lf (Lf.own [r]):=hr;rw[cG]at hr;cases hr
       ·cases Cc
      ·cases Cc
     | false=>
      unfold dN at dV;rw[hw]at dV;obtain⟨g1,_⟩:=mC dV;injection g1 with g1;rw[<-g1,hd];intro r hr;have hr:cB σ.t t .skip t = .lf (.own [r]):=hr;rw[cG]at hr;cases hr
   ·exact hk t hd ht
 unfold dN at h;rw[amU a1]at h;split at h
 ·rename_i hw;have am2:Nonempty (uL P N Φ oj p pb (gX σ oi.dst v) τ):=by
   rcases ht with ht|ht|⟨ty,t,y,h1,h2,h3,h4⟩|⟨x,y,t1,t2,h1,h2,hn,h3⟩
   ·exact amR cy ht hp h
   ·exact ht.elim
   ·refine amW h1 h2 ?_ h;have e1:aH (gX σ oi.dst v) (.tmp t)=aH σ (.tmp t):=Uw a1 v (by rw[h1];simp[Op.operands]);have e1:(gX σ oi.dst v).t t=σ.t t:=e1;rw[e1];exact h4
   ·refine amY h1 hn.1 hn.2.1 hn.2.2 hp ?_ h;have e1:aH (gX σ oi.dst v) (.tmp x)=aH σ (.tmp x):=Uw a1 v (by rw[h1];simp[Op.operands,Call.operands]);have e1:(gX σ oi.dst v).t x=σ.t x:=e1;rw[e1];exact h3
  obtain⟨G,u,e,hr,hg,hs,hbp⟩:=am2;have rA:dN P N Φ ops σ oj some=some (gX (G σ) oj.dst u):=by
   unfold dN;rw[hw];exact hr σ (λx hx=>(Uw a1 v hx).symm) (amT _ _).symm
  refine⟨gX (G σ) oj.dst u,rA,?_,(hF.grow (hg σ)).put a3,λv8 t r j ht br eS=>?_,fin _ rA λt br ht=>?_,abB _ rA λt br ht=>?_⟩
  ·refine e.trans ?_;have:∀ dst,G (gX σ dst v)=gX (G σ) dst v:=by
    intro dst;cases dst with
    |none=>rfl
    |some d=>exact hs σ d v hF.nr
   rw[this];exact abz _ _ a2
  ·rw[Et _ _ t br];exact hbp v8 σ t r j ht eS
  ·rw[Et _ _ t br];exact(hg σ).st ht
  ·rw[Et _ _ t br];exact(hg σ).tg ht
 ·rename_i hw;obtain⟨h1,h2⟩:=mC h;injection h1 with h1;have rA:dN P N Φ ops σ oj some=some (gX σ oj.dst .skip):=by
   unfold dN;rw[hw];exact(h2 σ).at_ _
  exact⟨gX σ oj.dst .skip,rA,by rw[<-h1];exact abz _ _ a2,hF.put a3,λ_ t r j ht br _=>(by rw[Et _ _ t br];exact ht),fin _ rA λt br ht=>(by rw[Et _ _ t br];exact ht),abB _ rA λt br ht=>(by rw[Et _ _ t br];exact ht)⟩
 ·cases h
def Any(P:Program)(N:Nat)(Φ:fo)(ops:Array Oper)(K:S->Prop):Nat->Nat->S->Prop
 |0,L,σ=>(∀j,nE ops L j=false)/\K σ
 |f+1,L,σ=>((∀j,nE ops L j=false)->K σ)/\∀j,nE ops L j=true->∃o τ,ops[j]?=some o/\dN P N Φ ops σ o some=some τ/\Any P N Φ ops K f (L |||2 ^ j) τ
theorem tM(L i j:Nat):(L ||| 2 ^ i).testBit j=(L.testBit j || decide (i=j)):=by
 rw[Nat.testBit_or,Nat.testBit_two_pow]
theorem HV{ops:Array Oper}{L j:Nat}:nE ops L j=true ↔ L.testBit j=false/\∃ o,ops[j]?=some o/\∀ e∈o.after,Region.binds .any e=true->L.testBit e.on=true:=by
 unfold nE;rw[bx,nq];refine and_congr Iff.rfl ?_;cases ho:ops[j]? with
 |none=>simp
 | some o=>
  simp only[dQ,gl,exists_eq_left'];constructor
  ·intro h e he hb;have:=h e (by simpa using he);rw[hb]at this
   simpa using this
  ·intro h e he;cases hb:Region.binds .any e with
   |false=>rfl
   |true=>simpa using h e (by simpa using he) hb
theorem UB{ops:Array Oper}{L i j:Nat}(h:nE ops L j=true)(br:j≠i):nE ops (L ||| 2 ^ i) j=true:=by
 rw[HV]at h ⊢;obtain⟨h0,o,ho,oT⟩:=h
 refine⟨?_,o,ho,λe he hb=>?_⟩
 ·rw[tM,h0];simpa using λh=>br h.symm
 ·rw[tM,oT e he hb];rfl
theorem n9.step{ops:Array Oper}{oi:Oper}{v:A}(hF:n9 P ops oi p pb v σ)(hN:∀ σ:S,jD N σ oi.dst v some=some (gX σ oi.dst v)):dN P N Φ ops σ oi some=some (gX σ oi.dst v):=by
 unfold dN;rcases hF with ⟨h1,h2,h3,_,_,_⟩|⟨h1,h2⟩
 ·rw[h1];show dU P N Φ σ oi some=_;unfold dU;rw[h2,aq];exact(h3.at_ _).trans (hN σ)
 ·rw[h1,<-h2];exact hN σ
theorem UC{K:S->Prop}{ops:Array Oper}{i W:Nat}{oi:Oper}(hi:ops[i]?=some oi)(hW:∀ j oj,ops[j]?=some oj->W.testBit j=true->∃ e∈oj.after,Region.binds .any e=true/\(e.on=i\/W.testBit e.on=true))(E:S->S)(I:Nat->S->Prop)
  (r1:∀L σ,I L σ->dN P N Φ ops σ oi some=some (E σ))
  (r2:∀L σ j oj τ,I L σ->ops[j]?=some oj->j≠i->L.testBit j=false->W.testBit j=false->dN P N Φ ops (E σ) oj some=some τ->∃aA,dN P N Φ ops σ oj some=some aA/\τ=E aA/\I (L |||2 ^ j) aA):
  ∀(f L:Nat) (σ:S),(∀j,W.testBit j=true->L.testBit j=false)->nE ops L i=true->I L σ->Any P N Φ ops K f (L |||2 ^ i) (E σ)->Any P N Φ ops K (f+1) L σ:=by
 intro f
 induction f with
 | zero=>
  intro L σ uM hr hI H
  refine⟨λh=>absurd (h i) (by rw[hr];simp),λj hj=>?_⟩
  by_cases fq:j=i
  ·subst fq;exact⟨oi,_,hi,r1 L σ hI,H⟩
  ·have:=UB hj fq;rw[H.1 j]at this;cases this
 | succ f ih=>
  intro L σ uM hr hI H
  refine⟨λh=>absurd (h i) (by rw[hr];simp),λj hj=>?_⟩
  by_cases fq:j=i
  ·subst fq;exact⟨oi,_,hi,r1 L σ hI,H⟩
  ·obtain⟨oj,τ,dW,ep,H'⟩:=H.2 j (UB hj fq);obtain⟨fS,oj',Nl,oT⟩:=HV.1 hj;rw[dW]at Nl;injection Nl with Nl;subst Nl;have gz:W.testBit j=false:=by
    cases gz:W.testBit j with
    |false=>rfl
    | true=>
     obtain⟨e,he,hb,lT⟩:=hW j oj dW gz;have h1:=oT e he hb;rcases lT with lT|lT
     ·rw[lT,(HV.1 hr).1]at h1;cases h1
     ·rw[uM _ lT]at h1;cases h1
   obtain⟨aA,hs,Ak,hI'⟩:=r2 L σ j oj τ hI dW fq fS gz ep
   refine⟨oj,aA,dW,hs,ih (L |||2 ^ j) aA (λk hk=>?_) (UB hr (Ne.symm fq)) hI' ?_⟩
   ·rw[tM,uM k hk];have:j≠k:=by rintro rfl;rw[gz]at hk;cases hk
    simpa using this
   ·rw[<-Ak];have:L ||| 2 ^ j ||| 2 ^ i=L ||| 2 ^ i ||| 2 ^ j:=by rw[Nat.or_assoc,Nat.or_comm (2 ^ j),<-Nat.or_assoc]
    rw[this];exact H'
theorem am3[Inhabited Wd](cy:ir P Φ){ok:Nat->Nat->Bool}{sH n7 n8:Nat->Bool}{K:S->Prop}{ops:Array Oper}{i W:Nat}{oi:Oper}{v:A}(hi:ops[i]?=some oi)(hN:∀ σ:S,jD N σ oi.dst v some=some (gX σ oi.dst v))
  (hW:∀j oj,ops[j]?=some oj->W.testBit j=true->∃e∈oj.after,Region.binds .any e=true/\(e.on=i\/W.testBit e.on=true)) (f L:Nat) (σ:S)
  (eH:∀t r,ok t r=true->∀j oj,ops[j]?=some oj->j≠i->L.testBit j=false->W.testBit j=false->oj.dst≠some t/\fH oj r=false/\isApp oj=false)
  (Nm:∀x,n8 x=true->∀j oj,ops[j]?=some oj->j≠i->L.testBit j=false->W.testBit j=false->oj.dst≠some x) (hX:∀x,n8 x=true->kC p (σ.t x))
  (Nn:∀t,sH t=true->∀j oj,ops[j]?=some oj->j≠i->L.testBit j=false->W.testBit j=false->oj.dst≠some t\/(we oj=true/\p t=true)\/∃s x f,oj.op = .fieldAddr s (.tmp x) f/\n8 x=true)
  (Np:∀t,n7 t=true->∀j oj,ops[j]?=some oj->j≠i->L.testBit j=false->W.testBit j=false->oj.dst≠some t\/(pK oj=true/\p t=true/\pb t=true)\/(isApp oj=true\/Ag Φ oj=true))
  (Cd:∀j oj,ops[j]?=some oj->j≠i->L.testBit j=false->W.testBit j=false->oi.apart ops oj=true/\Calm Φ ok sH n7 p pb σ oj/\∀n,fH oj n=true->p n=true/\pb n=true)
  (uM:∀j,W.testBit j=true->L.testBit j=false) (hr:nE ops L i=true) (hF:n9 P ops oi p pb v σ) (H:Any P N Φ ops K f (L |||2 ^ i) (gX σ oi.dst v)):Any P N Φ ops K (f+1) L σ:=by
 refine UC hi hW (λσ=>gX σ oi.dst v)
  (λL σ=>n9 P ops oi p pb v σ/\(∀ t r,ok t r=true->∀ j oj,ops[j]?=some oj->j≠i->L.testBit j=false->W.testBit j=false->oj.dst≠some t/\fH oj r=false/\isApp oj=false)/\
   ((∀x,n8 x=true->∀j oj,ops[j]?=some oj->j≠i->L.testBit j=false->W.testBit j=false->oj.dst≠some x)/\∀x,n8 x=true->kC p (σ.t x))/\
   (∀t,sH t=true->∀j oj,ops[j]?=some oj->j≠i->L.testBit j=false->W.testBit j=false->oj.dst≠some t\/(we oj=true/\p t=true)\/∃s x f,oj.op = .fieldAddr s (.tmp x) f/\n8 x=true)/\
   (∀t,n7 t=true->∀j oj,ops[j]?=some oj->j≠i->L.testBit j=false->W.testBit j=false->oj.dst≠some t\/(pK oj=true/\p t=true/\pb t=true)\/(isApp oj=true\/Ag Φ oj=true))/\
   ∀j oj,ops[j]?=some oj->j≠i->L.testBit j=false->W.testBit j=false->oi.apart ops oj=true/\Calm Φ ok sH n7 p pb σ oj/\∀n,fH oj n=true->p n=true/\pb n=true)
  (λL σ h=>h.1.step hN) (λL σ j oj τ h dW fq fS gz ep=>?_) f L σ uM hr ⟨hF,eH,⟨Nm,hX⟩,Nn,Np,Cd⟩ H
 obtain⟨hF,eH,⟨Nm,hX⟩,Nn,Np,Cd⟩:=h;obtain⟨c1,c2,c3⟩:=Cd j oj dW fq fS gz;obtain⟨aA,hs,Ak,hF',xw,jk,hta⟩:=amZ (n8:=n8) cy hX hF c1 c2 c3 ep;have hL:∀ k,(L ||| 2 ^ j).testBit k=false->L.testBit k=false:=by
  intro k hk;rw[tM,pV]at hk;exact hk.1
 refine⟨aA,hs,Ak,hF',λt r ht k sI hk sJ qx uN=>eH t r ht k sI hk sJ (hL k qx) uN,⟨λx hx k sI hk sJ qx uN=>Nm x hx k sI hk sJ (hL k qx) uN,λx hx=>jk x (hX x hx) (.inl (Nm x hx j oj dW fq fS gz))⟩,λt ht k sI hk sJ qx uN=>Nn t ht k sI hk sJ (hL k qx) uN,λt ht k sI hk sJ qx uN=>Np t ht k sI hk sJ (hL k qx) uN,λk sI hk sJ qx uN=>?_⟩
 obtain⟨d1,d2,d3⟩:=Cd k sI hk sJ (hL k qx) uN
 refine⟨d1,d2.iz (λt r j' ht h=>?_) (λt h ht=>jk t ht (Nn t h j oj dW fq fS gz)) (λt h ht=>hta t ht (Np t h j oj dW fq fS gz)),d3⟩
 obtain⟨e1,e2,e3⟩:=eH t r h j oj dW fq fS gz;exact xw e3 t r j' ht e1 e2
end
end Go.Proofs.YtecofnkoloihpaaGreat
namespace Go.Proofs.YtecofnkoloihpaaGreat
open Go.RowKit
set_option linter.unusedVariables false
section
variable {P:Program} {w w':World} {w0:Wd} {B N:Nat} {aj aD:bM} {ρ ρ':Nat->Loc} {σ:S} {a:Act} {X:Type} {d e:Nat} {r:X} {o:Oper} {Φ:fo} {p:Nat->Bool} {x:bg} {u:A}
theorem Lf.sK(l:Lf)(a b:Nat):(l.drop a).drop b=(l.drop b).drop a:=by
 cases l with
 | own k=>
  have e1:∀n,Lf.drop n (.own k)=(bif bP n k then .dead else .own k):=λ_=>rfl
  rw[e1 a,e1 b];cases ha:bP a k<;>cases hb:bP b k<;>simp[Lf.drop,ha,hb]
 |v x=>rfl
 |dead=>rfl
theorem qu.sK(l:af Lf)(a b:Nat):(l.map (Lf.drop a)).map (Lf.drop b)=(l.map (Lf.drop b)).map (Lf.drop a):=by
 rw[List.map_map,List.map_map];exact mK λx _=>Lf.sK x a b
theorem A.sK(y:A)(a b:Nat):(y.drop a).drop b=(y.drop b).drop a:=by
 cases y with
 |lf x=>exact bJ A.lf (Lf.sK x a b)
 |agg cs=>exact bJ A.agg (qu.sK cs a b)
 | cU xs=>
  refine bJ A.cU ?_;rw[List.map_map,List.map_map]
  refine mK λq _=>?_
  simp only[Function.comp];rw[qu.sK]
 | ptr k=>
  have e1:∀n,A.drop n (.ptr k)=(bif bP n k then .undef else .ptr k):=λ_=>rfl
  rw[e1 a,e1 b];cases ha:bP a k<;>cases hb:bP b k<;>simp[A.drop,ha,hb]
 | view k s i j=>
  have e1:∀n,A.drop n (.view k s i j)=(bif bP n k then .undef else .view k s i j):=λ_=>rfl
  rw[e1 a,e1 b];cases ha:bP a k<;>cases hb:bP b k<;>simp[A.drop,ha,hb]
 | pk r j=>
  have e1:∀n,A.drop n (.pk r j)=(bif Nat.beq r n then .undef else .pk r j):=λ_=>rfl
  rw[e1 a,e1 b];cases ha:Nat.beq r a<;>cases hb:Nat.beq r b<;>simp only[aq,au,A.drop,ha,hb]
 | aK r j=>
  have e1:∀n,A.drop n (.aK r j)=(bif Nat.beq r n then .undef else .aK r j):=λ_=>rfl
  rw[e1 a,e1 b];cases ha:Nat.beq r a<;>cases hb:Nat.beq r b<;>simp only[aq,au,A.drop,ha,hb]
 | fn f cap=>
  have e1:∀n,A.drop n (.fn f cap)=(bif cap.any (λp=>Nat.beq p.1 n)then .undef else .fn f cap):=λ_=>rfl
  rw[e1 a,e1 b];cases ha:cap.any (λp=>Nat.beq p.1 a)<;>cases hb:cap.any (λp=>Nat.beq p.1 b)<;>simp only[aq,au,A.drop,ha,hb]
 |_=>rfl
theorem bg.sK(y:bg)(a b:Nat):(y.drop a).drop b=(y.drop b).drop a:=by
 cases y with
 |aC cs=>exact bJ bg.aC (qu.sK cs a b)
 |sl y=>rfl
 |mp l=>rfl
 | gh xs=>
  refine bJ bg.gh ?_;rw[List.map_map,List.map_map];exact mK λx _=>A.sK x a b
theorem Lf.uO(l:Lf)(a:Nat)(ns cn:af Nat):(l.drop a).cL ns cn=(l.cL ns cn).drop a:=by
 cases l with
 | own k=>
  have e1:Lf.drop a (.own k)=(bif bP a k then .dead else .own k):=rfl;have e2:Lf.cL ns cn (.own k)=(bif dz k cn ||(dz k ns && !(Nat.beq k.length 1))then .dead else .own k):=rfl;rw[e1,e2];cases ha:bP a k<;>cases hb:(dz k cn ||(dz k ns && !(Nat.beq k.length 1)))<;>simp only[aq,au,Lf.drop,Lf.cL,ha,hb]
 |v x=>rfl
 |dead=>rfl
theorem qu.uO(l:af Lf)(a:Nat)(ns cn:af Nat):(l.map (Lf.drop a)).map (Lf.cL ns cn)=(l.map (Lf.cL ns cn)).map (Lf.drop a):=by
 rw[List.map_map,List.map_map];exact mK λx _=>Lf.uO x a ns cn
theorem A.uO(y:A)(a:Nat)(ns cn:af Nat):(y.drop a).cL ns cn=(y.cL ns cn).drop a:=by
 cases y with
 |lf x=>exact bJ A.lf (Lf.uO x a ns cn)
 |agg cs=>exact bJ A.agg (qu.uO cs a ns cn)
 | cU xs=>
  refine bJ A.cU ?_;rw[List.map_map,List.map_map]
  refine mK λq _=>?_
  simp only[Function.comp];rw[qu.uO]
 | ptr k=>
  have e1:A.drop a (.ptr k)=(bif bP a k then .undef else .ptr k):=rfl;have e2:A.cL ns cn (.ptr k)=(bif dz k cn ||dz k ns then .undef else .ptr k):=rfl;rw[e1,e2];cases ha:bP a k<;>cases hb:(dz k cn ||dz k ns)<;>simp only[aq,au,A.drop,A.cL,ha,hb]
 | view k s i j=>
  have e1:A.drop a (.view k s i j)=(bif bP a k then .undef else .view k s i j):=rfl;have e2:A.cL ns cn (.view k s i j)=(bif dz k cn ||dz k ns then .undef else .view k s i j):=rfl;rw[e1,e2];cases ha:bP a k<;>cases hb:(dz k cn ||dz k ns)<;>simp only[aq,au,A.drop,A.cL,ha,hb]
 | pk r j=>
  have e1:A.drop a (.pk r j)=(bif Nat.beq r a then .undef else .pk r j):=rfl;have e2:A.cL ns cn (.pk r j)=(bif cX r cn then .undef else .pk r j):=rfl;rw[e1,e2];cases ha:Nat.beq r a<;>cases hb:cX r cn<;>simp only[aq,au,A.drop,A.cL,ha,hb]
 | aK r j=>
  have e1:A.drop a (.aK r j)=(bif Nat.beq r a then .undef else .aK r j):=rfl;have e2:A.cL ns cn (.aK r j)=(bif cX r cn then .undef else .aK r j):=rfl;rw[e1,e2];cases ha:Nat.beq r a<;>cases hb:cX r cn<;>simp only[aq,au,A.drop,A.cL,ha,hb]
 | fn f cap=>
  have e1:A.drop a (.fn f cap)=(bif cap.any (λp=>Nat.beq p.1 a)then .undef else .fn f cap):=rfl;have e2:A.cL ns cn (.fn f cap)=(bif cap.any (λp=>cX p.1 cn)then .undef else .fn f cap):=rfl;rw[e1,e2];cases ha:cap.any (λp=>Nat.beq p.1 a)<;>cases hb:cap.any (λp=>cX p.1 cn)<;>simp only[aq,au,A.drop,A.cL,ha,hb]
 |_=>rfl
theorem bg.uO(y:bg)(a:Nat)(ns cn:af Nat):(y.drop a).cL ns cn=(y.cL ns cn).drop a:=by
 cases y with
 |aC cs=>exact bJ bg.aC (qu.uO cs a ns cn)
 |sl y=>rfl
 |mp l=>rfl
 | gh xs=>
  refine bJ bg.gh ?_;rw[List.map_map,List.map_map];exact mK λx _=>A.uO x a ns cn
theorem UD{a b:Nat}(h:a≠b):Nat.beq a b=false:=by
 cases hb:Nat.beq a b with
 |false=>rfl
 |true=>exact absurd (cr hb) h
theorem oS.drop(h:oS e u){n:Nat}(hn:e≠n):u.drop n=u:=by
 rcases h with rfl|rfl
 ·simp only[A.drop,UD hn,au]
 ·have:bP n [e]=false:=by simp[bP,hn]
  simp only[A.drop,Lf.drop,this,au]
theorem oS.cL(h:oS e u){ns cn:af Nat}(h1:cX e ns=false)(h2:cX e cn=false):u.cL ns cn=u:=by
 rcases h with rfl|rfl
 ·simp only[A.cL,h2,au]
 ·have e1:dz [e] ns=false:=h1;have e2:dz [e] cn=false:=h2;simp only[A.cL,Lf.cL,e1,e2];rfl
theorem sL(k:Nat):(cY e x u σ).t k=if k=e then u else (σ.t k).drop e:=by
 by_cases hk:k=e
 ·subst hk;rw[bB rfl];exact cG _ _ _
 ·rw[cm hk];exact cV _ _ _ hk
theorem oU(n:Nat):(cY e x u σ).m n=if n=e then some x else (σ.m n).map (bg.drop e):=by
 show cB (λr=>bif Nat.beq r e then none else (σ.m r).map (bg.drop e)) e (some x) n=_;by_cases hn:n=e
 ·subst hn;rw[bB rfl,cG]
 ·rw[cm hn,cV _ _ _ hn,UD hn];rfl
theorem UE(c:Nat)(y:bg)(k:Nat):((σ.drop c).root c y).t k=(σ.t k).drop c:=rfl
theorem abC(c:Nat)(y:bg)(n:Nat):((σ.drop c).root c y).m n=if n=c then some y else (σ.m n).map (bg.drop c):=by
 show cB (λr=>bif Nat.beq r c then none else (σ.m r).map (bg.drop c)) c (some y) n=_;by_cases hn:n=c
 ·subst hn;rw[bB rfl,cG]
 ·rw[cm hn,cV _ _ _ hn,UD hn];rfl
theorem abD{c:Nat}(z:V)(hx:qw x)(hu:oS e u)(hc:e≠c):((cY e x u σ).drop c).root c (.sl z)=cY e x u ((σ.drop c).root c (.sl z)):=by
 refine S.ext' (λk=>?_) λn=>?_
 ·rw[UE,sL,sL,UE];by_cases hk:k=e
  ·rw[bB hk,bB hk];exact hu.drop hc
  ·rw[cm hk,cm hk];exact A.sK _ _ _
 ·rw[abC,oU,oU,abC];by_cases hn:n=c
  ·rw[bB hn,cm (by omega),bB hn];rfl
  ·rw[cm hn];by_cases br:n=e
   ·rw[bB br,bB br];simp only[jM,hx.drop]
   ·rw[cm br,cm br,cm hn,Option.map_map,Option.map_map];congr 1;funext y;exact bg.sK y e c
theorem HW(hx:qw x)(hu:oS e u):∀ (xs:af V) (c:Nat) (σ:S),e<c->jG c (cY e x u σ) xs=cY e x u (jG c σ xs)
 |[],c,σ,_=>rfl
 | y :: xs,c,σ,h=>by
  simp only[jG];cases hf:y.az with
  |true=>exact HW hx hu xs (c+1) σ (by omega)
  | false=>
   simp only[au];rw[abD y hx hu (by omega)];exact HW hx hu xs (c+1) _ (by omega)
theorem UF(hx:qw x)(hu:oS e u):∀ (ps:af Pt) (c:Nat) (σ:S),e<c->mT c (cY e x u σ) ps=cY e x u (mT c σ ps)
 |[],c,σ,_=>rfl
 | q :: ps,c,σ,h=>by
  simp only[mT];rw[HW hx hu _ _ _ h];exact UF hx hu ps _ _ (by omega)
theorem Ev{v:A}(hd:d≠e)(hv:v.drop e=v):(cY e x u σ).set d v=cY e x u (σ.set d v):=by
 refine S.ext' (λk=>?_) λn=>?_
 ·show cB (cY e x u σ).t d v k=_;rw[sL];show _=if k=e then u else (cB σ.t d v k).drop e;by_cases hk:k=d
  ·subst hk;rw[cG,cm hd,cG,hv]
  ·rw[cV _ _ _ hk,cV _ _ _ hk,sL]
 ·show (cY e x u σ).m n=_;rw[oU,oU];rfl
theorem am4{v:A}{dst:ak Tmp}(hd:dst≠some e)(hv:v.drop e=v):gX (cY e x u σ) dst v=cY e x u (gX σ dst v):=by
 cases dst with
 |none=>rfl
 |some d=>exact Ev (by rintro rfl;exact hd rfl) hv
theorem am5{ns cn:af Nat}{nr:af (Nat×bg)}(hx:qw x)(hu:oS e u)(h1:cX e ns=false)(h2:cX e cn=false)(h3:∀ q∈nr,q.1≠e/\q.2.drop e=q.2):(cY e x u σ).cL ns cn nr=cY e x u (σ.cL ns cn nr):=by
 have hl:nr.lookup e=none:=by
  cases hl:nr.lookup e with
  |none=>rfl
  |some y=>exact absurd rfl (h3 _ (Ux hl)).1
 refine S.ext' (λk=>?_) λn=>?_
 ·show ((cY e x u σ).t k).cL ns cn=_;rw[sL,sL];by_cases hk:k=e
  ·rw[bB hk,bB hk];exact hu.cL h1 h2
  ·rw[cm hk,cm hk];exact A.uO _ _ _ _
 ·rw[oU];show (match nr.lookup n with | some x=>some x | none=>bif cX n ns || cX n cn then none else ((cY e x u σ).m n).map (bg.cL ns cn))=if n=e then some x else (match nr.lookup n with | some x=>some x | none=>bif cX n ns || cX n cn then none else (σ.m n).map (bg.cL ns cn)).map (bg.drop e);by_cases hn:n=e
  ·subst hn;rw[bB rfl,hl,h1,h2];simp only[Bool.or_false,au,oU,if_true,jM,hx.cL]
  ·rw[cm hn];cases hq:nr.lookup n with
   |some y=>simp only[jM];rw[(h3 _ (Ux hq)).2]
   | none=>
    simp only;cases (cX n ns ||cX n cn)with
    |true=>rfl
    | false=>
     simp only[au];rw[oU,cm hn,Option.map_map,Option.map_map];congr 1;funext y;exact bg.uO y e ns cn
/-! What a call reads. -/
theorem abE{q:af Nat}{k:V->ak X}(h:bP e q=false):gR (cY e x u σ).m q k=gR σ.m q k:=xQ q k h
theorem xS{y:Operand}(h:(aH σ y).nr p=true)(hp:p e=true)(hy:y ≠ .tmp e):aH (cY e x u σ) y=aH σ y:=by
 cases y with
 | tmp t=>
  show (cY e x u σ).t t=σ.t t;rw[sL,cm (by rintro rfl;exact hy rfl)];exact A.nD h hp
 |_=>rfl
theorem UG{l:Lf}{k:V->ak X}(h:l.nr p=true)(hp:p e=true):kK (cY e x u σ) l k=kK σ l k:=by
 cases l with
 |own q=>exact abE (tH h hp)
 |_=>rfl
theorem abF{q:af Nat}{s i j:Nat}{k:V->ak X}(h:gx p q=true)(hp:p e=true):tj (cY e x u σ) q s i j k=tj σ q s i j k:=by
 unfold tj;exact abE (tH h hp)
theorem am6{y:A}{k:V->ak X}(h:y.nr p=true)(hp:p e=true):qX (cY e x u σ) y k=qX σ y k:=by
 cases y with
 |lf l=>exact UG h hp
 |view q s i j=>exact abF h hp
 |_=>rfl
theorem UH(hp:p e=true):∀ (xs:af Lf) (k:af V->ak X),xs.all (Lf.nr p)=true->oF (cY e x u σ) xs k=oF σ xs k
 |[],k,_=>rfl
 | y :: xs,k,h=>by
  rw[List.all_cons,bx]at h;simp only[oF,UG h.1 hp];congr 1;funext z;exact UH hp xs _ h.2
theorem am7{y:A}{k:Pt->ak X}(h:y.nr p=true)(hp:p e=true):nZ (cY e x u σ) y k=nZ σ y k:=by
 cases y with
 |lf l=>simp only[nZ];exact UH hp _ _ (by simpa [A.nr]using h)
 |agg cs=>simp only[nZ];exact UH hp _ _ h
 |view q s i j=>simp only[nZ];exact abF h hp
 |je cs=>cases cs<;>rfl
 |_=>rfl
theorem abG(hp:p e=true):∀ (xs:af Operand) (k:af Pt->ak X),(∀ y∈xs,(aH σ y).nr p=true/\y ≠ .tmp e)->mz (cY e x u σ) xs k=mz σ xs k
 |[],k,_=>rfl
 | y :: xs,k,h=>by
  obtain⟨h1,h2⟩:=h y (.head _);simp only[mz];rw[xS h1 hp h2,am7 h1 hp];congr 1;funext z;exact abG hp xs _ (λy hy=>h y (.tail _ hy))
theorem UI{ns:af Nat}(hp:p e=true):∀ (xs:af Lf) (k:af V->ak X),xs.all (Lf.nr p)=true->tD (cY e x u σ) ns xs k=tD σ ns xs k
 |[],k,_=>rfl
 | y :: xs,k,h=>by
  rw[List.all_cons,bx]at h;simp only[tD,UG h.1 hp];congr 2;funext z;exact UI hp xs _ h.2
theorem abH{d:Nat}:∀ (xs:af Lf),sg (xs.map (Lf.drop d))=sg xs
 |[]=>rfl
 | x :: xs=>by
  have hx:(x.drop d).pl=x.pl:=by
   cases x with
   | own k=>
    show (bif bP d k then Lf.dead else Lf.own k).pl=_;cases bP d k<;>rfl
   |_=>rfl
  simp only[lK,sg,hx,abH xs]
theorem am8{ns:af Nat}{y:A}{k:Pt->ak X}(h:y.nr p=true)(hp:p e=true):sB (cY e x u σ) ns y k=sB σ ns y k:=by
 cases y with
 |lf l=>simp only[sB];exact UI hp _ _ (by simpa [A.nr]using h)
 |agg cs=>simp only[sB];exact UI hp _ _ h
 |mm f cs=>cases cs<;>rfl
 | fn f cap=>
  match cap,h with
  |[],_=>rfl
  |_::_::_,_=>rfl
  | [(r',j)],h=>
   have hr:p r'=false:=by simpa [A.nr]using h
   have br:r'≠e:=by rintro rfl;rw[hp]at hr;cases hr
   simp only[sB,oU,cm br];cases σ.m r' with
   |none=>rfl
   | some z=>
    cases z with
    |aC cs=>simp only[jM,bg.drop,<-List.map_drop,abH]
    |_=>rfl
 |_=>rfl
theorem am9{l:Lf}(h:l.nr p=true)(hp:p e=true):zV (cY e x u σ).m l=zV σ.m l:=by
 cases l with
 | own k=>
  match k with
  |[]=>rfl
  | [q]=>
   have hq:q≠e:=by
    have h:(!p q)=true:=by simpa [Lf.nr,gx]using h
    rintro rfl;rw[hp]at h;cases h
   simp only[zV];rw[oU,cm hq];cases σ.m q with
   |none=>rfl
   |some y=>cases y<;>rfl
  |_::_::_=>rfl
 |v x=>rfl
 |dead=>rfl
theorem abI(hp:p e=true):∀ (ls:af Lf),ls.all (Lf.nr p)=true->uF (cY e x u σ).m ls=uF σ.m ls
 |[],_=>rfl
 | l :: ls,h=>by
  rw[List.all_cons,bx]at h;simp only[uF,am9 h.1 hp,abI hp ls h.2]
theorem abJ{m:Nat->ak bg}:∀ {cs:af Lf} {vs:af (V×ak Nat)},uF m cs=some vs->cs.all (Lf.nr p)=true->∀ v∈vs,∀ q,v.2=some q->p q=false
 |[],vs,h,_=>by injection h with h;subst h;simp
 | c :: cs,vs,h,hf=>by
  rw[List.all_cons,bx]at hf;unfold uF at h;split at h
  ·rename_i v tv h1 h2;injection h with h;subst h;intro u hu q hq;rcases jq.1 hu with rfl | hu
   ·unfold zV at h1;split at h1
    ·injection h1 with h1;rw[<-h1]at hq;cases hq
    ·rename_i q';split at h1
     ·rename_i y _;cases hfy:y.az with
      |true=>rw[hfy]at h1;injection h1 with h1;rw[<-h1]at hq;cases hq
      | false=>
       rw[hfy,au]at h1;injection h1 with h1;rw[<-h1]at hq;injection hq with hq;subst hq;have h3:=hf.1
       simpa [Lf.nr,gx]using h3
     ·cases h1
    ·cases h1
   ·exact abJ h2 hf.2 u hu q hq
  ·cases h
def Nq(p:Nat->Bool):Mu->Prop
 |.aC r cs vs=>p r=false/\cs.all (Lf.nr p)=true/\∀v∈vs,∀q,v.2=some q->p q=false
 |.sl q _=>p q=false
theorem UJ(hp:p e=true):∀ (ps:af PK) (xs:af Operand) (aS:af Mu),(∀ y∈xs,(aH σ y).nr p=true/\y ≠ .tmp e)->(∀ n∈pJ σ ps xs,xP σ p n=true)->oM σ ps xs=some aS->oM (cY e x u σ) ps xs=some aS/\∀ mu∈aS,Nq p mu
 |[],[],aS,_,_,h=>⟨h,by injection h with h;subst h;simp⟩
 |[],_::_,aS,_,_,h=>by cases h
 |_::_,[],aS,_,_,h=>by cases h
 | q :: ps,y :: xs,aS,hy,hl,h=>by
  obtain⟨h1,h2⟩:=hy y (.head _);have kP:∀ n∈pJ σ ps xs,xP σ p n=true:=by
   intro n hn;refine hl n ?_;cases q with
   |v=>exact hn
   |s=>exact hn
   | p t g off=>
    simp only[pJ];split
    ·exact .tail _ hn
    ·exact hn
  unfold oM at h;have iq:∀ z,BN σ q (aH σ y)=some z->BN (cY e x u σ) q (aH (cY e x u σ) y)=some z/\∀ mu,z=some mu->Nq p mu:=by
   intro z hz;rw[xS h1 hp h2];have iG:=BR hz;cases q with
   | v=>
    cases z with
    |some mu=>exact iG.elim
    |none=>exact⟨hz,by simp⟩
   | p t g off=>
    cases z with
    |none=>exact iG.elim
    | some mu=>
     cases mu with
     |sl=>exact iG.elim
     | aC r' cs vs=>
      obtain⟨e1,hm,hg,hlen⟩:=iG;have dG:p r'=false:=by
       rw[e1]at h1;have h1:(!p r')=true:=h1
       simpa using h1
      have br:r'≠e:=by rintro rfl;rw[hp]at dG;cases dG
      have eR:cs.all (Lf.nr p)=true:=by
       have:=hl r' (by simp only[pJ,e1];exact .head _);unfold xP at this;rw[hm]at this;exact this
      have pn:(cY e x u σ).m r'=some (.aC cs):=by
       rw[oU,cm br,hm];simp only[jM,bg.drop,qu.nD eR hp]
      refine⟨?_,λmu iq=>?_⟩
      ·rw[e1];simp only[BN,Nat.beq_refl,aq,pn,abI hp cs eR,hg];have:Nat.blt cs.length 999=true:=mJ hlen;rw[this];rfl
      ·injection iq with iq;subst iq;exact⟨dG,eR,abJ hg eR⟩
   | s t g=>
    cases z with
    |none=>exact iG.elim
    | some mu=>
     cases mu with
     |aC=>exact iG.elim
     | sl q y0=>
      obtain⟨e1,hm,hf⟩:=iG;have hq:p q=false:=by
       rw[e1]at h1;have h1:(!p q)=true:=by simpa [A.nr,Lf.nr,gx]using h1
       simpa using h1
      have br:q≠e:=by rintro rfl;rw[hp]at hq;cases hq
      refine⟨?_,λmu iq=>?_⟩
      ·rw[e1];simp only[BN];rw[oU,cm br,hm];simp only[jM,bg.drop,hf,au]
      ·injection iq with iq;subst iq;exact hq
  split at h
  ·rename_i mu pF k1 k2;injection h with h;subst h;obtain⟨g1,g2⟩:=iq _ k1;obtain⟨f1,f2⟩:=UJ hp ps xs pF (λy h=>hy y (.tail _ h)) kP k2
   refine⟨by simp only[oM,g1,f1],λm hm=>?_⟩
   rcases jq.1 hm with rfl|hm
   ·exact g2 _ rfl
   ·exact f2 m hm
  next pF k1 k2=>injection h with h;subst h;obtain⟨g1,g2⟩:=iq _ k1;obtain⟨f1,f2⟩:=UJ hp ps xs pF (λy h=>hy y (.tail _ h)) kP k2;exact⟨by simp only[oM,g1,f1],f2⟩
  ·cases h
theorem Nr(hp:p e=true)(ns:af Nat):∀ (ps:af PK) (xs:af Operand) (aS:af Mu) (k:oL ps->ak X),(∀ y∈xs,(aH σ y).nr p=true/\y ≠ .tmp e)->mV (cY e x u σ) ns ps xs aS k=mV σ ns ps xs aS k
 |[],[],[],k,_=>rfl
 | .v b t :: ps,y :: xs,aS,k,h=>by
  obtain⟨h1,h2⟩:=h y (.head _);simp only[mV];rw[xS h1 hp h2,am8 h1 hp];congr 1;funext z;congr 1;split
  ·exact Nr hp ns ps xs aS _ (λy hy=>h y (.tail _ hy))
  ·rfl
 | .p t g off :: ps,y :: xs,.aC r' cs vs :: aS,k,h=>by
  simp only[mV];split
  ·exact Nr hp ns ps xs aS _ (λy hy=>h y (.tail _ hy))
  ·rfl
 | .s t g :: ps,y :: xs,.sl q y0 :: aS,k,h=>by
  simp only[mV];split
  ·exact Nr hp ns ps xs aS _ (λy hy=>h y (.tail _ hy))
  ·rfl
 |[],[],_::_,k,_=>rfl
 |[],_::_,_,k,_=>rfl
 |.v _ _::_,[],_,k,_=>rfl
 |.p _ _ _::_,[],_,k,_=>rfl
 |.s _ _::_,[],_,k,_=>rfl
 |.p _ _ _::_,_::_,[],k,_=>rfl
 |.s _ _::_,_::_,[],k,_=>rfl
 |.p _ _ _::_,_::_,.sl _ _::_,k,_=>rfl
 |.s _ _::_,_::_,.aC _ _ _::_,k,_=>rfl
theorem UK{i:Nat}:∀ (vs:af (V×ak Nat)) (j:Nat),(∀ v∈vs,∀ q,v.2=some q->p q=false)->∀ u∈Hp i j vs,p u.1=false
 |[],_,_,u,hu=>by cases hu
 |(y,none)::vs,j,h,u,hu=>UK vs (j+1) (λv hv=>h v (.tail _ hv)) u hu
 | (y,some q) :: vs,j,h,u,hu=>by
  rcases jq.1 hu with rfl|hu
  ·exact h _ (.head _) q rfl
  ·exact UK vs (j+1) (λv hv=>h v (.tail _ hv)) u hu
theorem UL:∀ (aS:af Mu) (i:Nat),(∀ mu∈aS,Nq p mu)->∀ u∈oN i aS,p u.1=false
 |[],_,_,u,hu=>by cases hu
 | .aC r' cs vs :: aS,i,h,u,hu=>by
  obtain⟨h1,h2,h3⟩:=h _ (.head _);rcases jq.1 hu with rfl|hu
  ·exact h1
  ·rcases List.mem_append.1 hu with hu | hu
   ·exact UK vs 0 h3 u hu
   ·exact UL aS (i+1) (λm hm=>h m (.tail _ hm)) u hu
 | .sl q y :: aS,i,h,u,hu=>by
  rcases jq.1 hu with rfl|hu
  ·exact h _ (.head _)
  ·exact UL aS (i+1) (λm hm=>h m (.tail _ hm)) u hu
theorem UM{c0:Nat}(hc:∀ n,c0<=n->p n=false):∀ (vs:af (V×ak Nat)) (n:Nat),(∀ v∈vs,∀ q,v.2=some q->p q=false)->∀ u∈qk c0 n vs,p u=false
 |[],_,_,u,hu=>by cases hu
 | (y,none) :: vs,n,h,u,hu=>by
  rcases jq.1 hu with rfl|hu
  ·exact hc _ (by omega)
  ·exact UM hc vs (n+1) (λv hv=>h v (.tail _ hv)) u hu
 | (y,some q) :: vs,n,h,u,hu=>by
  rcases jq.1 hu with rfl|hu
  ·exact h _ (.head _) _ rfl
  ·exact UM hc vs (n+1) (λv hv=>h v (.tail _ hv)) u hu
theorem UN:∀ (eU:af Nat) (xs:af V),∀ u∈BU eU xs,u∈eU
 |[],[],u,hu=>by cases hu
 |[],_::_,u,hu=>by cases hu
 |_::_,[],u,hu=>by cases hu
 | n :: eU,y :: xs,u,hu=>by
  simp only[BU]at hu;cases hf:y.az with
  |true=>rw[hf]at hu;exact .tail _ (UN eU xs u hu)
  | false=>
   rw[hf,au]at hu;rcases jq.1 hu with rfl|hu
   ·exact .head _
   ·exact .tail _ (UN eU xs u hu)
theorem abK{ns cn:af Nat}:∀ (eU:af Nat) (ls:af Lf) (xs:af V),(∀ n∈eU,p n=false)->ls.all (Lf.nr p)=true->(rm ns cn eU ls xs).all (Lf.nr p)=true
 |[],_,_,_,_=>by simp[rm]
 |_::_,[],_,_,_=>by simp[rm]
 |_::_,_::_,[],_,_=>by simp[rm]
 | n :: eU,l :: ls,y :: xs,h1,h2=>by
  rw[List.all_cons,bx]at h2;simp only[rm,List.all_cons,bx]
  refine⟨?_,abK eU ls xs (λn hn=>h1 n (.tail _ hn)) h2.2⟩
  cases y.plain with
  |true=>rfl
  | false=>
   simp only[au];cases y.az with
   | true=>
    simp only[aq];cases l with
    | own k=>
     have e2:Lf.cL ns cn (.own k)=(bif dz k cn ||(dz k ns && !(Nat.beq k.length 1))then .dead else .own k):=rfl;rw[e2];cases (dz k cn ||(dz k ns && !(Nat.beq k.length 1)))with
     |true=>rfl
     |false=>exact h2.1
    |v x=>rfl
    |dead=>rfl
   | false=>
    simp only[au,Lf.nr,gx,List.getLast?_singleton];rw[h1 n (.head _)];rfl
theorem UO:∀ (eU:af Nat) (xs:af V),∀ u∈zX eU xs,u.1∈eU/\∃ y,u.2 = .sl y
 |[],[],u,hu=>by cases hu
 |[],_::_,u,hu=>by cases hu
 |_::_,[],u,hu=>by cases hu
 | n :: eU,y :: xs,u,hu=>by
  simp only[zX]at hu;cases hf:y.az with
  |true=>rw[hf]at hu;obtain⟨h1,h2⟩:=UO eU xs u hu;exact⟨.tail _ h1,h2⟩
  | false=>
   rw[hf,au]at hu;rcases jq.1 hu with rfl|hu
   ·exact⟨.head _,_,rfl⟩
   ·obtain⟨h1,h2⟩:=UO eU xs u hu;exact⟨.tail _ h1,h2⟩
theorem UP{c0:Nat}{ns cn:af Nat}(hp:p e=true)(hc:∀ n,c0<=n->p n=false):∀ (aS:af Mu) (outs:af In) (pos:Nat),(∀ mu∈aS,Nq p mu)->(∀ u∈qm c0 pos aS outs,p u=false)/\∀ u∈pG ns cn c0 pos aS outs,u.1≠e/\u.2.drop e=u.2
 |[],outs,pos,_=>⟨(λu hu=>by simp[qm]at hu),(λu hu=>by simp[pG]at hu)⟩
 |.aC _ _ _::_,[],pos,_=>⟨(λu hu=>by cases hu),(λu hu=>by cases hu)⟩
 |.sl _ _::_,[],pos,_=>⟨(λu hu=>by cases hu),(λu hu=>by cases hu)⟩
 |.aC _ _ _::_,.sl _::_,pos,_=>⟨(λu hu=>by cases hu),(λu hu=>by cases hu)⟩
 |.sl _ _::_,.aC _::_,pos,_=>⟨(λu hu=>by cases hu),(λu hu=>by cases hu)⟩
 | .aC r' cs vs :: aS,.aC xs :: outs,pos,h=>by
  obtain⟨h1,h2,h3⟩:=h _ (.head _);obtain⟨k1,k2⟩:=UP (ns:=ns) (cn:=cn) hp hc aS outs (pos+1+vs.length) (λm hm=>h m (.tail _ hm));have br:∀n,p n=false->n≠e:=by rintro n hn rfl;rw[hp]at hn;cases hn
  have eS:=UM hc vs (pos+1) h3
  refine⟨λu hu=>?_,λu hu=>?_⟩
  ·simp only[qm]at hu;rcases List.mem_append.1 hu with hu | hu
   ·exact eS u (UN _ _ u hu)
   ·exact k1 u hu
  ·simp only[pG]at hu;rcases jq.1 hu with rfl | hu
   ·refine⟨br _ h1,?_⟩;simp only[bg.drop];rw[qu.nD (abK _ _ _ eS h2) hp]
   ·rcases List.mem_append.1 hu with hu | hu
    ·obtain⟨g1,y,g2⟩:=UO _ _ u hu;exact⟨br _ (eS _ g1),by rw[g2];rfl⟩
    ·exact k2 u hu
 | .sl q y :: aS,.sl y' :: outs,pos,h=>by
  have h1:p q=false:=h _ (.head _);obtain⟨k1,k2⟩:=UP (ns:=ns) (cn:=cn) hp hc aS outs (pos+1) (λm hm=>h m (.tail _ hm))
  refine⟨λu hu=>k1 u (by simpa [qm]using hu),λu hu=>?_⟩
  simp only[pG]at hu;cases hy:y'.lM with
  |false=>rw[hy]at hu;exact k2 u hu
  |true=>
  rw[hy]at hu;rcases jq.1 hu with rfl|hu
  ·exact⟨(by rintro rfl;rw[hp]at h1;cases h1),rfl⟩
  ·exact k2 u hu
theorem Ns:∀ (xs:af V) (c:Nat),e<c->(lP c xs).map (Lf.drop e)=lP c xs
 |[],_,_=>rfl
 | y :: xs,c,h=>by
  simp only[lP,lK];rw[Ns xs (c+1) (by omega)];cases y.az with
  |true=>rfl
  | false=>
   have:bP e [c]=false:=by simp[bP];omega
   simp only[au,Lf.drop,this]
theorem abL{b:Bool}{xs:af Lf}{y:A}(h:si (b,xs)=some y)(hx:xs.map (Lf.drop e)=xs):y.drop e=y:=by
 unfold si at h;split at h
 next e1=>injection h with h;subst h;simp only[jx]at e1;obtain⟨_,rfl⟩:=e1;exact bJ A.agg hx
 next z e1=>injection h with h;subst h;simp only[jx]at e1;obtain⟨_,rfl⟩:=e1;simp only[lK,List.map_nil,List.cons.injEq,and_true]at hx;exact bJ A.lf hx
 ·cases h
theorem abM:∀ (ps:af Pt) (c:Nat),e<c->(nB c ps).map (λq=>(q.1,q.2.map (Lf.drop e)))=nB c ps
 |[],_,_=>rfl
 | q :: ps,c,h=>by
  simp only[nB,lK];rw[Ns _ _ h,abM ps _ (by omega)]
theorem abN(ps:af Pt)(c:Nat)(h:e<c):A.drop e (.cU (nB c ps)) = .cU (nB c ps):=bJ A.cU (abM ps c h)
theorem ana(hx:qw x)(hu:oS e u)(he:e<20000){dst:ak Tmp}(hd:dst≠some e){res:ig}{τ:S}(h:sD N σ dst res some=some τ):sD N (cY e x u σ) dst res some=some (cY e x u τ):=by
 cases dst with
 | none=>
  have h:some σ=some τ:=h;injection h with h;rw[<-h];rfl
 | some d=>
  have Al:d≠e:=by rintro rfl;exact hd rfl
  unfold sD at h ⊢;cases hN:Nat.blt d N with
  |false=>simp only[hN,au]at h;cases h
  | true=>
   simp only[hN,aq]at h ⊢;cases res with
   | one q=>
    simp only at h ⊢;split at h
    next y hy=>injection h with h;subst h;rw[HW hx hu _ _ _ (by omega),Ev Al (abL hy (Ns _ _ (by omega)))]
    ·cases h
   | cU ps=>
    injection h with h;subst h;simp only;rw[UF hx hu _ _ _ (by omega),Ev Al (abN _ _ (by omega))]
theorem anb(cy:ir P Φ)(hx:qw x)(hu:oS e u)(he:e<20000)(hp:p e=true)(HX:∀ n,20000<=n->p n=false)(eC:oP Φ o=true)(hd:o.dst≠some e)(dc:∀ y∈o.op.operands,(aH σ y).nr p=true/\y ≠ .tmp e)(hl:∀ n∈tK Φ σ o,xP σ p n=true){τ:S}
  (h:dU P N Φ σ o some=some τ):dU P N Φ (cY e x u σ) o some=some (cY e x u τ):=by
 have iB:∃ f args gf,o.op = .call { callee:=.value (.func f),args:=args,argTypes:=gf }:=by
  unfold oP at eC;split at eC
  ·exact⟨_,_,_,by assumption⟩
  ·cases eC
 obtain⟨f,args,gf,ho⟩:=iB;have iR:∀ y∈args.toList,(aH σ y).nr p=true/\y ≠ .tmp e:=by
  intro y hy;refine dc y ?_;rw[ho];simp only[Op.operands,Call.operands];simp only[Array.mem_append]
  first
   |exact .inr (by simpa using hy)
   |exact .inl (by simpa using hy)
 have bE:∀ σ2,dU P N Φ σ2 o some=ju P N Φ σ2 o some:=by
  intro σ2;unfold dU;rw[show gF o.op=false by rw[ho];rfl,au]
 rw[bE]at h ⊢;cases hc:Φ f with
 |none=>simp only[ju,ho,hc]at h;cases h
 | some c=>
  cases c with
  |n F=>rw[oP,ho]at eC;simp[hc]at eC
  |v c=>rw[oP,ho]at eC;simp[hc]at eC
  |i c=>rw[oP,ho]at eC;simp[hc]at eC
  |d c=>rw[oP,ho]at eC;simp[hc]at eC
  |q c=>rw[oP,ho]at eC;simp[hc]at eC
  |c c=>rw[oP,ho]at eC;simp[hc]at eC
  | p c=>
   simp only[ju,ho,hc]at h ⊢;obtain⟨d,jT,h⟩:=jl h;have Al:d≠e:=by rintro rfl;exact hd jT
   obtain⟨res,gp,h1,h2,h3⟩:=HC (cy f _ hc).2 h;injection h2 with h2;subst h2;simp only[fM,jT]
   refine(h3 (cY e x u σ) (cY e x u gp) (λX k=>abG hp _ k iR) ?_).at_ _
   unfold qt at h1 ⊢;cases res with
   | one q=>
    simp only at h1 ⊢;split at h1
    next y hy=>injection h1 with h1;subst h1;rw[HW hx hu _ _ _ (by omega),Ev Al (abL hy (Ns _ _ (by omega)))]
    ·cases h1
   | cU ps=>
    injection h1 with h1;subst h1;simp only;rw[UF hx hu _ _ _ (by omega),Ev Al (abN _ _ (by omega))]
  | m c=>
   simp only[ju,ho,hc]at h ⊢;have Hw:∀ n∈pJ σ c.ps args.toList,xP σ p n=true:=by
    intro n hn;refine hl n ?_;simp only[tK,ho,hc];exact hn
   unfold qp at h;split at h
   ·rename_i aS qq;obtain⟨g1,g2⟩:=UJ (x:=x) (u:=u) hp c.ps args.toList aS iR Hw qq;cases lT:(once (oN 0 aS)&&Nat.ble aS.length 40)with
    |false=>rw[lT]at h;cases h
    | true=>
     rw[lT,aq]at h;obtain⟨z,h2,abO⟩:=Eo _ _ _ _ h;simp only[qp,g1,lT,aq];rw[Nr hp _ _ _ _ _ iR];refine(abO S _).trans ?_;split at h2
     ·rename_i y hy;unfold Ei at h2 ⊢;generalize qf:qm (jt o.dst) (gi c.ro y.1).len aS (lS (gq c.ps) y.2)=cn at h2;generalize eH:Eh N aS (lS (gq c.ps) y.2) cn=ok at h2;cases ok with
      |false=>cases h2
      | true=>
       rw[aq]at h2;have xE:∀ n,jt o.dst<=n->p n=false:=by
        intro n hn;refine HX n ?_;cases jT:o.dst with
        |none=>rw[jT]at hn;simp only[jt]at hn;omega
        |some d=>rw[jT]at hn;simp only[jt]at hn;omega
       obtain⟨k1,k2⟩:=UP (ns:=(oN 0 aS).map (·.1)) (cn:=cn) hp xE aS (lS (gq c.ps) y.2) (gi c.ro y.1).len g2;rw[qf]at k1;rw[aq,am5 hx hu ?_ ?_ k2]
       ·exact ana hx hu he hd h2
       ·cases hm:cX e ((oN 0 aS).map (·.1))with
        |false=>rfl
        | true=>
         obtain⟨u,hu,e1⟩:=List.mem_map.1 (xF.1 hm);have:=UL aS 0 g2 u hu;rw[e1,hp]at this;cases this
       ·cases hm:cX e cn with
        |false=>rfl
        |true=>have:=k1 e (xF.1 hm);rw[hp]at this;cases this
     ·cases h2
   ·cases h
theorem A.Nt{y:A}(h:y.gF=true)(n:Nat):y.drop n=y:=by
 cases y with
 |lf l=>cases l<;>first|rfl|cases h
 | agg cs=>
  refine bJ A.agg ?_
  conv=>rhs;rw[<-List.map_id cs]
  refine mK λl hl=>?_
  have:=dQ.1 h l hl;cases l<;>first|rfl|cases this
 |_=>cases h
theorem A.anc{y:A}(h:y.gF=true)(ns cn:af Nat):y.cL ns cn=y:=by
 cases y with
 |lf l=>cases l<;>first|rfl|cases h
 | agg cs=>
  refine bJ A.agg ?_
  conv=>rhs;rw[<-List.map_id cs]
  refine mK λl hl=>?_
  have:=dQ.1 h l hl;cases l<;>first|rfl|cases this
 |_=>cases h
theorem HY:∀ (xs:af V) (c:Nat) (σ:S) {t:Nat},(σ.t t).gF=true->(jG c σ xs).t t=σ.t t
 |[],c,σ,t,h=>rfl
 | y :: xs,c,σ,t,h=>by
  simp only[jG];cases y.az with
  |true=>exact HY xs (c+1) σ h
  | false=>
   simp only[au];have e1:(((σ.drop c).root c (.sl y)).t t)=σ.t t:=by rw[UE];exact A.Nt h c
   rw[HY xs (c+1) _ (by rw[e1];exact h),e1]
theorem UQ:∀ (ps:af Pt) (c:Nat) (σ:S) {t:Nat},(σ.t t).gF=true->(mT c σ ps).t t=σ.t t
 |[],c,σ,t,h=>rfl
 | q :: ps,c,σ,t,h=>by
  simp only[mT];have e1:=HY q.2 c σ h;rw[UQ ps _ _ (by rw[e1];exact h),e1]
theorem ane{dst:ak Tmp}{res:ig}{τ:S}(h:sD N σ dst res some=some τ){t:Nat}(ht:(σ.t t).gF=true)(hd:dst≠some t):τ.t t=σ.t t:=by
 cases dst with
 | none=>
  have h:some σ=some τ:=h;injection h with h;rw[<-h]
 | some d=>
  have uK:t≠d:=by rintro rfl;exact hd rfl
  unfold sD at h;cases hN:Nat.blt d N with
  |false=>simp only[hN,au]at h;cases h
  | true=>
   simp only[hN,aq]at h;cases res with
   | one q=>
    simp only at h;split at h
    next y hy=>injection h with h;subst h;exact(cV _ _ _ uK).trans (HY _ _ _ ht)
    ·cases h
   | cU ps=>
    injection h with h;subst h;exact(cV _ _ _ uK).trans (UQ _ _ _ ht)
theorem anf(cy:ir P Φ)(eC:oP Φ o=true){τ:S}(h:dU P N Φ σ o some=some τ){t:Nat}(ht:(σ.t t).gF=true)(hd:o.dst≠some t):τ.t t=σ.t t:=by
 have iB:∃ f args gf,o.op = .call { callee:=.value (.func f),args:=args,argTypes:=gf }:=by
  unfold oP at eC;split at eC
  ·exact⟨_,_,_,by assumption⟩
  ·cases eC
 obtain⟨f,args,gf,ho⟩:=iB;have bE:dU P N Φ σ o some=ju P N Φ σ o some:=by
  unfold dU;rw[show gF o.op=false by rw[ho];rfl,au]
 rw[bE]at h;cases hc:Φ f with
 |none=>simp only[ju,ho,hc]at h;cases h
 | some c=>
  cases c with
  |n F=>rw[oP,ho]at eC;simp[hc]at eC
  |v c=>rw[oP,ho]at eC;simp[hc]at eC
  |i c=>rw[oP,ho]at eC;simp[hc]at eC
  |d c=>rw[oP,ho]at eC;simp[hc]at eC
  |q c=>rw[oP,ho]at eC;simp[hc]at eC
  |c c=>rw[oP,ho]at eC;simp[hc]at eC
  | p c=>
   simp only[ju,ho,hc]at h;obtain⟨d,jT,h⟩:=jl h;obtain⟨res,gp,h1,h2,h3⟩:=HC (cy f _ hc).2 h;injection h2 with h2;subst h2;have uK:t≠d:=by rintro rfl;exact hd jT
   unfold qt at h1;cases res with
   | one q=>
    simp only at h1;split at h1
    next y hy=>injection h1 with h1;subst h1;exact(cV _ _ _ uK).trans (HY _ _ _ ht)
    ·cases h1
   | cU ps=>
    injection h1 with h1;subst h1;exact(cV _ _ _ uK).trans (UQ _ _ _ ht)
  | m c=>
   simp only[ju,ho,hc]at h;unfold qp at h;split at h
   ·rename_i aS qq;cases lT:(once (oN 0 aS)&&Nat.ble aS.length 40)with
    |false=>rw[lT]at h;cases h
    | true=>
     rw[lT,aq]at h;obtain⟨z,h2,abO⟩:=Eo _ _ _ _ h;split at h2
     ·rename_i y hy;unfold Ei at h2;generalize Eh N aS (lS (gq c.ps) y.2) (qm (jt o.dst) (gi c.ro y.1).len aS (lS (gq c.ps) y.2))=ok at h2;cases ok with
      |false=>cases h2
      | true=>
       rw[aq]at h2;have e1:∀ns cn nr,(σ.cL ns cn nr).t t=σ.t t:=λns cn nr=>A.anc ht ns cn
       have:=ane (t:=t) h2 (by rw[e1];exact ht) hd;rw[this,e1]
     ·cases h2
   ·cases h
theorem ang{e':Nat}{x':bg}{u':A}(hx:qw x)(hu:oS e u)(cW:qw x')(lO:oS e' u')(h:e≠e'):cY e' x' u' (cY e x u σ)=cY e x u (cY e' x' u' σ):=by
 refine S.ext' (λk=>?_) λn=>?_
 ·simp only[sL];by_cases h1:k=e'
  ·subst h1;rw[bB rfl,cm (Ne.symm h),bB rfl,lO.drop (Ne.symm h)]
  ·rw[cm h1];by_cases h2:k=e
   ·subst h2;rw[bB rfl,bB rfl,hu.drop h]
   ·rw[cm h2,cm h2,cm h1,A.sK]
 ·simp only[oU];by_cases h1:n=e'
  ·subst h1;rw[bB rfl,cm (Ne.symm h),bB rfl,jM,cW.1]
  ·rw[cm h1];by_cases h2:n=e
   ·subst h2;rw[bB rfl,bB rfl,jM,hx.1]
   ·rw[cm h2,cm h2,cm h1];cases σ.m n with
    |none=>rfl
    |some y=>simp only[jM,bg.sK]
theorem anh(hx:qw x)(hu:oS e u)(hp:p e=true)(hm:pK o=true)(hd:o.dst≠some e)(dc:∀ y∈o.op.operands,(aH σ y).nr p=true/\y ≠ .tmp e){τ:S}
  (h:dU P N Φ σ o some=some τ):dU P N Φ (cY e x u σ) o some=some (cY e x u τ):=by
 obtain⟨e',x',u',vQ,Ho,cW,lO,ep,oT⟩:=Ni (o:={ o with guard:=none }) (ops:=#[]) (σ:=σ) (Φ:=Φ) (P:=P) (N:=N) hm rfl h;have br:e≠e':=by rintro rfl;exact hd vQ
 have h2:=oT (cY e x u σ) rfl λy hy=>xS (dc y hy).1 hp (dc y hy).2
 rw[ang hx hu cW lO br,<-ep]at h2;exact h2
theorem ani(hm:pK o=true){τ:S}(h:dU P N Φ σ o some=some τ){t:Nat}(ht:(σ.t t).gF=true)(hd:o.dst≠some t):τ.t t=σ.t t:=by
 obtain⟨e',x',u',vQ,Ho,cW,lO,ep,oT⟩:=Ni (o:={ o with guard:=none }) (ops:=#[]) (σ:=σ) (Φ:=Φ) (P:=P) (N:=N) hm rfl h;have br:t≠e':=by rintro rfl;exact hd vQ
 rw[ep,sL,cm br,A.Nt ht]
theorem anj(hx:qw x)(hu:oS e u)(hp:p e=true)(hm:isApp o=true)(hd:o.dst≠some e)(dc:∀ y∈o.op.operands,(aH σ y).nr p=true/\y ≠ .tmp e){τ:S}
  (h:dU P N Φ σ o some=some τ):dU P N Φ (cY e x u σ) o some=some (cY e x u τ):=by
 obtain⟨a,b,t,t',ho,hn,gw,hk⟩:=Uz hm;have ha:=dc a (by rw[ho];simp[Op.operands,Call.operands]);have hb:=dc b (by rw[ho];simp[Op.operands,Call.operands]);rw[HU ho hn gw hk]at h ⊢;obtain⟨d,jT,h⟩:=jl h;obtain⟨r,v,ep,hr,oT⟩:=Nj h;have Al:d≠e:=by rintro rfl;exact hd jT
 have HZ:r≠e:=by
  rcases hr with h1|h1
  ·rw[h1];exact Al
  ·rintro rfl;have h2:=ha.1;rw[h1]at h2;simp[A.nr,Lf.nr,gx,hp]at h2
 unfold fM;rw[jT];simp only;rw[xS ha.1 hp ha.2,xS hb.1 hp hb.2,oT (cY e x u σ) (λk=>am6 hb.1 hp) (λr' v' dG pn=>?_)]
 ·rw[abD v hx hu (Ne.symm HZ),Ev Al ?_,ep];have:bP e [r]=false:=by simp[bP,HZ]
  simp only[A.drop,Lf.drop,this,au]
 ·have br:r'≠e:=by
   rintro rfl;have h2:=ha.1;rw[dG]at h2;simp[A.nr,Lf.nr,gx,hp]at h2
  rw[oU,cm br,pn];rfl
theorem ank(hm:isApp o=true){τ:S}(h:dU P N Φ σ o some=some τ){t:Nat}(ht:(σ.t t).gF=true)(hd:o.dst≠some t):τ.t t=σ.t t:=by
 obtain⟨a,b,t1,t2,ho,hn,gw,hk⟩:=Uz hm;rw[HU ho hn gw hk]at h;obtain⟨d,jT,h⟩:=jl h;obtain⟨r,v,ep,hr,oT⟩:=Nj h;have br:t≠d:=by rintro rfl;exact hd jT
 rw[ep];show cB ((σ.drop r).root r (.sl v)).t d _ t=_;rw[cV _ _ _ br];exact A.Nt ht r
theorem abP(ho:∃ ty t y,o.op = .store ty (.tmp t) y/\o.dst=none/\∃ r j,σ.t t = .aK r j){τ:S}(h:dU P N Φ σ o some=some τ):∃ t y r j cs xs,o.op.operands = #[.tmp t,y]/\σ.t t = .aK r j/\(aH σ y).zu=some xs/\σ.m r=some (.aC cs)/\τ=σ.root r (.aC (splice cs j xs))/\
  ∀(σ2:S) (Ew:af Lf),σ2.t t = .aK r j->aH σ2 y=aH σ y->σ2.m r=some (.aC Ew)->Ew.length=cs.length->dU P N Φ σ2 o some=some (σ2.root r (.aC (splice Ew j xs))):=by
 obtain⟨ty,t,y,ho,hd,r,j,ht⟩:=ho;have bE:∀ σ2:S,σ2.t t = .aK r j->dU P N Φ σ2 o some=oB P σ2 ty (.aK r j) (aH σ2 y) some:=by
  intro σ2 h2;unfold dU;rw[show gF o.op=false by rw[ho];rfl,au];simp only[ju,ho,hd];have e1:aH σ2 (.tmp t) = .aK r j:=h2;rw[e1,show v7 (.aK r j) (aH σ2 y)=false from rfl,au]
 rw[bE σ ht]at h;unfold oB at h;split at h
 ·rename_i n xs hn gV;split at h
  ·rename_i hlen;simp only at h;split at h
   ·rename_i cs eR;split at h
    ·rename_i hj;cases hl:xs.all Lf.live with
     |false=>rw[hl]at h;cases h
     | true=>
      rw[hl,aq]at h;injection h with h
      refine⟨t,y,r,j,cs,xs,by rw[ho];rfl,ht,gV,eR,h.symm,λσ2 Ew h1 h2 h3 h4=>?_⟩
      rw[bE σ2 h1,h2];simp only[oB,hn,gV,bB hlen,h3];rw[bB (by rw[h4];exact hj),hl];rfl
    ·cases h
   ·cases h
  ·cases h
 ·cases h
theorem abQ(hm:HN o=true)(hs:xO σ o=true):∃ ty t y,o.op = .store ty (.tmp t) y/\o.dst=none/\∃ r j,σ.t t = .aK r j:=by
 unfold HN at hm;rw[bx]at hm;obtain⟨h1,h2⟩:=hm;split at h1
 ·rename_i ty t y ho;refine⟨ty,t,y,ho,Option.isNone_iff_eq_none.1 h2,?_⟩;unfold xO at hs;rw[ho]at hs;simp only at hs;split at hs
  ·exact⟨_,_,by assumption⟩
  ·cases hs
 ·cases h1
theorem anl{y:A}{xs:af Lf}(h:y.zu=some xs)(hn:y.nr p=true):xs.all (Lf.nr p)=true:=by
 cases y with
 |lf l=>injection h with h;subst h;simpa [A.nr]using hn
 |agg cs=>injection h with h;subst h;exact hn
 |_=>cases h
theorem anm(hx:qw x)(hu:oS e u)(hp:p e=true)(hm:HN o=true)(hs:xO σ o=true)(dc:∀ y∈o.op.operands,(aH σ y).nr p=true/\y ≠ .tmp e){τ:S}
  (h:dU P N Φ σ o some=some τ):dU P N Φ (cY e x u σ) o some=some (cY e x u τ):=by
 obtain⟨t,y,r,j,cs,xs,g1,g2,g3,g4,g5,g6⟩:=abP (abQ hm hs) h;have ht:=dc (.tmp t) (by rw[g1];simp);have hy:=dc y (by rw[g1];simp);have e1:(cY e x u σ).t t = .aK r j:=(xS ht.1 hp ht.2).trans g2;have HZ:r≠e:=by
  have h2:(aH σ (.tmp t)).nr p=true:=ht.1;have h3:aH σ (.tmp t) = .aK r j:=g2;rw[h3]at h2;exact amM h2 hp
 have e3:(cY e x u σ).m r=some (.aC (cs.map (Lf.drop e))):=by
  rw[oU,cm HZ,g4];rfl
 have gV:=qu.nD (anl g3 hy.1) hp;rw[g6 (cY e x u σ) _ e1 (xS hy.1 hp hy.2) e3 (by rw[gB]),g5];congr 1
 refine S.ext' (λk=>?_) λn=>?_
 ·show (cY e x u σ).t k=(cY e x u (σ.root r (.aC (splice cs j xs)))).t k;rw[sL,sL];rfl
 ·show cB (cY e x u σ).m r (some (.aC (splice (cs.map (Lf.drop e)) j xs))) n=(cY e x u (σ.root r (.aC (splice cs j xs)))).m n;rw[oU];by_cases hn:n=r
  ·subst hn;rw[cG,cm HZ];show _=(cB σ.m n (some (bg.aC (splice cs j xs))) n).map (bg.drop e);rw[cG];simp only[jM,bg.drop,splice,List.map_append,List.map_take,List.map_drop,gV]
  ·rw[cV _ _ _ hn,oU];have:(σ.root r (.aC (splice cs j xs))).m n=σ.m n:=cV _ _ _ hn;rw[this]
theorem ann(hm:HN o=true)(hs:xO σ o=true){τ:S}(h:dU P N Φ σ o some=some τ)(t:Nat):τ.t t=σ.t t:=by
 obtain⟨_,_,r,j,cs,xs,_,_,_,_,g5,_⟩:=abP (abQ hm hs) h;rw[g5];rfl
theorem ano(cy:ir P Φ)(hx:qw x)(hu:oS e u)(he:e<20000)(hp:p e=true)(HX:∀ n,20000<=n->p n=false)(eC:HO Φ o=true)(jk:xO σ o=true)(hd:o.dst≠some e)(dc:∀ y∈o.op.operands,(aH σ y).nr p=true/\y ≠ .tmp e)(hl:∀ n∈tK Φ σ o,xP σ p n=true){τ:S}
  (h:dU P N Φ σ o some=some τ):dU P N Φ (cY e x u σ) o some=some (cY e x u τ):=by
 unfold HO at eC;rw[fE,fE,fE]at eC;rcases eC with ((hc|hc)|hc)|hc
 ·exact anb cy hx hu he hp HX hc hd dc hl h
 ·exact anh hx hu hp hc hd dc h
 ·exact anj hx hu hp hc hd dc h
 ·exact anm hx hu hp hc jk dc h
theorem anp(cy:ir P Φ)(eC:HO Φ o=true)(jk:xO σ o=true){τ:S}(h:dU P N Φ σ o some=some τ){t:Nat}(ht:(σ.t t).gF=true)(hd:o.dst≠some t):τ.t t=σ.t t:=by
 unfold HO at eC;rw[fE,fE,fE]at eC;rcases eC with ((hc|hc)|hc)|hc
 ·exact anf cy hc h ht hd
 ·exact ani hc h ht hd
 ·exact ank hc h ht hd
 ·exact ann hc jk h t
end
end Go.Proofs.YtecofnkoloihpaaGreat
