/-
  Running the program over pure contents, and that it follows (part 4). Nothing here is a claim.
-/
import Derived.Test.YtglnbhiaknohlaaGreatV3
set_option linter.unusedSimpArgs false
namespace Go.Proofs.YtglnbhiaknohlaaGreat
set_option linter.defProp false
open Go.RowKit
set_option linter.unusedVariables false
abbrev eD:=Nat->aj qJ
def fX(P:Program)(Φ:eD):Prop:=∀f c,Φ f=some c->enters P f/\Vq P f c
def eS{X:Type}(o:Oper)(k:Nat->aj X):aj X:=
 match o.dst with
 |some d=>k d
 |none=>none
def fM:Op->Bool
 |.move _|.assign _|.pick .. |.build .. |.load .. |.binOp .. |.unOp .. |.convert .. |.fieldAddr .. |.field .. |.indexAddr .. |.index .. |.extract .. |.nilCheck _=>true
 |.call ⟨.builtin .len,_,_⟩|.call ⟨.builtin .max,_,_⟩|.call ⟨.builtin .min,_,_⟩=>true
 |.slice _ _ _ _ none=>true
 |_=>false
def eE{X:Type}(P:Program)(σ:S)(op:Op)(k:A->aj X):aj X:=
 match op with
 |.move x=>k (aI σ x)
 |.assign x=>k (aI σ x)
 | .pick c x y=>(match aI σ c with
  |.lf (.v (.bool b))=>bif b then k (aI σ x)else k (aI σ y)
  |_=>none)
 |.build t parts=>vc P σ t parts.toList k
 |.load t x=>jw P σ t (aI σ x) k
 |.binOp op t x y _=>mT P σ op t (aI σ x) (aI σ y) k
 |.unOp op _ x=>vK (aI σ x) λa=>DO op a λz=>k (.lf (.v z))
 |.convert s d x=>ox P σ s d (aI σ x) k
 |.fieldAddr s x f=>uZ P s (aI σ x) f k
 |.field s x f=>yZ P s (aI σ x) f k
 |.indexAddr t x i=>pK P σ t (aI σ x) (aI σ i) k
 |.index t x i=>Bk P t (aI σ x) (aI σ i) k
 |.extract x i=>wF (aI σ x) i k
 |.nilCheck x=>NG (aI σ x) k
 |.call ⟨.builtin .len,⟨[x]⟩,⟨[t]⟩⟩=>rD P σ t (aI σ x) k
 |.call ⟨.builtin .max,⟨[x,y]⟩,⟨[_,_]⟩⟩=>Bj true (aI σ x) (aI σ y) k
 |.call ⟨.builtin .min,⟨[x,y]⟩,⟨[_,_]⟩⟩=>Bj false (aI σ x) (aI σ y) k
 |.slice t x lo hi none=>rH P σ t (aI σ x) (lo.map (aI σ)) (hi.map (aI σ)) k
 |_=>none
def ig{X:Type}(P:Program)(N:Nat)(Φ:eD)(σ:S)(o:Oper)(k:S->aj X):aj X:=
 match o.op with
 |.alloc e=>eS o λd=>sI P N σ d e k
 |.box e x=>eS o λd=>By N σ d (aI σ x) k
 |.buildSlice t len parts=>eS o λd=>bif oE t then zq P N σ d t len parts.toList k else Bh P N σ d t len parts.toList k
 | .store t x y=>(match o.dst with
  |none=>bif vn (aI σ x) (aI σ y)then rT P σ t (aI σ x) (aI σ y) k else nO P σ t (aI σ x) (aI σ y) k
  |some _=>none)
 |.makeSlice t l c=>eS o λd=>Bc P N σ d t (aI σ l) (aI σ c) k
 | .call ⟨.value (.func f),args,_⟩=>(match Φ f with
  |some (.p c)=>eS o λd=>zf N σ d c args.toList k
  |some (.m c)=>mq N σ o.dst c args.toList k
  |some (.v c)=>eS o λd=>BE N σ d c args.toList k
  | some (.n F)=>eS o λd=>(match args.toList with
   |[x]=>BA N σ d F (aI σ x) k
   |_=>none)
  |some (.i c)=>Ee N σ o.dst c (args.toList.map (aI σ)++[]) k
  |some (.d c)=>Bw N σ o.dst c args.toList k
  |some (.q c)=>eS o λd=>rJ N σ d c args.toList k
  |some (.c c)=>BG N σ o.dst c args.toList k
  |none=>none)
 |.call ⟨.builtin .append,⟨[x,y]⟩,⟨[t,C]⟩⟩=>bif Nat.beq t C then eS o λd=>bif oE t then zu P N σ d t (aI σ x) (aI σ y) k else bif HV t d x then BM P N σ d t (aI σ x) (aI σ y) k else qB P N σ d t (aI σ x) (aI σ y) k else none
 |.makeMap _ none=>eS o λd=>NO N σ d k
 |.lookup t x i false=>HT P σ t (aI σ x) (aI σ i) λv=>iB N σ o.dst v k
 | .mapUpdate t x i v=>(match o.dst with
  |none=>HU P σ t (aI σ x) (aI σ i) (aI σ v) k
  |some _=>none)
 | .call ⟨.value (.tmp t),args,_⟩=>(match NL (aI σ (.tmp t))with
  | some (f,ex)=>(match Φ f with
   |some (.i c)=>Ee N σ o.dst c (args.toList.map (aI σ)++ex) k
   |_=>none)
  |none=>none)
 | .makeFunc (.func f) ⟨[]⟩ D=>(match HR σ D.toList with
  |some ps=>iB N σ o.dst (.fn f ps) k
  |none=>none)
 |.call ⟨.builtin .clear,⟨[x]⟩,⟨[t]⟩⟩=>Bg P σ t (aI σ x) λE=>iB N E o.dst .undef k
 |_=>none
def dm{X:Type}(P:Program)(N:Nat)(Φ:eD)(σ:S)(o:Oper)(k:S->aj X):aj X:=
 bif fM o.op then eE P σ o.op λv=>iB N σ o.dst v k else ig P N Φ σ o k
def nU{X:Type}(P:Program)(N:Nat)(Φ:eD)(σ:S)(o:Oper)(k:S->aj X):aj X:=
 match o.op,o.dst with
 | .store t x y,none=>(match aI σ y with
  |.view [q] s i j=>zy P σ q s i j t (aI σ x) k
  |_=>dm P N Φ σ o k)
 |.slice t x (some lo) (some hi) (some C),some d=>zz P σ t (aI σ x) (aI σ lo) (aI σ hi) (aI σ C) (bif Nat.blt d N then k (σ.set d .undef)else none)
 |_,_=>dm P N Φ σ o k
def fN(σ:S)(ops:Array Oper)(o:Oper):aj Bool:=
 match o.guard with
 |none=>some true
 | some (j,want)=>match (ops[j]?).bind (·.dst)with
  | some t=>(match σ.t t with
   |.lf (.v (.bool b))=>some (b==want)
   |.skip=>some false
   |_=>none)
  |none=>none
def HW(ops:Array Oper)(j:Nat):Bool:=ops.toList.any λo=>match o.guard with
 |some (i,_)=>Nat.beq i j
 |none=>false
def pV{X:Type}(σ:S)(C:aj Tmp)(g:Bool)(k:S->aj X):aj X:=
 bif g then (match C with
  | some d=>(match σ.t d with
   |.lf (.v (.bool b))=>bif b then k (σ.set d (.lf (.v (.bool true))))else k (σ.set d (.lf (.v (.bool false))))
   |_=>k σ)
  |none=>k σ)else k σ
def vo{X:Type}(P:Program)(N:Nat)(Φ:eD)(ops:Array Oper):Nat->aa Oper->S->(S->aj X)->aj X
 |_,[],σ,k=>k σ
 | j,o :: rest,σ,k=>match fN σ ops o with
  |some true=>nU P N Φ σ o λC=>pV C o.dst (HW ops j) λD=>vo P N Φ ops (j+1) rest D k
  |some false=>iB N σ o.dst .skip λC=>vo P N Φ ops (j+1) rest C k
  |none=>none
/-! Regions whose order is open: what is listed is a set of bits. -/
def dn{X:Type}(P:Program)(N:Nat)(Φ:eD)(ops:Array Oper)(σ:S)(o:Oper)(k:S->aj X):aj X:=
 match fN σ ops o with
 |some true=>dm P N Φ σ o k
 |some false=>iB N σ o.dst .skip k
 |none=>none
def mB(ops:Array Oper)(L j:Nat):Bool:=!L.testBit j&&(match ops[j]? with
 |some o=>o.after.toList.all λe=>!Region.binds .any e ||L.testBit e.on
 |none=>false)
def HX(ops:Array Oper)(i W j:Nat):Bool:=(match ops[j]? with
 |some o=>o.after.toList.any λe=>Region.binds .any e&&(Nat.beq e.on i ||W.testBit e.on)
 |none=>false)
def waits(ops:Array Oper)(i:Nat):Nat->Nat->Nat->Nat
 |0,_,W=>W
 |n+1,j,W=>waits ops i n (j+1) (bif HX ops i W j then W |||2 ^ j else W)
def ef(o:Oper)(n:Nat):Bool:=match o.dst with
 | some d=>(match o.op with
  |.alloc _|.box .. |.buildSlice .. |.makeSlice ..=>Nat.beq n d
  |.call ⟨.value (.func _),_,_⟩=>Nat.ble (1000000000100000+1000*d) n
  |.call ⟨.builtin .append,_,_⟩=>Nat.beq n d
  |_=>false)
 |none=>false
def NR(Φ:eD)(op:Op):Bool:=fM op || (match op with
 |.alloc _|.box .. |.buildSlice .. |.makeSlice ..=>true
 | .call ⟨.value (.func f),_,_⟩=>(match Φ f with
  |some (.p _)=>true
  |some (.q _)=>true
  |_=>false)
 |_=>false)
def ij(g:Oper->Bool)(ops:Array Oper)(i L W:Nat):Nat->Nat->Bool
 |0,_=>false
 | f+1,j=>(!(Nat.beq j i || L.testBit j || W.testBit j)&&(match ops[j]? with
  |some C=>g C
  |none=>false)) ||ij g ops i L W f (j+1)
def HY(g:Oper->Bool)(ops:Array Oper)(C:Oper)(i L W:Nat):Nat->Nat->Bool
 |0,_=>true
 | n+1,j=>(Nat.beq j i || L.testBit j || (bif W.testBit j then HX ops i W j else (match ops[j]? with
  |some D=>g D&&C.apart ops D
  |none=>true)))&&HY g ops C i L W n (j+1)
def NS(c:nR):Bool:=c.ps.all λp=>match p with
 |.v _ _=>true
 |.p _ g _=>Nat.beq g 0
 |.s _ _=>false
def sS(ok:Nat->Nat->Bool)(σ:S):aa PK->aa Operand->Bool
 | .p _ _ _ :: ps,.tmp t :: xs=>(match σ.t t with
  |.aG r _=>ok t r
  |_=>false)&&sS ok σ ps xs
 |.v _ _::ps,_::xs=>sS ok σ ps xs
 |[],[]=>true
 |_,_=>false
def iV(σ:S):aa PK->aa Operand->aa Nat
 | .p _ _ _ :: ps,x :: xs=>(match aI σ x with
  |.aG r _=>r::iV σ ps xs
  |_=>iV σ ps xs)
 |_::ps,_::xs=>iV σ ps xs
 |_,_=>[]
def qK(Φ:eD)(σ:S)(o:Oper):aa Nat:=match o.op with
 | .call ⟨.value (.func f),args,_⟩=>(match Φ f with
  |some (.m c)=>iV σ c.ps args.toList
  |_=>[])
 |_=>[]
def ku(t:Nat)(o:Oper):Bool:=match o.dst with
 |some d=>Nat.beq d t
 |none=>false
def vp(o:Oper):Bool:=(match o.op with
 |.alloc _=>true
 |_=>false)&&o.guard.isNone&&(match o.dst with
 |some d=>Nat.blt d 20000
 |none=>false)
def oF(o:Oper):Bool:=(match o.op with
 |.alloc _=>true
 |.buildSlice t _ _=>!oE t
 |.makeSlice ..=>true
 |_=>false)&&(match o.dst with
 |some d=>Nat.blt d 20000
 |none=>false)
def isApp(o:Oper):Bool:=match o.op with
 |.call ⟨.builtin .append,⟨[x,_]⟩,⟨[t,C]⟩⟩=>!oE t&&Nat.beq t C && !BI o.dst t x
 |_=>false
def Vy(Φ:eD)(ops:Array Oper)(i L W:Nat)(σ:S)(o:Oper):Bool:=match o.op with
 | .call ⟨.value (.func f),args,_⟩=>(match Φ f with
  |some (.m c)=>NS c&&sS (λt r=>!ij (ku t) ops i L W ops.size 0 && !ij (λok=>ef ok r) ops i L W ops.size 0 && !ij isApp ops i L W ops.size 0) σ c.ps args.toList
  |_=>false)
 |_=>false
def A.kz(p pb:Nat->Bool):A->Bool
 |.lf x=>x.nr p
 |.agg cs=>cs.all (Lf.nr p)
 |.cQ xs=>xs.all λq=>q.2.all (Lf.nr p)
 |.ptr k=>fH p k
 |.aG r _=>!pb r
 |.pk r _=>!pb r
 |.view k _ _ _=>fH p k
 |.fn _ cap=>cap.all λq=>!pb q.1
 |_=>true
def BN(σ:S)(o:Oper):aa Nat:=match o.op with
 | .store _ (.tmp t) _=>(match σ.t t with
  |.aG r _=>[r]
  |_=>[])
 | .call ⟨.builtin .append,⟨[.tmp t,_]⟩,⟨[_,_]⟩⟩=>(match σ.t t with
  |.lf (.own [r])=>[r]
  |_=>[])
 |_=>[]
def NT(σ:S)(o:Oper):aa Nat:=match o.op with
 | .call ⟨.builtin .append,⟨[.tmp t,_]⟩,⟨[_,_]⟩⟩=>(match σ.t t with
  |.lf (.own [r])=>[r]
  |_=>[])
 |_=>[]
def aod(t:Nat)(o:Oper):Bool:=match o.op with
 |.store _ (.tmp C) _=>Nat.beq C t
 |_=>false
def faR(ops:Array Oper)(i L W:Nat)(σ:S)(o:Oper):aa Nat:=match o.op,o.dst with
 | .fieldAddr _ (.tmp x) _,some t=>bif ij (aod t) ops i L W ops.size 0 then (match σ.t x with
  |.aG r _=>[r]
  |_=>[])else []
 |_,_=>[]
def zB(Φ:eD)(ops:Array Oper)(i L W:Nat)(σ:S)(n:Nat):Bool:=
 ij (λo=>ef o n) ops i L W ops.size 0 ||ij (λo=>cu n (qK Φ σ o) ||cu n (BN σ o)) ops i L W ops.size 0
def zC(Φ:eD)(ops:Array Oper)(i L W:Nat)(σ:S)(n:Nat):Bool:=
 zB Φ ops i L W σ n ||ij (λo=>cu n (faR ops i L W σ o)) ops i L W ops.size 0
def BO(σ:S)(ops:Array Oper)(i L W n:Nat):Bool:=ij (λo=>ef o n) ops i L W ops.size 0 ||ij (λo=>cu n (NT σ o)) ops i L W ops.size 0
def zD(Φ:eD)(o:Oper):Bool:=match o.op with
 | .call ⟨.value (.func f),_,_⟩=>(match Φ f with
  |some (.p _)=>true
  |_=>false)
 |_=>false
def m0(Φ:eD)(ops:Array Oper)(i L W t:Nat):Bool:=!ij (λok=>ku t ok && !(oF ok ||isApp ok ||zD Φ ok)) ops i L W ops.size 0
def Vz(Φ:eD)(ops:Array Oper)(i L W:Nat)(o:Oper):Bool:=match o.op with
 |.call ⟨.builtin .append,⟨[.tmp t,_]⟩,⟨[ty,C]⟩⟩=>m0 Φ ops i L W t&&(!oE ty&&Nat.beq ty C && !BI o.dst ty (.tmp t))
 |_=>false
def m6(Φ:eD)(ops:Array Oper)(i L W:Nat)(σ:S)(x:Nat):Bool:=!ij (ku x) ops i L W ops.size 0&&(match σ.t x with
 |.aG r _=>zC Φ ops i L W σ r
 |.hJ _=>true
 |_=>false)
def NU(Φ:eD)(ops:Array Oper)(i L W:Nat)(σ:S)(o:Oper):Bool:=match o.op with
 |.fieldAddr _ (.tmp x) _=>m6 Φ ops i L W σ x
 |_=>false
def NV(Φ:eD)(ops:Array Oper)(i L W:Nat)(σ:S)(t:Nat):Bool:=!ij (λok=>ku t ok && !(vp ok ||NU Φ ops i L W σ ok)) ops i L W ops.size 0
def GW(Φ:eD)(ops:Array Oper)(i L W:Nat)(σ:S)(o:Oper):Bool:=match o.op with
 | .store _ (.tmp t) _=>o.dst.isNone&&NV Φ ops i L W σ t&&(match σ.t t with
  |.ptr _=>false
  |_=>true)
 |_=>false
def VA(σ:S)(p:Nat->Bool)(o:Oper):Bool:=o.op.operands.toList.all λx=>(aI σ x).nr p
def VB(σ:S)(p pb:Nat->Bool)(o:Oper):Bool:=(o.op.operands.toList.all λx=>(aI σ x).kz p pb)&&(match o.op with
 | .load _ x=>(match aI σ x with
  |.aG r _=>!p r
  |_=>true)
 |_=>true)
def abW(Φ:eD)(ops:Array Oper)(L:Nat)(σ:S)(i:Nat):Bool:=match ops[i]? with
 | some C=>(fM C.op || (match fN σ ops C with
  |some b=>!b
  |none=>false))&&Nat.beq ((L |||2 ^ i) &&& waits ops i ops.size 0 0) 0&&HY (λD=>NR Φ D.op ||Vy Φ ops i L (waits ops i ops.size 0 0) σ D ||GW Φ ops i L (waits ops i ops.size 0 0) σ D ||Vz Φ ops i L (waits ops i ops.size 0 0) D) ops C i L (waits ops i ops.size 0 0) ops.size 0&&VB σ (zC Φ ops i L (waits ops i ops.size 0 0) σ) (BO σ ops i L (waits ops i ops.size 0 0)) C
 |none=>false
def zE{X:Type}(P:Program)(N:Nat)(Φ:eD)(ops:Array Oper)(L i:Nat)(σ:S)(o:Oper)(k:S->aj X):aj X:=
 match fN σ ops o with
 |some true=>eE P σ o.op λv=>bif v.kz (zC Φ ops i L (waits ops i ops.size 0 0) σ) (BO σ ops i L (waits ops i ops.size 0 0))then iB N σ o.dst v k else none
 |some false=>iB N σ o.dst .skip k
 |none=>none
/-! A call may be taken first where all that is free beside it are new blocks. -/
def A.fM:A->Bool
 |.lf (.v _)=>true
 | .agg cs=>cs.all λl=>match l with
  |.v _=>true
  |_=>false
 |_=>false
def VC(ops:Array Oper)(i L W:Nat)(σ:S)(o:Oper):Bool:=oF o&&(match fN σ ops o with
 |some b=>b
 | none=>false)&&(o.op.operands.toList.all λx=>(aI σ x).fM&&(match x with
  |.tmp t=>!ij (ku t) ops i L W ops.size 0
  |_=>true))&&(match o.guard with
 | some (g,_)=>(match (ops[g]?).bind (·.dst)with
  |some t=>!ij (ku t) ops i L W ops.size 0
  |none=>true)
 |none=>true)
def nW(Φ:eD)(o:Oper):Bool:=match o.op with
 | .call ⟨.value (.func f),_,_⟩=>(match Φ f with
  |some (.p _)=>true
  |some (.m _)=>true
  |_=>false)
 |_=>false
def HZ(o:Oper):Bool:=(match o.op with
 |.store _ (.tmp _) _=>true
 |_=>false)&&o.dst.isNone
def wZ(σ:S)(o:Oper):Bool:=match o.op with
 | .store _ (.tmp t) _=>(match σ.t t with
  |.aG _ _=>true
  |_=>false)
 |_=>true
def H6(Φ:eD)(o:Oper):Bool:=nW Φ o ||oF o ||isApp o ||HZ o
def w5(σ:S)(p:Nat->Bool)(r:Nat):Bool:=match σ.m r with
 |some (.aB cs)=>cs.all (Lf.nr p)
 |_=>true
def Eg(o:Oper)(n:Nat):Bool:=ku n o
def abX(Φ:eD)(ops:Array Oper)(L:Nat)(σ:S)(i:Nat):Bool:=match ops[i]? with
 | some C=>H6 Φ C&&Nat.beq ((L ||| 2 ^ i) &&& waits ops i ops.size 0 0) 0&&HY (VC ops i L (waits ops i ops.size 0 0) σ) ops C i L (waits ops i ops.size 0 0) ops.size 0 &&
   VA σ (λn=>ij (λo=>Eg o n) ops i L (waits ops i ops.size 0 0) ops.size 0) C&&(qK Φ σ C).all (w5 σ (λn=>ij (λo=>Eg o n) ops i L (waits ops i ops.size 0 0) ops.size 0))&&wZ σ C
 |none=>false
def rU(x:A)(n:Nat):aj V:=match x with
 | .cQ xs=>(match xs[n]? with
  |some (false,[.v z])=>some z
  |_=>none)
 |_=>none
def VD(ops:Array Oper)(L:Nat)(σ:S)(i:Nat):Bool:=match ops[i]?,(List.range ops.size).filter (λj=>!(Nat.beq j i || L.testBit j))with
 | some C,[E]=>(match C.op,C.dst,C.guard,ops[E]? with
  | .extract (.tmp x) n,some _,none,some D=>(match D.op,D.dst,D.guard with
   |.store _ a b,none,none=>(rU (σ.t x) n).isSome&&vn (aI σ a) (aI σ b)&&C.apart ops D
   |_,_,_=>false)
  |_,_,_,_=>false)
 |_,_=>false
def kA{X:Type}(P:Program)(N:Nat)(Φ:eD)(ops:Array Oper):Nat->Nat->S->(S->aj X)->aj X
 | 0,L,σ,k=>(match (List.range ops.size).filter (mB ops L)with
  |[]=>k σ
  |_=>none)
 | f+1,L,σ,k=>(match (List.range ops.size).filter (mB ops L)with
  |[]=>k σ
  | [i]=>(match ops[i]? with
   |some o=>dn P N Φ ops σ o λC=>pV C o.dst (HW ops i) λD=>kA P N Φ ops f (L |||2 ^ i) D k
   |none=>none)
  | rs=>(match rs.find? (abW Φ ops L σ)with
   | some i=>(match ops[i]? with
    |some o=>zE P N Φ ops L i σ o λC=>pV C o.dst (HW ops i) λD=>kA P N Φ ops f (L |||2 ^ i) D k
    |none=>none)
   | none=>(match rs.find? (abX Φ ops L σ)with
    | some i=>(match ops[i]? with
     |some o=>dn P N Φ ops σ o λC=>pV C o.dst (HW ops i) λD=>kA P N Φ ops f (L |||2 ^ i) D k
     |none=>none)
    | none=>(match rs.find? (VD ops L σ)with
     | some i=>(match ops[i]? with
      |some o=>dn P N Φ ops σ o λC=>pV C o.dst (HW ops i) λD=>kA P N Φ ops f (L |||2 ^ i) D k
      |none=>none)
     |none=>none))))
/-! A new slice of constants may come first,beside values and calls of contents. -/
structure sU where
 run:(X:Type)->S->(Exit->S->Option X)->Option X
abbrev m7:=Nat->aj sU
def gA{X:Type}(P:Program)(N:Nat)(Φ:eD)(Λ:m7):Code->S->(Exit->S->aj X)->aj X
 |.skip,σ,k=>k .normal σ
 |.label _,σ,k=>k .normal σ
 |.ret,σ,k=>k .ret σ
 |.exit id,σ,k=>k (.exit id) σ
 |.region _ ops false,σ,k=>vo P N Φ ops 0 ops.toList σ λC=>k .normal C
 |.region _ ops true,σ,k=>bif P.follows .mixedOrders then kA P N Φ ops ops.size 0 σ λC=>k .normal C else none
 | .seq x y,σ,k=>gA P N Φ Λ x σ λe C=>match e with
  |.normal=>gA P N Φ Λ y C k
  |e=>k e C
 | .cond c x y,σ,k=>match aI σ c with
  |.lf (.v (.bool b))=>bif b then gA P N Φ Λ x σ k else gA P N Φ Λ y σ k
  |_=>none
 | .block id c,σ,k=>match Λ id with
  |some b=>b.run X σ k
  | none=>gA P N Φ Λ c σ λe C=>match e with
   |.exit D=>if D=id then k .normal C else k (.exit D) C
   |e=>k e C
 |_,_,_=>none
def AW(P:Program)(w0:Wd)(N:Nat)(c:Code)(σ:S)(K:Exit->S->Prop):Prop:=
 ∀a w,R w0 N σ a w->c.wp P (λe D w'=>∃C,K e C/\R w0 N C D w') a w
def occs:Code->aa (Nat×Code)
 |.seq x y=>occs x++occs y
 |.cond _ x y=>occs x++occs y
 |.block id c=>(id,c)::occs c
 |_=>[]
def BP(P:Program)(N:Nat)(c:Code)(b:sU):Prop:=∀(X:Type) σ k (r:X) w0,b.run X σ k=some r->AW P w0 N c σ λe C=>k e C=some r
def pW(P:Program)(N:Nat)(Λ:m7)(l:aa (Nat×Code)):Prop:=∀p∈l,∀b,Λ p.1=some b->BP P N (.block p.1 p.2) b
section
variable {P:Program} {w w':World} {w0:Wd} {B N:Nat} {ah aE:bG} {ρ ρ':Nat->Loc} {σ:S} {a:Act} {X:Type} {d:Nat} {r:X} {o:Oper} {Φ:eD} {Λ:m7}
def l8.mem{C:S}(D:o.dst=some d)(h:∀ ah ρ a w,Rl w0 N ah ρ σ a w->∃ w' aE ρ' v,(execOp a.eval o).run P w = .ok (.value v) w'/\Rl w0 N aE ρ' C (a.put (some d) v) w'):l8 P w0 N o σ C:=by
 intro a w K Q hR E;obtain⟨ah,ρ,hR⟩:=hR;obtain⟨w',aE,ρ',v,I,J⟩:=h ah ρ a w hR;unfold Oper.wp;rw[I,Oper.upon_value,D];exact E _ _ ⟨aE,ρ',J⟩
def gB{k:Nat -> aj X}(h:eS o k=some r):∃ d,o.dst=some d/\k d=some r:=by
 unfold eS at h
 grind
def mC{s:Sem Value}{v:Value}(h:s.run P w = .ok v w'):(do pure (.value (<-s)):Sem Next).run P w = .ok (.value v) w':=by
 rw[fq,h];rfl
def H7{op:Op}{k:A -> aj X}(h:eE P σ op k=some r):∃ v,k v=some r/\cA (λX k=>eE (X:=X) P σ op k) v /\ ∀ ah ρ a w (o:Oper),o.op=op -> Rl w0 N ah ρ σ a w -> ∃ u,(execOp a.eval o).run P w = .ok (.value u) w/\RA w w0.heap.size ah ρ v u:=by
 unfold eE at h;split at h
 next x=>exact⟨_,h,λX k=>rfl,λah ρ a w o E hR=>⟨a.eval x,by simp[execOp,E],hR.aI x⟩⟩
 next x=>exact⟨_,h,λX k=>rfl,λah ρ a w o E hR=>⟨a.eval x,by simp[execOp,E],hR.aI x⟩⟩
 ·rename_i c x y;split at h
  ·rename_i b hb
   refine⟨bif b then aI σ x else aI σ y,by cases b<;>exact h,λX k=>by simp only[eE,hb];cases b<;>rfl,λah ρ a w o E hR=>?_⟩
   have hc:=hR.aI c;rw[hb]at hc;have hv:=hc.2.yS;cases b with
   |true=>exact⟨a.eval x,by simp[execOp,E,hv,asBool],hR.aI x⟩
   |false=>exact⟨a.eval y,by simp[execOp,E,hv,asBool],hR.aI y⟩
  ·cases h
 ·rename_i t parts;obtain⟨y,I,D⟩:=anv h;obtain⟨Q,C,L⟩:=amq (D.at_ _);injection C with C;subst C
  refine⟨_,I,λX k=>D.at_ _,λah ρ a w o E hR=>?_⟩
  obtain⟨v,J,O⟩:=L ah ρ a w hR;exact⟨v,by simp only[execOp,E];exact mC J,O⟩
 ·rename_i t x;obtain⟨y,I,D⟩:=HM h;obtain⟨Q,C,L⟩:=aaw (w0:=w0) (N:=N) (k:=λz=>some z) (r:=y) (D.at_ _);injection C with C;subst C
  refine⟨_,I,λX k=>D.at_ _,λah ρ a w o E hR=>?_⟩
  obtain⟨v,J,O⟩:=L ah ρ a w hR _ (hR.aI x);exact⟨v,by simp only[execOp,E];exact mC J,O⟩
 ·rename_i op t x y yt;obtain⟨z,I,D⟩:=anp h;obtain⟨Z,C,L⟩:=amB (w0:=w0) (N:=N) (k:=λz=>some z) (r:=z) (D.at_ _);injection C with C;subst C
  refine⟨_,I,λX k=>D.at_ _,λah ρ a w o E hR=>?_⟩
  obtain⟨T,J,U⟩:=L ah ρ a w hR x y _ _ (hR.aI x) (hR.aI y);exact⟨T,by simp only[execOp,E];exact mC J,U⟩
 ·rename_i op t x;obtain⟨u,I,ND⟩:=Vf h;obtain⟨z,h3,HL⟩:=anq I;obtain⟨u',hx,C⟩:=MU (k:=λz=>some z) (r:=u) (ND.at_ _);injection C with C;subst C;obtain⟨Z,VE,hp,L⟩:=al5 (P:=P) (k:=λz=>some z) (r:=z) (HL.at_ _);injection VE with VE;subst VE
  refine⟨_,h3,λX k=>(ND.at_ _).trans (HL.at_ _),λah ρ a w o E hR=>?_⟩
  have I:=hR.aI x;rw[hx]at I;obtain⟨T,J,U⟩:=L w _ ah [] _ I.2;exact⟨T,by simp only[execOp,E];exact mC J,V.GZ hp,U⟩
 ·rename_i s d' x;obtain⟨y,I,D⟩:=anA h;obtain⟨Q,C,L⟩:=amx (w0:=w0) (N:=N) (k:=λz=>some z) (r:=y) (D.at_ _);injection C with C;subst C
  refine⟨_,I,λX k=>D.at_ _,λah ρ a w o E hR=>?_⟩
  obtain⟨v,J,O⟩:=L ah ρ a w hR _ (hR.aI x);exact⟨v,by simp only[execOp,E];exact mC J,O⟩
 ·rename_i s x f;obtain⟨y,I,D⟩:=anr h;obtain⟨Q,C,L⟩:=al8 (k:=λz=>some z) (r:=y) (D.at_ _);injection C with C;subst C
  refine⟨_,I,λX k=>D.at_ _,λah ρ a w o E hR=>?_⟩
  obtain⟨v,J,O⟩:=L w _ ah ρ _ (hR.aI x);exact⟨v,by simp only[execOp,E];exact mC J,O⟩
 ·rename_i s x f;obtain⟨y,I,D⟩:=anw h;obtain⟨Q,C,L⟩:=amy (k:=λz=>some z) (r:=y) (D.at_ _);injection C with C;subst C
  refine⟨_,I,λX k=>D.at_ _,λah ρ a w o E hR=>?_⟩
  obtain⟨v,J,O⟩:=L w _ ah ρ _ (hR.aI x);exact⟨v,by simp only[execOp,E];exact mC J,O⟩
 ·rename_i t x i;obtain⟨y,I,D⟩:=ans h;obtain⟨Q,C,L⟩:=al9 (w0:=w0) (N:=N) (k:=λz=>some z) (r:=y) (D.at_ _);injection C with C;subst C
  refine⟨_,I,λX k=>D.at_ _,λah ρ a w o E hR=>?_⟩
  obtain⟨v,J,O⟩:=L ah ρ a w hR _ _ (hR.aI x) (hR.aI i);exact⟨v,by simp only[execOp,E];exact mC J,O⟩
 ·rename_i t x i;obtain⟨y,I,D⟩:=anx h;obtain⟨Q,C,L⟩:=amw (k:=λz=>some z) (r:=y) (D.at_ _);injection C with C;subst C
  refine⟨_,I,λX k=>D.at_ _,λah ρ a w o E hR=>?_⟩
  obtain⟨v,J,O⟩:=L w _ ah ρ _ _ (hR.aI x) (hR.aI i);exact⟨v,by simp only[execOp,E];exact mC J,O⟩
 ·rename_i x i;obtain⟨y,I,D⟩:=anu h;obtain⟨Q,C,L⟩:=amb (P:=P) (k:=λz=>some z) (r:=y) (D.at_ _);injection C with C;subst C
  refine⟨_,I,λX k=>D.at_ _,λah ρ a w o E hR=>?_⟩
  obtain⟨v,J,O⟩:=L w _ ah ρ _ (hR.aI x);exact⟨v,by simp only[execOp,E];exact mC J,O⟩
 ·rename_i x;obtain⟨I,D,L⟩:=abE (w:=default) (B:=0) (ah:=λ_=>none) (ρ:=λ_=>.dI undef) h
  refine⟨_,I,λX k=>D.at_ _,λah ρ a w o E hR=>?_⟩
  obtain⟨_,_,L⟩:=abE (w:=w) (B:=w0.heap.size) (ah:=ah) (ρ:=ρ) h;obtain⟨ad,hu⟩:=L _ (hR.aI x);refine⟨a.eval x,?_,hR.aI x⟩;simp only[execOp,E,hu];rfl
 ·rename_i x t;obtain⟨y,I,D⟩:=ant h
  refine⟨_,I,λX k=>D.at_ _,λah ρ a w o E hR=>?_⟩
  obtain⟨Q,C,L⟩:=ama (w0:=w0) (N:=N) (ty:=o.type) (r:=y) (D.at_ _);injection C with C;subst C;obtain⟨v,J,O⟩:=L ah ρ a w hR _ (hR.aI x);exact⟨v,by simp only[execOp,E,resolve,fq,Sem.run_pure,kL,invoke,builtin,List.map_toArray,List.map_cons,List.map_nil];rw[J];rfl,O⟩
 ·rename_i x y t T;obtain⟨z,I,D⟩:=abw h;obtain⟨Z,C,L⟩:=aaR (P:=P) (k:=λz=>some z) (r:=z) (D.at_ _);injection C with C;subst C
  refine⟨_,I,λX k=>D.at_ _,λah ρ a w o E hR=>?_⟩
  obtain⟨v,J,O⟩:=L w _ ah ρ t o.type _ _ (hR.aI x) (hR.aI y);refine⟨v,?_,O⟩;simp only[execOp,E,resolve,fq,Sem.run_pure,kL,invoke,builtin,List.map_toArray,List.map_cons,List.map_nil];have J:(Builtin.max_ #[t,T] o.type #[a.eval x,a.eval y]).run P w = .ok v w:=J;rw[J];rfl
 ·rename_i x y t T;obtain⟨z,I,D⟩:=abw h;obtain⟨Z,C,L⟩:=aaR (P:=P) (k:=λz=>some z) (r:=z) (D.at_ _);injection C with C;subst C
  refine⟨_,I,λX k=>D.at_ _,λah ρ a w o E hR=>?_⟩
  obtain⟨v,J,O⟩:=L w _ ah ρ t o.type _ _ (hR.aI x) (hR.aI y);refine⟨v,?_,O⟩;simp only[execOp,E,resolve,fq,Sem.run_pure,kL,invoke,builtin,List.map_toArray,List.map_cons,List.map_nil];have J:(Builtin.min_ #[t,T] o.type #[a.eval x,a.eval y]).run P w = .ok v w:=J;rw[J];rfl
 ·rename_i t x lo hi;obtain⟨y,I,D⟩:=anB h;obtain⟨Q,C,L⟩:=amE (w0:=w0) (N:=N) (k:=λz=>some z) (r:=y) (D.at_ _);injection C with C;subst C
  refine⟨_,I,λX k=>D.at_ _,λah ρ a w o E hR=>?_⟩
  have Y:∀ z:aj Operand,(∀ b,z.map (aI σ)=some b -> ∃ v,z.map a.eval=some v/\RA w w0.heap.size ah ρ b v)/\(z.map (aI σ)=none -> z.map a.eval=none):=by
   intro z;cases z with
   |none=>simp_all
   |some z=>exact⟨λb hb=>(by cases hb;exact⟨_,rfl,hR.aI z⟩),λhb=>(by cases hb)⟩
  obtain⟨v,J,U⟩:=L ah ρ a w hR _ _ _ (hR.aI x) (Y lo).1 (Y lo).2 (Y hi).1 (Y hi).2;exact⟨v,by simp only[execOp,E];exact mC J,U⟩
 ·cases h
def aoe{k:S->aj X}(Z:fX P Φ)(h:ig P N Φ σ o k=some r):∃ J,k J=some r/\l8 P w0 N o σ J:=by
 unfold ig at h;split at h
 ·rename_i e C;obtain⟨d,D,h⟩:=gB h;obtain⟨J,h,L⟩:=ami (w0:=w0) h
  refine⟨J,h,.mem D λah ρ a w hR=>?_⟩
  obtain⟨w',aE,ρ',v,E,I⟩:=L ah ρ a w hR;exact⟨w',aE,ρ',v,by simp only[execOp,C];exact mC E,I⟩
 ·rename_i e x C;obtain⟨d,D,h⟩:=gB h;obtain⟨J,h,L⟩:=anG (w0:=w0) (e:=e) h
  refine⟨J,h,.mem D λah ρ a w hR=>?_⟩
  obtain⟨w',aE,ρ',v,E,I⟩:=L ah ρ a w hR _ (hR.aI x);exact⟨w',aE,ρ',v,by simp only[execOp,C];exact mC E,I⟩
 ·rename_i t len parts C;obtain⟨d,D,h⟩:=gB h;cases hn:oE t with
  | true=>
   rw[hn,ak]at h;obtain⟨J,h,L⟩:=anH (w0:=w0) h
   refine⟨J,h,.mem D λah ρ a w hR=>?_⟩
   obtain⟨w',aE,ρ',v,E,I⟩:=L ah ρ a w hR;exact⟨w',aE,ρ',v,by simp only[execOp,C];exact mC E,I⟩
  | false=>
   rw[hn,aq]at h;obtain⟨J,h,L⟩:=amu (w0:=w0) h
   refine⟨J,h,.mem D λah ρ a w hR=>?_⟩
   obtain⟨w',aE,ρ',v,E,I⟩:=L ah ρ a w hR;exact⟨w',aE,ρ',v,by simp only[execOp,C];exact mC E,I⟩
 ·rename_i t x y C;split at h
  ·rename_i D;cases hn:vn (aI σ x) (aI σ y)with
   | true=>
    rw[hn,ak]at h;obtain⟨J,h,L⟩:=anN (w0:=w0) (N:=N) h
    refine⟨J,h,λa w K Q hR hK=>?_⟩
    obtain⟨ah,ρ,hR⟩:=hR;obtain⟨w',aE,E,I⟩:=L ah ρ a w hR _ _ (hR.aI x) (hR.aI y);have:(execOp a.eval o).run P w = .ok .skip w':=by
     simp only[execOp,C];rw[fq,E];rfl
    unfold Oper.wp;rw[this,Oper.upon_skip,D];exact hK _ _ ⟨aE,ρ,I⟩
   | false=>
    rw[hn,aq]at h;obtain⟨J,h,L⟩:=aay (w0:=w0) (N:=N) h
    refine⟨J,h,λa w K Q hR hK=>?_⟩
    obtain⟨ah,ρ,hR⟩:=hR;obtain⟨w',E,I⟩:=L ah ρ a w hR _ _ (hR.aI x) (hR.aI y);have:(execOp a.eval o).run P w = .ok .skip w':=by
     simp only[execOp,C];rw[fq,E];rfl
    unfold Oper.wp;rw[this,Oper.upon_skip,D];exact hK _ _ ⟨ah,ρ,I⟩
  ·cases h
 ·rename_i t l c C;obtain⟨d,D,h⟩:=gB h;obtain⟨J,h,L⟩:=amj (w0:=w0) h
  refine⟨J,h,.mem D λah ρ a w hR=>?_⟩
  obtain⟨w',aE,ρ',v,E,I⟩:=L ah ρ a w hR _ _ (hR.aI l) (hR.aI c);exact⟨w',aE,ρ',v,by simp only[execOp,C];exact mC E,I⟩
 ·rename_i f args jy C;split at h
  next c O=>obtain⟨d,D,h⟩:=gB h;obtain⟨T,U⟩:=Z f _ O;exact amI C D T U h
  next c O=>obtain⟨T,U⟩:=Z f _ O;exact am3 C T U h
  next c O=>obtain⟨d,D,h⟩:=gB h;obtain⟨T,U⟩:=Z f _ O;exact anR C D T U h
  ·rename_i F O;obtain⟨d,D,h⟩:=gB h;obtain⟨T,U⟩:=Z f _ O;split at h
   next x hx=>exact anQ C hx D T U h
   ·cases h
  next c O=>obtain⟨T,U⟩:=Z f _ O;exact abM (ex:=[]) C rfl T U h
  next c O=>obtain⟨T,U⟩:=Z f _ O;exact am9 C T U h
  next c O=>obtain⟨d,D,h⟩:=gB h;obtain⟨T,U⟩:=Z f _ O;exact amJ C D T U h
  next c O=>obtain⟨T,U⟩:=Z f _ O;exact anY C T U h
  ·cases h
 ·rename_i x y t t' C;cases mg:Nat.beq t t' with
  |false=>rw[mg]at h;cases h
  | true=>
   rw[mg,ak]at h;obtain rfl:=ck mg;obtain⟨d,D,h⟩:=gB h;have hh:∃ J,k J=some r/\∀ ah ρ a w,Rl w0 N ah ρ σ a w->∀ u v,RA w w0.heap.size ah ρ (aI σ x) u->RA w w0.heap.size ah ρ (aI σ y) v->
     ∃w' aE ρ' z,(Builtin.append_ #[t,t] o.type #[u,v]).run P w = .ok z w'/\Rl w0 N aE ρ' J (a.put (some d) z) w':=by
    cases hn:oE t with
    |true=>rw[hn,ak]at h;exact anL h
    | false=>
     rw[hn,aq]at h;cases hk:HV t d x with
     |true=>rw[hk,ak]at h;exact aob h
     |false=>rw[hk,aq]at h;exact amk h
   obtain⟨J,h,L⟩:=hh
   refine⟨J,h,.mem D λah ρ a w hR=>?_⟩
   obtain⟨w',aE,ρ',v,E,I⟩:=L ah ρ a w hR _ _ (hR.aI x) (hR.aI y);refine⟨w',aE,ρ',v,?_,I⟩;simp only[execOp,C,resolve,fq,Sem.run_pure,kL,invoke,builtin,List.map_toArray,List.map_cons,List.map_nil];rw[E];rfl
 ·rename_i t C;obtain⟨d,D,h⟩:=gB h;obtain⟨J,h,L⟩:=an4 (w0:=w0) (t:=t) (P:=P) h
  refine⟨J,h,.mem D λah ρ a w hR=>?_⟩
  obtain⟨w',aE,ρ',v,E,I⟩:=L ah ρ a w hR;exact⟨w',aE,ρ',v,by simp only[execOp,C];exact mC E,I⟩
 ·rename_i t x i C;obtain⟨v,Y,_,L⟩:=abR (w0:=w0) (N:=N) h
  refine l8.val Y λah ρ a w hR=>?_
  obtain⟨y,E,I⟩:=L ah ρ a w hR _ _ (hR.aI x) (hR.aI i);exact⟨y,by simp only[execOp,C];exact mC E,I⟩
 ·rename_i t x i v C;split at h
  ·rename_i D;obtain⟨J,h,_,L⟩:=abS (w0:=w0) (N:=N) h
   refine⟨J,h,λa w K Q hR hK=>?_⟩
   obtain⟨ah,ρ,hR⟩:=hR;obtain⟨w',E,I⟩:=L ah ρ a w hR _ _ _ (hR.aI x) (hR.aI i) (hR.aI v);have:(execOp a.eval o).run P w = .ok .skip w':=by
    simp only[execOp,C];rw[fq,E];rfl
   unfold Oper.wp;rw[this,Oper.upon_skip,D];exact hK _ _ ⟨ah,ρ,I⟩
  ·cases h
 ·rename_i t args jy C;split at h
  ·rename_i f cap sK;split at h
   next c O=>obtain⟨T,U⟩:=Z f _ O;exact abM C sK T U h
   ·cases h
  ·cases h
 ·rename_i f abY C;split at h
  ·rename_i ps qE;obtain⟨Y,h2⟩:=abN (w0:=w0) (N:=N) _ _ qE
   refine l8.val h λah ρ a w hR=>⟨.func (.func f) #[] (abY.map a.eval),by simp[execOp,C,Instr.makeFunc],_,rfl,by simp[Y],λj p hp=>?_⟩
   obtain⟨b,off,e1,e2⟩:=h2 ah ρ a w hR j p hp;exact⟨b,off,e1,by simpa using e2⟩
  ·cases h
 ·rename_i x t C;obtain⟨rS,Y,L⟩:=amn (w0:=w0) (N:=N) (ty:=o.type) h;have run:∀ ah ρ a w,Rl w0 N ah ρ σ a w->∃ w',(execOp a.eval o).run P w = .ok (.value (.tuple #[])) w'/\Rl w0 N ah ρ rS a w':=by
   intro ah ρ a w hR;obtain⟨w',E,I⟩:=L ah ρ a w hR _ (hR.aI x);refine⟨w',?_,I⟩;simp only[execOp,C,resolve,fq,Sem.run_pure,kL,invoke,builtin,List.map_toArray,List.map_cons,List.map_nil];rw[E];rfl
  unfold iB at Y;split at Y
  ·rename_i D
   refine⟨_,Y,λa w K Q hR hK=>?_⟩
   obtain⟨ah,ρ,hR⟩:=hR;obtain⟨w',E,I⟩:=run ah ρ a w hR;unfold Oper.wp;rw[E,Oper.upon_value,D];exact hK _ _ ⟨ah,ρ,I⟩
  ·rename_i d D;cases hN:Nat.blt d N with
   |false=>rw[hN]at Y;cases Y
   | true=>
    rw[hN,ak]at Y
    refine⟨_,Y,.mem D λah ρ a w hR=>?_⟩
    obtain⟨w',E,I⟩:=run ah ρ a w hR;exact⟨w',ah,ρ,_,E,I.set trivial (by have:=cI hN;omega)⟩
 ·cases h
def VF{k:S -> aj X}(E:fX P Φ)(h:dm P N Φ σ o k=some r):∃ C,k C=some r/\l8 P w0 N o σ C:=by
 unfold dm at h;cases D:fM o.op with
 | true=>
  rw[D,ak]at h;obtain⟨v,I,_,J⟩:=H7 h;exact l8.val I λah ρ a w hR=>J ah ρ a w o rfl hR
 | false=>
  rw[D]at h;exact aoe E h
def aof{k:S->aj X}(T:fX P Φ)(h:nU P N Φ σ o k=some r):∃ D,k D=some r/\l8 P w0 N o σ D:=by
 unfold nU at h;split at h
 ·rename_i t x y E I;split at h
  ·rename_i q s i j Y;obtain⟨D,C,J⟩:=an1 (w0:=w0) (N:=N) h
   refine⟨D,C,λa w K Q hR Z=>?_⟩
   obtain⟨ah,ρ,hR⟩:=hR;have U:=hR.aI y;rw[Y]at U;obtain⟨w',aE,L,gM⟩:=J ah ρ a w hR _ _ (hR.aI x) U;have:(execOp a.eval o).run P w = .ok .skip w':=by
    simp only[execOp,E];rw[fq,L];rfl
   unfold Oper.wp;rw[this,Oper.upon_skip,I];exact Z _ _ ⟨aE,ρ,gM⟩
  ·exact VF T h
 ·rename_i t x lo hi mx d E I;obtain⟨C,J⟩:=an3 (w0:=w0) (N:=N) h;cases O:Nat.blt d N with
  |false=>rw[O]at C;cases C
  | true=>
   rw[O,ak]at C
   refine⟨_,C,.mem I λah ρ a w hR=>?_⟩
   obtain⟨v,L⟩:=J ah ρ a w hR _ _ _ _ (hR.aI x) (hR.aI lo) (hR.aI hi) (hR.aI mx);refine⟨w,ah,ρ,v,?_,hR.set trivial (by have:=cI O;omega)⟩;simp only[execOp,E,jj];exact mC L
 ·exact VF T h
/-! What an operation gives hangs on its operands and on the roots alone. -/
def Eh{σ2:S}(C:σ2.m=σ.m)(x:Lf)(k:V->aj X):iS σ2 x k=iS σ x k:=by
 cases x<;>simp only[iS,C]
def aog{σ2:S}(C:σ2.m=σ.m)(t:TypeId)(x:A)(k:A->aj X):jw P σ2 t x k=jw P σ t x k:=by
 simp only[jw,C]
def aoh{σ2:S}(C:σ2.m=σ.m)(t:TypeId)(x i:A)(k:A->aj X):pK P σ2 t x i k=pK P σ t x i k:=by
 simp only[pK,C]
def abZ{σ2:S}(C:σ2.m=σ.m)(q:aa Nat)(s i j:Nat)(k:V->aj X):tN σ2 q s i j k=tN σ q s i j k:=by
 simp only[tN,C]
def aoi{σ2:S}(C:σ2.m=σ.m)(x:A)(k:V->aj X):qx σ2 x k=qx σ x k:=by
 cases x<;>simp only[qx,Eh C,abZ C]
def aoj{σ2:S}(C:σ2.m=σ.m)(t:TypeId)(x:A)(lo hi:aj A)(k:A -> aj X):rH P σ2 t x lo hi k=rH P σ t x lo hi k:=by
 unfold rH;split
 ·simp[oy,C]
 ·simp[oy,C]
 ·rfl
def aok{σ2:S}(D:σ2.m=σ.m)(t C:TypeId)(x:A)(k:A->aj X):ox P σ2 t C x k=ox P σ t C x k:=by
 unfold ox;split<;>simp only[Eh D]
def aol{σ2:S}(C:σ2.m=σ.m)(t:TypeId)(x:A)(k:A->aj X):rD P σ2 t x k=rD P σ t x k:=by
 cases x<;>simp only[rD,Eh C]
def aom{σ2:S}(C:σ2.m=σ.m)(op:BinOp)(t:TypeId)(x y:A)(k:A->aj X):mT P σ2 op t x y k=mT P σ op t x y k:=by
 simp only[mT,Eh C]
def VG{σ2:S}{op:BinOp}{t:TypeId}{x y:A}{k:A -> aj X}(h:∀ l,x = .lf l -> ∀ (k:V -> aj X),iS σ2 l k=iS σ l k):mT P σ2 op t x y k=mT P σ op t x y k:=by
 unfold mT
 grind
def aon{σ2:S}(t:TypeId)(parts:aa (Nat×Operand))(h:∀ p∈parts,aI σ2 p.2=aI σ p.2)(k:A -> aj X):vc P σ2 t parts k=vc P σ t parts k:=by
 have e:(parts.map λp=>(p.1,aI σ2 p.2))=parts.map λp=>(p.1,aI σ p.2):=lX λp C=>by rw[h p C]
 simp[vc,e]
def VH{σ2:S}(C:σ2.m=σ.m):∀ (xs:aa Lf) (k:aa V -> aj X),qC σ2 xs k=qC σ xs k
 |[],k=>rfl
 | x :: xs,k=>by
  simp[qC,Eh C];congr 1;funext y;exact VH C xs _
def ab0{σ2:S}(C:σ2.m=σ.m)(x:A)(k:Pt->aj X):oz σ2 x k=oz σ x k:=by
 unfold oz;simp only[VH C,abZ C,C]
def ab1{σ2:S}(C:σ2.m=σ.m):∀ (xs:aa Operand) (k:aa Pt -> aj X),(∀ x∈xs,aI σ2 x=aI σ x) -> mU σ2 xs k=mU σ xs k
 |[],k,_=>rfl
 | x :: xs,k,h=>by
  simp[mU,ab0 C,h x (.head _)];congr 1;funext p;exact ab1 C xs _ (λy D=>h y (.tail _ D))
def aoo{σ2:S}(C:σ2.m=σ.m)(x:A)(k:Pt->aj X):sN σ2 x k=sN σ x k:=by
 unfold sN;simp only[ab0 C,VH C,C]
def ab2{σ2:S}(C:σ2.m=σ.m):∀ (xs:aa Operand) (k:aa Pt -> aj X),(∀ x∈xs,aI σ2 x=aI σ x) -> qD σ2 xs k=qD σ xs k
 |[],k,_=>rfl
 | x :: xs,k,h=>by
  simp[qD,aoo C,h x (.head _)];congr 1;funext p;exact ab2 C xs _ (λy D=>h y (.tail _ D))
def H8{σ2:S}(op:Op)(C:σ2.m=σ.m)(h:∀ x∈op.operands,aI σ2 x=aI σ x)(k:A -> aj X):eE P σ2 op k=eE P σ op k:=by
 unfold eE;split
 ·rw[h _ (by simp[Op.operands])]
 ·rw[h _ (by simp[Op.operands])]
 next c x y=>rw[h c (by simp[Op.operands]),h x (by simp[Op.operands]),h y (by simp[Op.operands])]
 next t parts=>exact aon t _ (λp E=>h p.2 (by simp only[Op.operands];exact List.mem_toArray.2 (List.mem_map_of_mem (f:=(·.2)) E))) k
 next t x=>rw[h x (by simp[Op.operands]),aog C]
 next op t x y yt=>rw[h x (by simp[Op.operands]),h y (by simp[Op.operands]),aom C]
 next op t x=>rw[h x (by simp[Op.operands])]
 next s d x=>rw[h x (by simp[Op.operands]),aok C]
 next s x f=>rw[h x (by simp[Op.operands])]
 next s x f=>rw[h x (by simp[Op.operands])]
 next t x i=>rw[h x (by simp[Op.operands]),h i (by simp[Op.operands]),aoh C]
 next t x i=>rw[h x (by simp[Op.operands]),h i (by simp[Op.operands])]
 next x i=>rw[h x (by simp[Op.operands])]
 next x=>rw[h x (by simp[Op.operands])]
 next x t=>rw[h x (by simp[Op.operands,Call.operands]),aol C]
 next x y t I=>rw[h x (by simp[Op.operands,Call.operands]),h y (by simp[Op.operands,Call.operands])]
 next x y t I=>rw[h x (by simp[Op.operands,Call.operands]),h y (by simp[Op.operands,Call.operands])]
 ·rename_i t x lo hi;have e:∀ z:aj Operand,(∀ y,z=some y -> aI σ2 y=aI σ y) -> z.map (aI σ2)=z.map (aI σ):=by
   intro z J;cases z with
   |none=>rfl
   |some z=>simp_all
  rw[h x (by simp[Op.operands]),e lo (λy D=>h y (by subst D;simp[Op.operands])),e hi (λy D=>h y (by subst D;simp[Op.operands])),aoj C]
 ·rfl
/-! .. and a root that it does not name is of no account. -/
def NW(n:Nat)(x:aZ)(m:Nat->aj aZ):Nat->aj aZ:=bV (λr=>bif Nat.beq r n then none else (m r).map (aZ.drop n)) n (some x)
def ab3{n:Nat}{x:aZ}{m:Nat -> aj aZ}{q:Nat}(h:q≠n):NW n x m q=(m q).map (aZ.drop n):=by
 have hb:Nat.beq q n=false:=by
  cases hb:Nat.beq q n with
  |false=>rfl
  |true=>simp_all
 unfold NW;rw[cF _ _ _ h,hb];rfl
def w6{n:Nat}{x:aZ}{m:Nat -> aj aZ}:∀ (q:aa Nat) (k:V -> aj X),bL n q=false -> gn (NW n x m) q k=gn m q k
 |[],_,_=>rfl
 | [y],k,h=>by
  have D:y≠n:=by rintro rfl;simp[bL]at h
  simp[gn,ab3 D];cases m y with
  |none=>rfl
  |some z=>cases z<;>rfl
 |[_,_],_,_=>rfl
 |[j,i,s],k,h=>rfl
 | j :: i :: s :: C :: q,k,h=>by
  have E:bL n (C::q)=false:=by simpa [bL]using h
  exact w6 (C::q) _ E
def aop{n:Nat}{t:TypeId}{cs:aa Lf}{y:A}(h:cA (λX k=>lH (X:=X) P t cs k) y):cA (λX k=>lH (X:=X) P t (cs.map (Lf.drop n)) k) (y.drop n):=by
 have C:=h.at_ (λz=>some z);unfold lH at C;split at C
 ·rename_i I E;split at C
  ·rename_i hl;split at C
   next D=>injection C with C;subst C;intro X k;simp[lH,E,dh,br hl,D];rfl
   ·rename_i D;split at C
    next z=>injection C with C;subst C;intro X k;simp at hl;simp[lH,E,List.map_cons,List.map_nil,iz,br hl,D];rfl
    ·cases C
   ·cases C
  ·cases C
 ·cases C
def A.sV{p pb:Nat -> Bool}{x:A}{n:Nat}(h:x.kz p pb=true)(C:p n=true)(hb:pb n=true):x.drop n=x:=by
 cases x with
 |lf x=>exact bF A.lf (Lf.mz h C)
 |agg cs=>exact bF A.agg (mY.mz h C)
 |cQ xs=>exact A.mz h C
 |ptr k=>exact A.mz h C
 |view k s i j=>exact A.mz h C
 |pk r j=>exact A.mz h hb
 |aG r j=>exact A.mz h hb
 |fn f cap=>exact A.mz h hb
 |_=>rfl
def aoq{p pb:Nat->Bool}{r j n:Nat}(h:(A.aG r j).kz p pb=true)(C:pb n=true):r≠n:=by
 rintro rfl;have h:(!pb r)=true:=h;rw[C]at h;cases h
def aor{p:Nat->Bool}{r j n:Nat}(h:(A.aG r j).nr p=true)(C:p n=true):r≠n:=by
 rintro rfl;have h:(!p r)=true:=h;rw[C]at h;cases h
def aos{p pb:Nat -> Bool}{n:Nat}{x:aZ}{op:Op}{v:A}(h:cA (λX k=>eE (X:=X) P σ op k) v)(O:p n=true)(Z:pb n=true)(T:∀ y∈op.operands,(aI σ y).kz p pb=true)(hv:v.kz p pb=true):
  cA (λX k=>eE (X:=X) P ((σ.drop n).root n x) op k) v:=by
 have J:∀ y∈op.operands,aI ((σ.drop n).root n x) y=aI σ y:=by
  intro y C;have:=A.sV (T y C) O Z;cases y with
  |tmp t=>exact this
  |const v=>rfl
  |global g=>rfl
  |func f=>rfl
 have Q:((σ.drop n).root n x).m=NW n x σ.m:=rfl;have VI:=A.sV hv O Z;have dN:∀ y∈op.operands,aI ⟨((σ.drop n).root n x).t,σ.m⟩ y=aI σ y:=by
  intro y C;rw[<- J y C];rfl
 -- an operation that does not look at the roots
 have H9:(∀ (X:Type) (k:A -> aj X),eE P ⟨((σ.drop n).root n x).t,σ.m⟩ op k=eE P ((σ.drop n).root n x) op k) -> cA (λX k=>eE (X:=X) P ((σ.drop n).root n x) op k) v:=by
  intro he X k;exact(he X k).symm.trans ((H8 (σ:=σ) (σ2:=⟨((σ.drop n).root n x).t,σ.m⟩) op rfl dN k).trans (h.at_ k))
 have E:=h.at_ (X:=A) (λz=>some z);unfold eE at E;split at E
 case h_5 t y=>
  intro X k;have C:=T y (by simp[Op.operands]);have L:=J y (by simp[Op.operands]);simp only[eE];rw[L];generalize aI σ y=u at E C;have hd:cA (λX k=>jw (X:=X) P σ t u k) v:=by
   obtain⟨y',D,Y⟩:=HM E;simp_all
  unfold jw at E ⊢;split at E
  ·cases E
  ·rename_i sz gx;split at E
   ·rename_i r' j;split at E
    next cs kj=>obtain⟨y',D,Y⟩:=wW E;injection D with D;subst D;have U:=aop (n:=n) Y;rw[VI]at U;rw[Q,ab3 (aoq C Z),kj];simp only[jj,aZ.drop];rw[<- List.map_drop,<- List.map_take];exact U.at_ k
    ·cases E
   ·obtain⟨y',D,Y⟩:=wW E;injection D with D;subst D;exact Y.at_ k
   ·rename_i j i s q;have hq:bL n q=false:=by
     have I:fH p (j::i::s::q)=true:=C;have:=sR I O;cases q with
     | nil=>
      obtain⟨z,_,hg,_⟩:=sQ _ _ E;cases hg
     |cons q0 q=>simpa [bL]using this
    rw[Q,w6 q _ hq];have U:=hd.at_ k;unfold jw at U;rw[gx]at U;exact U
   ·cases E
 case h_6 op t x y yt=>
  intro X k;have hx:=T x (by simp[Op.operands]);have Ia:=J x (by simp[Op.operands]);have L:=J y (by simp[Op.operands]);have D:=h.at_ k;simp only[eE]at D ⊢;rw[Ia,L,<- D];generalize aI σ x=u at hx
  refine VG λl e k=>?_
  subst e;cases l with
  | own q=>
   have I:=hx;simp[iS];rw[Q,w6 q _ (sR I O)]
  |v z=>rfl
  |dead=>rfl
 case h_11 t y i=>
  intro X k;have C:=T y (by simp[Op.operands]);have L:=J y (by simp[Op.operands]);have Ib:=J i (by simp[Op.operands]);have D:=h.at_ k;simp only[eE]at D ⊢;rw[L,Ib,<- D];generalize aI σ y=u at C;unfold pK;split
  ·rfl
  ·split
   ·split
    ·rfl
    next q=>have I:=C;rw[Q,w6 q _ (sR I O)]
    ·rfl
   ·rfl
 case h_8 t t2 y=>
  intro X k;have C:=T y (by simp[Op.operands]);have L:=J y (by simp[Op.operands]);have D:=h.at_ k;simp only[eE]at D ⊢;rw[L,<- D];generalize aI σ y=u at C;unfold ox;split
  ·rfl
  ·rename_i z _;cases z with
   | own q=>
    have I:=C;simp[iS];rw[Q,w6 q _ (sR I O)]
   |v z=>rfl
   |dead=>rfl
  ·rfl
 case h_15 y t=>
  intro X k;have C:=T y (by simp[Op.operands,Call.operands]);have L:=J y (by simp[Op.operands,Call.operands]);have D:=h.at_ k;simp only[eE]at D ⊢;rw[L,<- D];generalize aI σ y=u at C;unfold rD;split
  ·rename_i z;cases z with
   | own q=>
    have I:=C;simp[iS];rw[Q,w6 q _ (sR I O)]
   |v z=>rfl
   |dead=>rfl
  ·rfl
  ·rfl
 case h_18 t y lo hi=>
  intro X k;have C:=T y (by simp[Op.operands]);have L:=J y (by simp[Op.operands]);have e:∀ z:aj Operand,(∀ y,z=some y -> aI ((σ.drop n).root n x) y=aI σ y) -> z.map (aI ((σ.drop n).root n x))=z.map (aI σ):=by
   intro z hz;cases z with
   |none=>rfl
   |some z=>simp_all
  have D:=h.at_ k;simp only[eE]at D ⊢;rw[L,e lo (λy C=>J y (by subst C;simp[Op.operands])),e hi (λy C=>J y (by subst C;simp[Op.operands])),<- D];generalize aI σ y=u at C;unfold rH;split
  ·rename_i q;have I:fH p q=true:=C;unfold oy;split
   ·split
    ·rw[Q,w6 q _ (sR I O)]
    ·rfl
   ·rfl
  ·rename_i q s j;have I:fH p q=true:=C;unfold oy;split
   ·split
    ·rw[Q,w6 q _ (sR I O)]
    ·rfl
   ·rfl
  ·rfl
 case h_19=>cases E
 all_goals exact H9 λX k=>rfl
/-! .. nor are roots that a call writes. -/
def NX(ns:aa Nat)(nr:aa (Nat×aZ))(m:Nat->aj aZ):Nat->aj aZ:=λr=>match nr.lookup r with
 |some x=>some x
 |none=>bif cu r ns ||cu r []then none else (m r).map (aZ.bH ns [])
structure Ic (p:Nat->Bool) (ns:List Nat) (nr:List (Nat×aZ)):Prop where
 ns:∀n,cu n ns=true->p n=true
 nr:∀n x,nr.lookup n=some x->p n=true
def ab4{p:Nat->Bool}{ns:aa Nat}{nr:aa (Nat×aZ)}{m:Nat->aj aZ}(hb:Ic p ns nr){q:Nat}(h:p q=false):NX ns nr m q=(m q).map (aZ.bH ns []):=by
 unfold NX;cases C:nr.lookup q with
 |some x=>rw[hb.nr q x C]at h;cases h
 | none=>
  cases D:cu q ns with
  |true=>rw[hb.ns q D]at h;cases h
  |false=>rfl
def VJ{p:Nat -> Bool}{ns k:aa Nat}(h:fH p k=true)(hb:∀ n,cu n ns=true -> p n=true):cJ k ns=false:=by
 unfold fH at h;unfold cJ
 grind
def VK(k:aa Nat):cJ k []=false:=by
 unfold cJ;split<;>rfl
def Lf.tY{p:Nat -> Bool}{x:Lf}{ns:aa Nat}(h:x.nr p=true)(hb:∀ n,cu n ns=true -> p n=true):x.bH ns []=x:=by
 cases x with
 | own k=>
  have e:Lf.bH ns [] (.own k)=(bif cJ k [] ||(cJ k ns && !(Nat.beq _ 1))then .dead else .own k):=rfl;rw[e,VJ h hb,VK];rfl
 |v x=>rfl
 |dead=>rfl
def mY.tY{p:Nat->Bool}{xs:aa Lf}{ns:aa Nat}(h:xs.all (Lf.nr p)=true)(hb:∀ n,cu n ns=true->p n=true):xs.map (Lf.bH ns [])=xs:=by
 conv=>rhs;rw[<-List.map_id xs]
 exact lX λx C=>Lf.tY (cE.1 h x C) hb
def A.tY{p:Nat -> Bool}{x:A}{ns:aa Nat}(h:x.nr p=true)(hb:∀ n,cu n ns=true -> p n=true):x.bH ns []=x:=by
 cases x with
 |lf x=>exact bF A.lf (Lf.tY h hb)
 |agg cs=>exact bF A.agg (mY.tY h hb)
 | cQ xs=>
  refine bF A.cQ ?_
  conv=>rhs;rw[<- List.map_id xs]
  refine lX λq C=>?_
  have:=mY.tY (cE.1 h q C) hb;simp_all
 | ptr k=>
  have e:A.bH ns [] (.ptr k)=(bif cJ k [] ||cJ k ns then .undef else .ptr k):=rfl;rw[e,VJ h hb,VK];rfl
 | view k s i j=>
  have e:A.bH ns [] (.view k s i j)=(bif cJ k [] ||cJ k ns then .undef else .view k s i j):=rfl;rw[e,VJ h hb,VK];rfl
 | fn f cap=>
  have e:A.bH ns [] (.fn f cap)=(bif cap.any _ then .undef else .fn f cap):=rfl;have:cap.any (λp=>cu p.1 [])=false:=by
   rw[kK];intro q C hb;cases hb
  simp_all
 |_=>rfl
def A.Ei{p pb:Nat -> Bool}{x:A}{ns:aa Nat}(h:x.kz p pb=true)(hb:∀ n,cu n ns=true -> p n=true):x.bH ns []=x:=by
 cases x with
 |lf x=>exact A.tY (x:=.lf x) (p:=p) h hb
 |agg cs=>exact A.tY (x:=.agg cs) (p:=p) h hb
 |cQ xs=>exact A.tY (x:=.cQ xs) (p:=p) h hb
 |ptr k=>exact A.tY (x:=.ptr k) (p:=p) h hb
 |view k s i j=>exact A.tY (x:=.view k s i j) (p:=p) h hb
 | fn f cap=>
  have e:A.bH ns [] (.fn f cap)=(bif cap.any _ then .undef else .fn f cap):=rfl;have:cap.any (λp=>cu p.1 [])=false:=by
   rw[kK];intro q C hb;cases hb
  simp_all
 |_=>rfl
def zF{p:Nat -> Bool}{ns:aa Nat}{nr:aa (Nat×aZ)}{m:Nat -> aj aZ}(hb:Ic p ns nr):∀ (q:aa Nat) (k:V -> aj X),fH p q=true -> gn (NX ns nr m) q k=gn m q k
 |[],_,_=>rfl
 | [y],k,h=>by
  have D:p y=false:=by simpa [fH]using h
  simp[gn,ab4 hb D];cases m y with
  |none=>rfl
  |some z=>cases z<;>rfl
 |[_,_],_,_=>rfl
 |[j,i,s],k,h=>rfl
 | j :: i :: s :: C :: q,k,h=>by
  have E:fH p (C::q)=true:=by simpa [fH]using h
  exact zF hb (C::q) _ E
def aot{ns:aa Nat}{t:TypeId}{cs:aa Lf}{y:A}(h:cA (λX k=>lH (X:=X) P t cs k) y):cA (λX k=>lH (X:=X) P t (cs.map (Lf.bH ns [])) k) (y.bH ns []):=by
 have C:=h.at_ (λz=>some z);unfold lH at C;split at C
 ·rename_i I E;split at C
  ·rename_i hl;split at C
   next D=>injection C with C;subst C;intro X k;simp[lH,E,dh,br hl,D];rfl
   ·rename_i D;split at C
    next z=>injection C with C;subst C;intro X k;simp at hl;simp[lH,E,List.map_cons,List.map_nil,iz,br hl,D];rfl
    ·cases C
   ·cases C
  ·cases C
 ·cases C
def aou{p pb:Nat -> Bool}{ns:aa Nat}{nr:aa (Nat×aZ)}{op:Op}{v:A}(h:cA (λX k=>eE (X:=X) P σ op k) v)(hb:Ic p ns nr)(Q:∀ y∈op.operands,(aI σ y).kz p pb=true)(hv:v.kz p pb=true)(U:∀ t y r j,op = .load t y -> aI σ y = .aG r j -> p r=false):
  cA (λX k=>eE (X:=X) P (σ.bH ns [] nr) op k) v:=by
 have J:∀ y∈op.operands,aI (σ.bH ns [] nr) y=aI σ y:=by
  intro y C;have:=A.Ei (Q y C) hb.ns;cases y with
  |tmp t=>exact this
  |const v=>rfl
  |global g=>rfl
  |func f=>rfl
 have O:(σ.bH ns [] nr).m=NX ns nr σ.m:=rfl;have VI:=A.Ei hv hb.ns;have dN:∀ y∈op.operands,aI ⟨(σ.bH ns [] nr).t,σ.m⟩ y=aI σ y:=by
  intro y C;rw[<- J y C];rfl
 have H9:(∀ (X:Type) (k:A -> aj X),eE P ⟨(σ.bH ns [] nr).t,σ.m⟩ op k=eE P (σ.bH ns [] nr) op k) -> cA (λX k=>eE (X:=X) P (σ.bH ns [] nr) op k) v:=by
  intro he X k;exact(he X k).symm.trans ((H8 (σ:=σ) (σ2:=⟨(σ.bH ns [] nr).t,σ.m⟩) op rfl dN k).trans (h.at_ k))
 have E:=h.at_ (X:=A) (λz=>some z);unfold eE at E;split at E
 case h_5 t y=>
  intro X k;have C:=Q y (by simp[Op.operands]);have L:=J y (by simp[Op.operands]);simp only[eE];rw[L];have U:=λr j e=>U t y r j rfl e
  generalize aI σ y=u at E C U;have hd:cA (λX k=>jw (X:=X) P σ t u k) v:=by
   obtain⟨Z,D,Y⟩:=HM E;simp_all
  unfold jw at E ⊢;split at E
  ·cases E
  ·rename_i sz gx;split at E
   ·rename_i r' j;split at E
    next cs kj=>obtain⟨Z,D,Y⟩:=wW E;injection D with D;subst D;have T:=aot (ns:=ns) Y;rw[VI]at T;have hp:p r'=false:=U r' _ rfl;rw[O,ab4 hb hp,kj];simp only[jj,aZ.bH];rw[<- List.map_drop,<- List.map_take];exact T.at_ k
    ·cases E
   ·obtain⟨Z,D,Y⟩:=wW E;injection D with D;subst D;exact Y.at_ k
   ·rename_i j i s q;have hq:fH p q=true:=by
     have I:fH p (j::i::s::q)=true:=C;cases q with
     | nil=>
      obtain⟨z,_,hg,_⟩:=sQ _ _ E;cases hg
     |cons q0 q=>simpa [fH]using I
    rw[O,zF hb q _ hq];have T:=hd.at_ k;unfold jw at T;rw[gx]at T;exact T
   ·cases E
 case h_6 op t x y yt=>
  intro X k;have hx:=Q x (by simp[Op.operands]);have Ia:=J x (by simp[Op.operands]);have L:=J y (by simp[Op.operands]);have D:=h.at_ k;simp only[eE]at D ⊢;rw[Ia,L,<- D];generalize aI σ x=u at hx
  refine VG λl e k=>?_
  subst e;cases l with
  | own q=>
   have I:=hx;simp[iS];rw[O,zF hb q _ I]
  |v z=>rfl
  |dead=>rfl
 case h_11 t y i=>
  intro X k;have C:=Q y (by simp[Op.operands]);have L:=J y (by simp[Op.operands]);have Ib:=J i (by simp[Op.operands]);have D:=h.at_ k;simp only[eE]at D ⊢;rw[L,Ib,<- D];generalize aI σ y=u at C;unfold pK;split
  ·rfl
  ·split
   ·split
    ·rfl
    next q=>have I:fH p q=true:=C;rw[O,zF hb q _ I]
    ·rfl
   ·rfl
 case h_8 t t2 y=>
  intro X k;have C:=Q y (by simp[Op.operands]);have L:=J y (by simp[Op.operands]);have D:=h.at_ k;simp only[eE]at D ⊢;rw[L,<- D];generalize aI σ y=u at C;unfold ox;split
  ·rfl
  ·rename_i z _;cases z with
   | own q=>
    have I:=C;simp[iS];rw[O,zF hb q _ I]
   |v z=>rfl
   |dead=>rfl
  ·rfl
 case h_15 y t=>
  intro X k;have C:=Q y (by simp[Op.operands,Call.operands]);have L:=J y (by simp[Op.operands,Call.operands]);have D:=h.at_ k;simp only[eE]at D ⊢;rw[L,<- D];generalize aI σ y=u at C;unfold rD;split
  ·rename_i z;cases z with
   | own q=>
    have I:=C;simp[iS];rw[O,zF hb q _ I]
   |v z=>rfl
   |dead=>rfl
  ·rfl
  ·rfl
 case h_18 t y lo hi=>
  intro X k;have C:=Q y (by simp[Op.operands]);have L:=J y (by simp[Op.operands]);have e:∀ z:aj Operand,(∀ y,z=some y -> aI (σ.bH ns [] nr) y=aI σ y) -> z.map (aI (σ.bH ns [] nr))=z.map (aI σ):=by
   intro z hz;cases z with
   |none=>rfl
   |some z=>grind
  have D:=h.at_ k;simp only[eE]at D ⊢;rw[L,e lo (λy C=>J y (by subst C;simp[Op.operands])),e hi (λy C=>J y (by subst C;simp[Op.operands])),<- D];generalize aI σ y=u at C;unfold rH;split
  ·rename_i q;have I:fH p q=true:=C;unfold oy;split
   ·split
    ·rw[O,zF hb q _ I]
    ·rfl
   ·rfl
  ·rename_i q s j;have I:fH p q=true:=C;unfold oy;split
   ·split
    ·rw[O,zF hb q _ I]
    ·rfl
   ·rfl
  ·rfl
 case h_19=>cases E
 all_goals exact H9 λX k=>rfl
/-! .. nor is a root that is written. -/
def zG{p:Nat->Bool}{n:Nat}{x:aZ}{m:Nat->aj aZ}(C:p n=true):∀ (q:aa Nat) (k:V->aj X),fH p q=true->gn (bV m n (some x)) q k=gn m q k
 |[],_,_=>rfl
 | [y],k,h=>by
  have D:p y=false:=by simpa [fH]using h
  simp only[gn];rw[cF _ _ _ (by rintro rfl;rw[C]at D;cases D)]
 |[_,_],_,_=>rfl
 |[j,i,s],k,h=>rfl
 | j :: i :: s :: E :: q,k,h=>by
  have I:fH p (E::q)=true:=by simpa [fH,List.getLast?_cons_cons]using h
  simp only[gn];exact zG C (E::q) _ I
def aov{p pb:Nat -> Bool}{n:Nat}{x:aZ}{op:Op}{v:A}(h:cA (λX k=>eE (X:=X) P σ op k) v)(O:p n=true)(T:∀ y∈op.operands,(aI σ y).kz p pb=true)(hv:v.kz p pb=true)(U:∀ t y r j,op = .load t y -> aI σ y = .aG r j -> p r=false):
  cA (λX k=>eE (X:=X) P (σ.root n x) op k) v:=by
 have J:∀ y∈op.operands,aI (σ.root n x) y=aI σ y:=by
  intro y D;rfl
 have Q:(σ.root n x).m=bV σ.m n (some x):=rfl;have dN:∀ y∈op.operands,aI ⟨(σ.root n x).t,σ.m⟩ y=aI σ y:=by
  intro y D;rw[<- J y D];rfl
 have H9:(∀ (X:Type) (k:A -> aj X),eE P ⟨(σ.root n x).t,σ.m⟩ op k=eE P (σ.root n x) op k) -> cA (λX k=>eE (X:=X) P (σ.root n x) op k) v:=by
  intro he X k;exact(he X k).symm.trans ((H8 (σ:=σ) (σ2:=⟨(σ.root n x).t,σ.m⟩) op rfl dN k).trans (h.at_ k))
 have E:=h.at_ (X:=A) (λz=>some z);unfold eE at E;split at E
 case h_5 t y=>
  intro X k;have D:=T y (by simp[Op.operands]);have L:=J y (by simp[Op.operands]);simp only[eE];rw[L];have U:=λr j e=>U t y r j rfl e
  generalize aI σ y=u at E D U;have hd:cA (λX k=>jw (X:=X) P σ t u k) v:=by
   obtain⟨y',C,Y⟩:=HM E;simp_all
  unfold jw at E ⊢;split at E
  ·cases E
  ·rename_i sz gx;split at E
   ·rename_i r' j;split at E
    next cs kj=>obtain⟨y',C,Y⟩:=wW E;injection C with C;subst C;have hp:=U r' _ rfl;rw[Q,cF _ _ _ (by rintro rfl;rw[O]at hp;cases hp),kj];exact Y.at_ k
    ·cases E
   ·obtain⟨y',C,Y⟩:=wW E;injection C with C;subst C;exact Y.at_ k
   ·rename_i j i s q;have hq:fH p q=true:=by
     have I:fH p (j::i::s::q)=true:=D;cases q with
     | nil=>
      obtain⟨z,_,hg,_⟩:=sQ _ _ E;cases hg
     |cons q0 q=>simpa [fH]using I
    rw[Q,zG O q _ hq];have Z:=hd.at_ k;unfold jw at Z;rw[gx]at Z;exact Z
   ·cases E
 case h_6 op t x y yt=>
  intro X k;have hx:=T x (by simp[Op.operands]);have Ia:=J x (by simp[Op.operands]);have L:=J y (by simp[Op.operands]);have C:=h.at_ k;simp only[eE]at C ⊢;rw[Ia,L,<- C];generalize aI σ x=u at hx
  refine VG λl e k=>?_
  subst e;cases l with
  | own q=>
   have I:=hx;simp[iS];rw[Q,zG O q _ I]
  |v z=>rfl
  |dead=>rfl
 case h_11 t y i=>
  intro X k;have D:=T y (by simp[Op.operands]);have L:=J y (by simp[Op.operands]);have Ib:=J i (by simp[Op.operands]);have C:=h.at_ k;simp only[eE]at C ⊢;rw[L,Ib,<- C];generalize aI σ y=u at D;unfold pK;split
  ·rfl
  ·split
   ·split
    ·rfl
    next q=>have I:fH p q=true:=D;rw[Q,zG O q _ I]
    ·rfl
   ·rfl
 case h_8 t t2 y=>
  intro X k;have D:=T y (by simp[Op.operands]);have L:=J y (by simp[Op.operands]);have C:=h.at_ k;simp only[eE]at C ⊢;rw[L,<- C];generalize aI σ y=u at D;unfold ox;split
  ·rfl
  ·rename_i z _;cases z with
   | own q=>
    have I:=D;simp[iS];rw[Q,zG O q _ I]
   |v z=>rfl
   |dead=>rfl
  ·rfl
 case h_15 y t=>
  intro X k;have D:=T y (by simp[Op.operands,Call.operands]);have L:=J y (by simp[Op.operands,Call.operands]);have C:=h.at_ k;simp only[eE]at C ⊢;rw[L,<- C];generalize aI σ y=u at D;unfold rD;split
  ·rename_i z;cases z with
   | own q=>
    have I:=D;simp[iS];rw[Q,zG O q _ I]
   |v z=>rfl
   |dead=>rfl
  ·rfl
  ·rfl
 case h_18 t y lo hi=>
  intro X k;have D:=T y (by simp[Op.operands]);have L:=J y (by simp[Op.operands]);have e:∀ z:aj Operand,(∀ y,z=some y -> aI (σ.root n x) y=aI σ y) -> z.map (aI (σ.root n x))=z.map (aI σ):=by
   intro z hz;cases z with
   |none=>rfl
   |some z=>rfl
  have C:=h.at_ k;simp only[eE]at C ⊢;rw[L,e lo (λy D=>J y (by subst D;simp[Op.operands])),e hi (λy D=>J y (by subst D;simp[Op.operands])),<- C];generalize aI σ y=u at D;unfold rH;split
  ·rename_i q;have I:fH p q=true:=D;unfold oy;split
   ·split
    ·rw[Q,zG O q _ I]
    ·rfl
   ·rfl
  ·rename_i q s j;have I:fH p q=true:=D;unfold oy;split
   ·split
    ·rw[Q,zG O q _ I]
    ·rfl
   ·rfl
  ·rfl
 case h_19=>cases E
 all_goals exact H9 λX k=>rfl
end
def gq(σ:S):aj Tmp->A->S
 |none,_=>σ
 |some d,v=>σ.set d v
inductive gV (p pb:Nat->Bool):S->S->Prop
 |refl (σ:S):gV p pb σ σ
 |root {σ dV:S} (n:Nat) (x:aZ):p n=true->pb n=true->gV p pb σ dV->gV p pb σ ((dV.drop n).root n x)
 |bH {σ dV:S} (ns:List Nat) (nr:List (Nat×aZ)):Ic p ns nr->gV p pb σ dV->gV p pb σ (dV.bH ns [] nr)
 |rt {σ dV:S} (n:Nat) (x:aZ):p n=true->gV p pb σ dV->gV p pb σ (dV.root n x)
section
variable {P:Program} {w w':World} {w0:Wd} {B N:Nat} {ah aE:bG} {ρ ρ':Nat->Loc} {σ:S} {a:Act} {X:Type} {d:Nat} {r:X} {o:Oper} {Φ:eD} {p pb:Nat->Bool} {e:Nat} {x:aZ} {u:A}
def kB{C:aj Tmp}{x:A}{k:S -> aj X}(h:iB N σ C x k=some r):k (gq σ C x)=some r /\ ∀ (σ2:S),cA (λX k=>iB (X:=X) N σ2 C x k) (gq σ2 C x):=by
 unfold iB at h;split at h
 ·exact⟨h,λ_ X k=>rfl⟩
 ·rename_i d;cases D:Nat.blt d N with
  |false=>simp_all
  |true=>rw[D]at h;exact⟨h,λ_ X k=>by simp[iB,D];rfl⟩
theorem ab5[Inhabited Wd]{f:Nat}{C:aj Tmp}{c:tX}{xs:aa A}{k:S -> aj X}(E:qI P f c)(h:Ee N σ C c xs k=some r):∃ D,k D=some r/\cA (λX k=>Ee (X:=X) N σ C c xs k) D:=by
 obtain⟨I,y,J,L,_⟩:=E _ _ _ _ _ _ h;obtain⟨O,Q⟩:=kB J;exact⟨_,O,λX k=>(L X _).trans ((Q I).at_ k)⟩
def gV.t{σ D:S}(h:gV p pb σ D){g:Nat}(E:(σ.t g).kz p pb=true):D.t g=σ.t g:=by
 induction h with
 |refl=>rfl
 | root n x I hb _ C=>
  show (A.drop n _)=_;rw[C];exact A.sV E I hb
 | bH ns nr hb _ C=>
  show (A.bH ns [] _)=_;rw[C];exact A.Ei E hb.ns
 |rt n x I _ C=>exact C
def gV.bp{σ C:S}(h:gV p pb σ C){t r j:Nat}(D:σ.t t = .aG r j)(E:pb r=false):C.t t = .aG r j:=by
 rw[<- D];refine h.t ?_;rw[D];show (!pb r)=true;simp_all
def iF(p:Nat->Bool):A->Prop
 |.aG r _=>p r=true
 |.ptr _=>False
 |_=>True
def iF.drop{x:A}(h:iF p x)(n:Nat):iF p (x.drop n):=by
 cases x with
 | aG r j=>
  have e:A.drop n (.aG r j)=(bif Nat.beq r n then .undef else .aG r j):=rfl;rw[e];cases Nat.beq r n with
  |true=>trivial
  |false=>exact h
 | view k s i j=>
  have e:A.drop n (.view k s i j)=(bif bL n k then .undef else .view k s i j):=rfl;rw[e];cases bL n k<;>trivial
 | pk r j=>
  have e:A.drop n (.pk r j)=(bif Nat.beq r n then .undef else .pk r j):=rfl;rw[e];cases Nat.beq r n<;>trivial
 | fn f cap=>
  have e:A.drop n (.fn f cap)=(bif cap.any (λp=>Nat.beq p.1 n)then .undef else .fn f cap):=rfl;rw[e];cases (cap.any λp=>Nat.beq p.1 n)<;>trivial
 |_=>trivial
def iF.bH{x:A}(h:iF p x)(ns cn:aa Nat):iF p (x.bH ns cn):=by
 cases x with
 | aG r j=>
  have e:A.bH ns cn (.aG r j)=(bif cu r cn then .undef else .aG r j):=rfl;rw[e];cases cu r cn with
  |true=>trivial
  |false=>exact h
 | view k s i j=>
  have e:A.bH ns cn (.view k s i j)=(bif cJ k cn ||cJ k ns then .undef else .view k s i j):=rfl;rw[e];cases (cJ k cn ||cJ k ns)<;>trivial
 | pk r j=>
  have e:A.bH ns cn (.pk r j)=(bif cu r cn then .undef else .pk r j):=rfl;rw[e];cases cu r cn<;>trivial
 | fn f cap=>
  have e:A.bH ns cn (.fn f cap)=(bif cap.any (λp=>cu p.1 cn)then .undef else .fn f cap):=rfl;rw[e];cases (cap.any λp=>cu p.1 cn)<;>trivial
 |_=>trivial
def gV.st{D:Nat->Bool}{σ E:S}(h:gV p pb σ E){t:Nat}(I:iF D (σ.t t)):iF D (E.t t):=by
 induction h with
 |refl=>exact I
 |root n x J hb _ C=>exact C.drop n
 |bH ns nr hb _ C=>exact C.bH ns []
 |rt n x J _ C=>exact C
def gV.Ej{σ C:S}(h:gV p pb σ C){x:Operand}(D:(aI σ x).kz p pb=true):aI C x=aI σ x:=by
 cases x with
 |tmp t=>exact h.t D
 |const v=>rfl
 |global g=>rfl
 |func f=>rfl
def gV.val{σ I:S}(h:gV p pb σ I){op:Op}{v:A}(Q:cA (λX k=>eE (X:=X) P σ op k) v)(E:∀ y∈op.operands,(aI σ y).kz p pb=true)(L:v.kz p pb=true)(T:∀ t y r j,op = .load t y->aI σ y = .aG r j->p r=false):cA (λX k=>eE (X:=X) P I op k) v:=by
 have hl:∀ {I:S},gV p pb σ I->∀ t y r j,op = .load t y->aI I y = .aG r j->p r=false:=by
  intro I C t y r j e h;refine T t y r j e ?_;rw[<-C.Ej (E y (by rw[e];simp[Op.operands]))];exact h
 induction h with
 |refl=>exact Q
 | root n x O hb C J=>
  exact aos J O hb (λy D=>by rw[C.Ej (E y D)];exact E y D) L
 | bH ns nr hb C J=>
  exact aou J hb (λy D=>by rw[C.Ej (E y D)];exact E y D) L (hl C)
 | rt n x O C J=>
  exact aov J O (λy D=>by rw[C.Ej (E y D)];exact E y D) L (hl C)
def gV.trans{σ E I:S}(h:gV p pb σ E)(J:gV p pb E I):gV p pb σ I:=by
 induction J with
 |refl=>exact h
 |root n x D hb _ C=>exact .root n x D hb C
 |bH ns nr hb _ C=>exact .bH ns nr hb C
 |rt n x D _ C=>exact .rt n x D C
def w7:∀ (xs:aa V) (c:Nat) (σ:S),(∀ n,c <= n -> p n=true/\pb n=true) -> gV p pb σ (iU c σ xs)
 |[],c,σ,h=>.refl σ
 | x :: xs,c,σ,h=>by
  simp[iU];cases D:x.aF with
  |true=>exact w7 xs _ σ (λn C=>h n (by omega))
  |false=>exact .trans (.root c (.sl x) (h c (eB _)).1 (h c (eB _)).2 (.refl σ)) (w7 xs (c+1) _ (λn C=>h n (by omega)))
def BQ:∀ (ps:aa Pt) (c:Nat) (σ:S),(∀ n,c<=n->p n=true/\pb n=true)->gV p pb σ (lM c σ ps)
 |[],c,σ,h=>.refl σ
 |q::ps,c,σ,h=>(w7 q.2 c σ h).trans (BQ ps _ _ (λn C=>h n (by omega)))
def zH{σ2:S}{ops:Array Oper}(h:∀ g b t,o.guard=some (g,b) -> (ops[g]?).bind (·.dst)=some t -> σ2.t t=σ.t t):fN σ2 ops o=fN σ ops o:=by
 unfold fN
 grind
def mD(p pb:Nat->Bool)(x:A):Prop:=∀r,x = .lf (.own [r])->p r=true/\pb r=true
def mD.drop{p pb:Nat -> Bool}{x:A}(h:mD p pb x)(n:Nat):mD p pb (x.drop n):=by
 intro r C;refine h r ?_;cases x with
 | lf l=>
  cases l with
  | own k=>
   have e:A.drop n (.lf (.own k)) = .lf (bif bL n k then .dead else .own k):=rfl;rw[e]at C;cases hb:bL n k with
   |true=>simp_all
   |false=>simp_all
  |v z=>cases C
  |dead=>cases C
 | aG q j=>
  have e:A.drop n (.aG q j)=(bif Nat.beq q n then .undef else .aG q j):=rfl
  grind
 | ptr k=>
  have e:A.drop n (.ptr k)=(bif bL n k then .undef else .ptr k):=rfl
  grind
 | view k s i j=>
  have e:A.drop n (.view k s i j)=(bif bL n k then .undef else .view k s i j):=rfl;rw[e]at C;cases hb:bL n k<;>rw[hb]at C<;>cases C
 | pk q j=>
  have e:A.drop n (.pk q j)=(bif Nat.beq q n then .undef else .pk q j):=rfl;rw[e]at C;cases hb:Nat.beq q n<;>rw[hb]at C<;>cases C
 | fn f cap=>
  have e:A.drop n (.fn f cap)=(bif cap.any (λp=>Nat.beq p.1 n)then .undef else .fn f cap):=rfl;rw[e]at C;cases hb:(cap.any λp=>Nat.beq p.1 n)<;>rw[hb]at C<;>cases C
 |_=>cases C
def mD.bH{p pb:Nat -> Bool}{x:A}(h:mD p pb x)(ns cn:aa Nat):mD p pb (x.bH ns cn):=by
 intro r C;refine h r ?_;cases x with
 | lf l=>
  have e:A.bH ns cn (.lf l) = .lf _:=rfl;rw[e]at C;unfold Lf.bH at C
  grind
 | aG q j=>
  have e:A.bH ns cn (.aG q j)=(bif cu q cn then .undef else .aG q j):=rfl
  grind
 | ptr k=>
  unfold A.bH at C
  grind
 | view k s i j=>
  have e:A.bH ns cn (.view k s i j)=(bif cJ k cn ||cJ k ns then .undef else .view k s i j):=rfl;rw[e]at C;cases hb:(cJ k cn ||cJ k ns)<;>rw[hb]at C<;>cases C
 | pk q j=>
  have e:A.bH ns cn (.pk q j)=(bif cu q cn then .undef else .pk q j):=rfl;rw[e]at C;cases hb:cu q cn<;>rw[hb]at C<;>cases C
 | fn f cap=>
  have e:A.bH ns cn (.fn f cap)=(bif cap.any (λp=>cu p.1 cn)then .undef else .fn f cap):=rfl;rw[e]at C;cases hb:(cap.any λp=>cu p.1 cn)<;>rw[hb]at C<;>cases C
 |_=>cases C
def gV.tg{D E:Nat->Bool}{σ I:S}(h:gV p pb σ I){t:Nat}(J:mD D E (σ.t t)):mD D E (I.t t):=by
 induction h with
 |refl=>exact J
 |root n x L hb _ C=>exact C.drop n
 |bH ns nr hb _ C=>exact C.bH ns []
 |rt n x L _ C=>exact C
structure sW (P:Program) (N:Nat) (Φ:eD) (o:Oper) (p pb:Nat->Bool) (rS τ:S) where
 G:S->S
 u:A
 eq:τ=gq (G rS) o.dst u
 run:∀σ2:S,(∀x∈o.op.operands,aI σ2 x=aI rS x)->σ2.m=rS.m->dm P N Φ σ2 o some=some (gq (G σ2) o.dst u)
 grow:∀σ,gV p pb σ (G σ)
 set:∀(σ:S) d v,(A.kz p pb v)=true->G (σ.set d v)=(G σ).set d v
 bp:isApp o=false->∀(σ:S) t r j,σ.t t = .aG r j->ef o r=false->(G σ).t t = .aG r j
theorem sW.new{E:S}{d:Nat}(I:o.dst=some d)(C:p d=true/\pb d=true)(L:ef o d=true)(x:aZ)(u:A){J:S}(e:J=((E.drop d).root d x).set d u)
  (D:∀σ2:S,(∀x∈o.op.operands,aI σ2 x=aI E x)->dm P N Φ σ2 o some=some (((σ2.drop d).root d x).set d u)):Nonempty (sW P N Φ o p pb E J):=
 ⟨{ G:=λσ=>(σ.drop d).root d x,u:=u,eq:=by rw[I];exact e,run:=λσ2 h _=>by rw[D σ2 h,I];rfl,grow:=λσ=>.root d x C.1 C.2 (.refl σ),
    set:=λσ e v O=>by rw[S.drop_set d (A.sV O C.1 C.2)];rfl
    bp:=λ_ σ t r j Q D=>by
     show A.drop d (σ.t t)=_;rw[Q];have:Nat.beq r d=false:=by
      cases hb:Nat.beq r d with
      |false=>rfl
      |true=>rw[ck hb,L]at D;cases D
     simp only[A.drop,this,aq] }⟩
theorem aow[Inhabited Wd](fO:fX P Φ){τ:S}(Z:NR Φ o.op=true)(hp:∀ n,ef o n=true -> p n=true/\pb n=true)(h:dm P N Φ σ o some=some τ):Nonempty (sW P N Φ o p pb σ τ):=by
 have h0:=h;unfold dm at h;cases Q:fM o.op with
 | true=>
  rw[Q,ak]at h;obtain⟨v,C,E,_⟩:=H7 (w0:=default) (N:=N) h;obtain⟨L,Y⟩:=kB C;injection L with L
  refine⟨{ G:=λσ=>σ,u:=v,eq:=L.symm,run:=λσ2 I T=>?_,grow:=.refl,set:=λ_ _ _ _=>rfl,bp:=λ_ _ _ _ _ h _=>h }⟩
  unfold dm;rw[Q,ak,H8 o.op T I];refine(E.at_ _).trans ?_;exact(Y σ2).at_ _
 | false=>
  rw[Q,aq]at h;have ew:∀σ2,dm P N Φ σ2 o some=ig P N Φ σ2 o some:=λσ2=>by unfold dm;rw[Q,aq]
  unfold ig at h ew;unfold NR at Z;rw[Q,Bool.false_or]at Z;split at h
  ·rename_i e I;obtain⟨d,E,h⟩:=gB h;obtain⟨x,y,C,_,L⟩:=abx h;injection C with C;have J:ef o d=true:=by unfold ef;rw[E,I];exact Nat.beq_refl d
   refine sW.new E (hp d J) J x y C.symm λσ2 _=>?_
   rw[ew,I];simp only[eS,E];exact(L σ2).at_ _
  ·rename_i e x I;obtain⟨d,E,h⟩:=gB h;obtain⟨y,u,C,L⟩:=abD h;injection C with C;have J:ef o d=true:=by unfold ef;rw[E,I];exact Nat.beq_refl d
   refine sW.new E (hp d J) J _ _ C.symm λσ2 O=>?_
   rw[ew,I];simp only[eS,E];rw[O x (by rw[I];simp[Op.operands])];exact(L σ2).at_ _
  ·rename_i t len parts I;obtain⟨d,E,h⟩:=gB h;have J:ef o d=true:=by unfold ef;rw[E,I];exact Nat.beq_refl d
   cases D:oE t with
   | true=>
    rw[D,ak]at h;obtain⟨y,u,C,L⟩:=abG h;injection C with C
    refine sW.new E (hp d J) J _ _ C.symm λσ2 O=>?_
    rw[ew,I];simp only[eS,E,D,ak]
    refine(L σ2 λq hq=>O _ ?_).at_ _
    rw[I];simp only[Op.operands];exact List.mem_toArray.2 (List.mem_map_of_mem (f:=(·.2)) hq)
   | false=>
    rw[D,aq]at h;obtain⟨y,C,L⟩:=Vh h;injection C with C
    refine sW.new E (hp d J) J _ _ C.symm λσ2 O=>?_
    rw[ew,I];simp only[eS,E,D,aq]
    refine(L σ2 λq hq=>O _ ?_).at_ _
    rw[I];simp only[Op.operands];exact List.mem_toArray.2 (List.mem_map_of_mem (f:=(·.2)) hq)
  ·simp_all
  ·rename_i t l c I;obtain⟨d,E,h⟩:=gB h;obtain⟨y,C,L⟩:=Vg h;injection C with C;have J:ef o d=true:=by unfold ef;rw[E,I];exact Nat.beq_refl d
   refine sW.new E (hp d J) J _ _ C.symm λσ2 O=>?_
   rw[ew,I];simp only[eS,E];rw[O l (by rw[I];simp[Op.operands]),O c (by rw[I];simp[Op.operands])];exact(L σ2).at_ _
  ·rename_i f args jy I;split at h
   rotate_left
   ·simp_all
   ·simp_all
   ·simp_all
   ·simp_all
   ·simp_all
   ·rename_i c hc;obtain⟨d,E,h⟩:=gB h;obtain⟨res,ov,C,L,Y⟩:=anF (fO f _ hc).2 h;injection L with L;subst L;have J:∀ n,1000000000100000+1000*d <= n -> ef o n=true:=λn D=>by unfold ef;rw[E,I];exact iP D
    have U:∀n,1000000000100000+1000*d <= n -> p n=true/\pb n=true:=λn D=>hp n (J n D)
    have zI:∀ σ2:S,(∀ x∈o.op.operands,aI σ2 x=aI σ x) -> σ2.m=σ.m -> ∀ (X:Type) (k:aa Pt -> aj X),qD σ2 args.toList k=qD σ args.toList k:=by
     intro σ2 O T X k
     refine ab2 T _ _ λx hx=>O x ?_
     rw[I];simp only[Op.operands,Call.operands];simp only[Array.mem_append]
     first
      |exact .inr (by simpa using hx)
      |exact .inl _
    unfold pU at C Y;cases res with
    | one q=>
     simp only at C Y;split at C
     ·rename_i y hy;injection C with C
      refine⟨{ G:=λσ=>iU (1000000000100000+1000*d) σ q.2,u:=y,eq:=by rw[E];exact C.symm,run:=λσ2 O T=>?_,grow:=λσ=>w7 q.2 _ σ U,set:=λσ e v Q=>Ed v q.2 _ σ λn D=>A.sV Q (U n D).1 (U n D).2,bp:=λ_ σ t r j Z hr=>(w7 (p:=ef o) (pb:=ef o) q.2 _ σ (λn D=>⟨J n D,J n D⟩)).bp Z hr }⟩
      rw[ew,I];simp only[eS,E,hc];exact(Y σ2 ((iU (1000000000100000+1000*d) σ2 q.2).set d y) (zI σ2 O T) (by rw[hy])).at_ _
     ·cases C
    | cQ ps=>
     injection C with C
     refine⟨{ G:=λσ=>lM (1000000000100000+1000*d) σ ps,u:=_,eq:=by rw[E];exact C.symm,run:=λσ2 O T=>?_,grow:=λσ=>BQ ps _ σ U,set:=λσ e v Q=>NF v ps _ σ λn D=>A.sV Q (U n D).1 (U n D).2,bp:=λ_ σ t r j Z hr=>(BQ (p:=ef o) (pb:=ef o) ps _ σ (λn D=>⟨J n D,J n D⟩)).bp Z hr }⟩
     rw[ew,I];simp only[eS,E,hc];exact(Y σ2 _ (zI σ2 O T) rfl).at_ _
   ·simp_all
   ·cases h
   ·rename_i c hc;obtain⟨d,E,h⟩:=gB h;obtain⟨res,ov,C,L,Y⟩:=HO (fO f _ hc).2 h;injection L with L;subst L;have J:∀ n,1000000000100000+1000*d <= n -> ef o n=true:=λn D=>by unfold ef;rw[E,I];exact iP D
    have U:∀n,1000000000100000+1000*d <= n -> p n=true/\pb n=true:=λn D=>hp n (J n D)
    have zI:∀ σ2:S,(∀ x∈o.op.operands,aI σ2 x=aI σ x) -> σ2.m=σ.m -> ∀ (X:Type) (k:aa Pt -> aj X),mU σ2 args.toList k=mU σ args.toList k:=by
     intro σ2 O T X k
     refine ab1 T _ _ λx hx=>O x ?_
     rw[I];simp only[Op.operands,Call.operands];simp only[Array.mem_append]
     first
      |exact .inr (by simpa using hx)
      |exact .inl _
    unfold pU at C Y;cases res with
    | one q=>
     simp only at C Y;split at C
     ·rename_i y hy;injection C with C
      refine⟨{ G:=λσ=>iU (1000000000100000+1000*d) σ q.2,u:=y,eq:=by rw[E];exact C.symm,run:=λσ2 O T=>?_,grow:=λσ=>w7 q.2 _ σ U,set:=λσ e v Q=>Ed v q.2 _ σ λn D=>A.sV Q (U n D).1 (U n D).2,bp:=λ_ σ t r j Z hr=>(w7 (p:=ef o) (pb:=ef o) q.2 _ σ (λn D=>⟨J n D,J n D⟩)).bp Z hr }⟩
      rw[ew,I];simp only[eS,E,hc];exact(Y σ2 ((iU (1000000000100000+1000*d) σ2 q.2).set d y) (zI σ2 O T) (by rw[hy])).at_ _
     ·cases C
    | cQ ps=>
     injection C with C
     refine⟨{ G:=λσ=>lM (1000000000100000+1000*d) σ ps,u:=_,eq:=by rw[E];exact C.symm,run:=λσ2 O T=>?_,grow:=λσ=>BQ ps _ σ U,set:=λσ e v Q=>NF v ps _ σ λn D=>A.sV Q (U n D).1 (U n D).2,bp:=λ_ σ t r j Z hr=>(BQ (p:=ef o) (pb:=ef o) ps _ σ (λn D=>⟨J n D,J n D⟩)).bp Z hr }⟩
     rw[ew,I];simp only[eS,E,hc];exact(Y σ2 _ (zI σ2 O T) rfl).at_ _
  ·simp_all
  ·simp_all
  ·simp_all
  ·simp_all
  ·simp_all
  ·simp_all
  ·simp_all
  ·cases h
theorem NY[Inhabited Wd](Y:fX P Φ){k:S->aj X}(h:dm P N Φ σ o k=some r):∃ E,k E=some r/\∀ (Z:Type) (T:S->aj Z),dm P N Φ σ o T=T E:=by
 unfold dm at h ⊢;cases hv:fM o.op with
 | true=>
  rw[hv,ak]at h;obtain⟨v,C,I,_⟩:=H7 (w0:=default) (N:=N) h;obtain⟨D,L⟩:=kB C
  refine⟨_,D,λZ T=>?_⟩
  rw[ak];exact(I.at_ (λv=>iB N σ o.dst v T)).trans ((L σ).at_ _)
 | false=>
  rw[hv,aq]at h;show ∃E,k E=some r/\∀(Z:Type) (T:S->aj Z),ig P N Φ σ o T=T E;unfold ig at h ⊢;split at h
  ·obtain⟨d,I,h⟩:=gB h;obtain⟨x,y,C,_,D⟩:=abx h;exact⟨_,C,λ_ _=>by simp only[eS,I];exact(D σ).at_ _⟩
  ·obtain⟨d,I,h⟩:=gB h;obtain⟨y,u,C,D⟩:=abD h;exact⟨_,C,λ_ _=>by simp only[eS,I];exact(D σ).at_ _⟩
  ·rename_i t len parts O;obtain⟨d,I,h⟩:=gB h;cases Q:oE t with
   | true=>
    rw[Q,ak]at h;obtain⟨y,u,C,D⟩:=abG h;exact⟨_,C,λ_ _=>by simp only[eS,I,ak];exact(D σ λ_ _=>rfl).at_ _⟩
   | false=>
    rw[Q,aq]at h;obtain⟨y,C,D⟩:=Vh h;exact⟨_,C,λ_ _=>by simp only[eS,I,aq];exact(D σ λ_ _=>rfl).at_ _⟩
  ·split at h
   ·rename_i t x y O _ I;cases Q:vn (aI σ x) (aI σ y)with
    | true=>
     rw[Q,ak]at h;obtain⟨E,C,D⟩:=anO h;exact⟨E,C,λ_ _=>by simp only[ak];exact D.at_ _⟩
    | false=>
     rw[Q,aq]at h;obtain⟨E,C,D⟩:=abA h;exact⟨E,C,λ_ _=>by simp only[aq];exact D.at_ _⟩
   ·cases h
  ·obtain⟨d,I,h⟩:=gB h;obtain⟨y,C,D⟩:=Vg h;exact⟨_,C,λ_ _=>by simp only[eS,I];exact(D σ).at_ _⟩
  ·rename_i f args jy O;split at h
   next c J=>obtain⟨d,I,h⟩:=gB h;obtain⟨res,E,C,D,L⟩:=HO (Y f _ J).2 h;exact⟨E,D,λ_ _=>by simp only[eS,I];exact(L σ E (λ_ _=>rfl) C).at_ _⟩
   next c J=>obtain⟨E,C,D⟩:=Vs h;exact⟨E,C,λ_ _=>D.at_ _⟩
   next c J=>obtain⟨d,I,h⟩:=gB h;obtain⟨E,C,D⟩:=anS h;exact⟨E,C,λ_ _=>by simp only[eS,I];exact D.at_ _⟩
   ·rename_i F J;obtain⟨d,I,h⟩:=gB h;split at h
    next x hx=>obtain⟨E,C,D⟩:=anP h;exact⟨E,C,λ_ _=>by simp only[eS,I];exact D.at_ _⟩
    ·cases h
   next c J=>obtain⟨E,C,D⟩:=ab5 (Y f _ J).2 h;exact⟨E,C,λ_ _=>D.at_ _⟩
   next c J=>obtain⟨E,C,D⟩:=ann (λh=>let ⟨E,g1,g2⟩:=Vs h;⟨E,g1,λX k=>g2 X k⟩) h;exact⟨E,C,D⟩
   next c J=>obtain⟨d,I,h⟩:=gB h;obtain⟨E,C,D⟩:=anE (Y f _ J).2 h;exact⟨E,C,λ_ _=>by simp only[eS,I];exact D.at_ _⟩
   next c J=>obtain⟨E,C,D⟩:=anZ h;exact⟨E,C,D⟩
   ·cases h
  ·rename_i x y t t' O;cases mg:Nat.beq t t' with
   |false=>rw[mg]at h;cases h
   | true=>
    rw[mg,ak]at h;obtain⟨d,I,h⟩:=gB h;cases Q:oE t with
    | true=>
     rw[Q,ak]at h;obtain⟨E,C,D⟩:=anM h;exact⟨E,C,λ_ _=>by simp only[ak,eS,I];exact D.at_ _⟩
    | false=>
     rw[Q,aq]at h;cases hk:HV t d x with
     | true=>
      rw[hk,ak]at h;obtain⟨E,C,D⟩:=aoc h;exact⟨E,C,λ_ _=>by simp only[ak,aq,eS,I,hk];exact D.at_ _⟩
     | false=>
      rw[hk,aq]at h;obtain⟨E,C,D⟩:=anC h;exact⟨E,C,λ_ _=>by simp only[ak,aq,eS,I,hk];exact D.at_ _⟩
  next t O=>obtain⟨d,I,h⟩:=gB h;obtain⟨E,C,D⟩:=an5 h;exact⟨E,C,λ_ _=>by simp only[eS,I];exact D.at_ _⟩
  next t x i O=>obtain⟨v,C,D,_⟩:=abR (w0:=default) (N:=N) h;obtain⟨L,U⟩:=kB C;exact⟨_,L,λ_ _=>(D.at_ _).trans ((U σ).at_ _)⟩
  ·rename_i t x i v O;split at h
   next I=>obtain⟨E,C,D,_⟩:=abS (w0:=default) (N:=N) h;exact⟨E,C,λ_ _=>D.at_ _⟩
   ·cases h
  ·rename_i t args jy O;split at h
   ·rename_i f cap sK;split at h
    next c J=>obtain⟨E,C,D⟩:=ab5 (Y f _ J).2 h;exact⟨E,C,λ_ _=>D.at_ _⟩
    ·cases h
   ·cases h
  ·rename_i f abY O;split at h
   next ps qE=>obtain⟨L,U⟩:=kB h;exact⟨_,L,λ_ _=>(U σ).at_ _⟩
   ·cases h
  ·obtain⟨rS,C,D⟩:=amo h;obtain⟨L,U⟩:=kB C;exact⟨_,L,λ_ _=>(D _ _).trans ((U rS).at_ _)⟩
  ·cases h
theorem aox[Inhabited Wd](D:fX P Φ){k:S->aj X}(h:dm P N Φ σ o k=some r):∃ C,k C=some r/\dm P N Φ σ o some=some C:=
 let ⟨C,E,I⟩:=NY D h
 ⟨C,E,I S some⟩
theorem VL[Inhabited Wd](D:fX P Φ){ops:Array Oper}{k:S->aj X}(h:dn P N Φ ops σ o k=some r):∃ C,k C=some r/\dn P N Φ ops σ o some=some C:=by
 unfold dn at h ⊢;split at h
 ·exact aox D h
 ·obtain⟨E,I⟩:=kB h;exact⟨_,E,(I σ).at_ _⟩
 ·cases h
def VM{ops:Array Oper}{b:Bool}(h:fN σ ops o=some b):∀ g c t,o.guard=some (g,c) -> (ops[g]?).bind (·.dst)=some t -> (σ.t t).kz p pb=true:=by
 intro g c t C D;unfold fN at h;rw[C]at h;simp[D]at h;split at h
 next hb=>rw[hb];rfl
 next hb=>rw[hb];rfl
 ·cases h
def El{ops:Array Oper}{d:Nat}(h:d ∉ o.looksAt ops)(v:A){x:Operand}(C:x∈o.op.operands):aI (σ.set d v) x=aI σ x:=by
 cases x with
 | tmp t=>
  have:t≠d:=by
   rintro rfl;exact h (List.mem_append_left _ (List.mem_filterMap.2 ⟨.tmp t,by simpa using C,rfl⟩))
  exact cF _ _ _ this
 |_=>rfl
def VN{ops:Array Oper}{d:Nat}(h:d ∉ o.looksAt ops)(v:A):∀ g b t,o.guard=some (g,b) -> (ops[g]?).bind (·.dst)=some t -> (σ.set d v).t t=σ.t t:=by
 intro g b t C D;have:t≠d:=by
  rintro rfl;refine h (List.mem_append_right _ ?_);simp_all
 exact cF _ _ _ this
def m8(P:Program)(ops:Array Oper)(C:Oper)(p pb:Nat->Bool)(v:A)(σ:S):Prop:=
 (fN σ ops C=some true/\fM C.op=true/\cA (λX k=>eE (X:=X) P σ C.op k) v/\(∀y∈C.op.operands,(aI σ y).kz p pb=true)/\v.kz p pb=true/\∀t y r j,C.op = .load t y->aI σ y = .aG r j->p r=false)\/(fN σ ops C=some false/\v = .skip)
def m8.grow{ops:Array Oper}{O:Oper}{v:A}(h:m8 P ops O p pb v σ){Q:S}(C:gV p pb σ Q):m8 P ops O p pb v Q:=by
 rcases h with ⟨D,I,Z,E,T,U⟩|⟨D,I⟩
 ·refine .inl ⟨?_,I,C.val Z E T U,λy Y=>?_,T,λt y r j e h=>?_⟩
  ·rw[zH λg b t J L=>C.t (VM D g b t J L)];exact D
  ·rw[C.Ej (E y Y)];exact E y Y
  ·exact U t y r j e (by rw[<-C.Ej (E y (by rw[e];simp[Op.operands]))];exact h)
 ·refine .inr ⟨?_,I⟩;rw[zH λg b t J L=>C.t (VM D g b t J L)];exact D
def m8.set{ops:Array Oper}{D:Oper}{v u:A}(h:m8 P ops D p pb v σ){d:Nat}(C:d ∉ D.looksAt ops):m8 P ops D p pb v (σ.set d u):=by
 rcases h with ⟨E,I,L,O,Q,T⟩|⟨E,I⟩
 ·refine .inl ⟨?_,I,λX k=>?_,λy J=>?_,Q,λt y r j e h=>?_⟩
  ·rw[zH (VN C u)];exact E
  ·exact(H8 (σ:=σ) (σ2:=σ.set d u) D.op rfl (λx U=>El C u U) k).trans (L.at_ k)
  ·rw[El C u J];exact O y J
  ·exact T t y r j e (by rw[<-El C u (by rw[e];simp[Op.operands])];exact h)
 ·refine .inr ⟨?_,I⟩;rw[zH (VN C u)];exact E
def m8.put{ops:Array Oper}{C:Oper}{v u:A}(h:m8 P ops C p pb v σ){D:aj Tmp}(E:∀ d,D=some d->d ∉ C.looksAt ops):m8 P ops C p pb v (gq σ D u):=by
 cases D with
 |none=>exact h
 |some d=>exact h.set (E d rfl)
def m8.nr{ops:Array Oper}{C:Oper}{v:A}(h:m8 P ops C p pb v σ):v.kz p pb=true:=by
 rcases h with ⟨_,_,_,_,D,_⟩|⟨_,E⟩
 ·exact D
 ·rw[E];rfl
def ab6{x y:aj Tmp}(v u:A)(h:∀ d,x=some d->y≠some d):gq (gq σ x v) y u=gq (gq σ y u) x v:=by
 cases x with
 |none=>rfl
 | some d=>cases y with
  |none=>rfl
  |some e=>exact S.set_set (λC=>h d rfl (bF some C)) v u
def aoy(x:aj Tmp)(v:A):(gq σ x v).m=σ.m:=by cases x<;>rfl
def NZ{ops:Array Oper}{C:aj Tmp}(h:∀ d,C=some d->d ∉ o.looksAt ops)(v:A){x:Operand}(D:x∈o.op.operands):aI (gq σ C v) x=aI σ x:=by
 cases C with
 |none=>rfl
 |some d=>exact El (h d rfl) v D
def aoz{ops:Array Oper}{C:aj Tmp}(h:∀ d,C=some d->d ∉ o.looksAt ops)(v:A):fN (gq σ C v) ops o=fN σ ops o:=by
 cases C with
 |none=>rfl
 |some d=>exact zH (VN (h d rfl) v)
/-! Calls that write blocks alone. -/
def ab7{σ2:S}(C:σ2.m=σ.m)(ns:aa Nat):∀ (xs:aa Lf) (k:aa V -> aj X),pS σ2 ns xs k=pS σ ns xs k
 |[],k=>rfl
 | x :: xs,k=>by
  simp[pS,Eh C];congr 2;funext y;exact ab7 C ns xs _
def aoA{σ2:S}(C:σ2.m=σ.m)(ns:aa Nat)(x:A)(k:Pt->aj X):oB σ2 ns x k=oB σ ns x k:=by
 unfold oB;split<;>simp only[ab7 C,C]
def aoB{σ2:S}(C:σ2.m=σ.m)(p:PK)(x:A):vi σ2 p x=vi σ p x:=by
 cases p<;>simp only[vi,C]
def ab8{σ2:S}(C:σ2.m=σ.m):∀ (ps:aa PK) (xs:aa Operand),(∀ x∈xs,aI σ2 x=aI σ x)->jz σ2 ps xs=jz σ ps xs
 |[],[],_=>rfl
 |[],_::_,_=>rfl
 |_::_,[],_=>rfl
 | p :: ps,x :: xs,h=>by
  simp only[jz];rw[h x (.head _),aoB C,ab8 C ps xs (λy D=>h y (.tail _ D))]
def N0{σ2:S}(E:σ2.m=σ.m)(ns:aa Nat):∀ (ps:aa PK) (xs:aa Operand) (C:aa Mu) (k:kP ps->aj X),(∀ x∈xs,aI σ2 x=aI σ x)->iD σ2 ns ps xs C k=iD σ ns ps xs C k
 |[],[],[],k,_=>rfl
 | .v b t :: ps,x :: xs,C,k,h=>by
  simp only[iD];rw[h x (.head _),aoA E];congr 1;funext p;congr 1;split
  ·exact N0 E ns ps xs C _ (λy D=>h y (.tail _ D))
  ·rfl
 | .p t g off :: ps,x :: xs,.aB I cs J :: C,k,h=>by
  simp only[iD];split
  ·exact N0 E ns ps xs C _ (λy D=>h y (.tail _ D))
  ·rfl
 | .s t g :: ps,x :: xs,.sl q L :: C,k,h=>by
  simp only[iD];split
  ·exact N0 E ns ps xs C _ (λy D=>h y (.tail _ D))
  ·rfl
 |[],[],_::_,k,_=>rfl
 |[],_::_,_,k,_=>rfl
 |.v _ _::_,[],_,k,_=>rfl
 |.p _ _ _::_,[],_,k,_=>rfl
 |.s _ _::_,[],_,k,_=>rfl
 |.p _ _ _::_,_::_,[],k,_=>rfl
 |.s _ _::_,_::_,[],k,_=>rfl
 |.p _ _ _::_,_::_,.sl _ _::_,k,_=>rfl
 |.s _ _::_,_::_,.aB _ _ _::_,k,_=>rfl
def aoC{m:Nat -> aj aZ}{l:Lf}{v:V}{q:Nat}(h:vh m l=some (v,some q)):v.aF=false:=by
 unfold vh at h
 grind
def ab9{m:Nat->aj aZ}:∀ {cs:aa Lf} {C:aa (V×aj Nat)},rQ m cs=some C->(∀ v∈C,v.1.aF=true)->∀ v∈C,v.2=none
 |[],C,h,_=>by injection h with h;subst h;simp
 | c :: cs,C,h,D=>by
  unfold rQ at h;split at h
  ·rename_i v L E I;injection h with h;subst h;intro u hu;rcases fQ.1 hu with rfl | hu
   ·obtain⟨x,q⟩:=u;cases q with
    |none=>rfl
    |some q=>have:=aoC E;rw[D _ (.head _)]at this;cases this
   ·exact ab9 I (λv J=>D v (.tail _ J)) u hu
  ·cases h
def acd{i:Nat}:∀ (C:aa (V×aj Nat)) (j:Nat),(∀ v∈C,v.2=none) -> D5 i j C=[]
 |[],_,_=>rfl
 | (x,q) :: C,j,h=>by
  have:=h _ (.head _);subst this;exact acd C _ (λv D=>h v (.tail _ D))
def VO:∀ (C:aa Nat) (xs:aa V),(∀ x∈xs,x.aF=true)->vk C xs=[]/\tU C xs=[]
 |[],[],_=>⟨rfl,rfl⟩
 |[],_::_,_=>⟨rfl,rfl⟩
 |_::_,[],_=>⟨rfl,rfl⟩
 | n :: C,x :: xs,h=>by
  simp only[vk,tU,h x (.head _),ak];exact VO C xs (λx D=>h x (.tail _ D))
def Em(ps:aa PK):Bool:=ps.all λp=>match p with
 |.v _ _=>true
 |.p _ g _=>Nat.beq g 0
 |.s _ _=>false
def VP{ns:aa Nat}:∀ (ps:aa PK) (xs:aa Operand) (D:aa Mu) (k:kP ps -> aj X),Em ps=true -> jz σ ps xs=some D -> iD σ ns ps xs D k=some r -> ∀ (i E c0:Nat) (y:rO (eO ps)),
  (∀p∈kQ i D,p.1∈iV σ ps xs)/\nT c0 E D (jb (eO ps) y)=[] /\ ∀(T cn:aa Nat),∀p∈lN T cn c0 E D (jb (eO ps) y),p.1∈iV σ ps xs
 | [],[],D,k,_,C,h=>by
  injection C with C;subst C;intro i E c0 y;exact⟨(λp hp=>by cases hp),by simp[nT],(λ_ _ p hp=>by simp[lN]at hp)⟩
 | .v b t :: ps,x :: xs,D,k,L,C,h=>by
  have sG:jz σ ps xs=some D:=by
   unfold jz at C;split at C
   next mu Q I O=>exact(vj I).elim
   ·grind
   ·cases C
  have qz:Em ps=true:=by simpa [Em]using L
  unfold iD at h;obtain⟨p,O,_⟩:=abK h;cases hb:p.1==b with
  |false=>grind
  | true=>
   rw[hb,ak]at O;split at O
   ·intro i E c0 y;exact VP ps xs D _ qz sG O i E c0 y
   ·cases O
 | .p t g off :: ps,x :: xs,D,k,L,C,h=>by
  unfold jz at C;split at C
  ·rename_i mu Q I O;injection C with C;subst C;have I:=vj I;cases mu with
   |sl=>exact I.elim
   | aB U cs J=>
    have I:aI σ x = .aG U off/\zm σ (.aB U cs J):=I;have L:Nat.beq g 0=true/\Em ps=true:=by simpa [Em]using L
    have hg:=ck L.1;subst hg;unfold iD at h;split at h
    ·rename_i z Y;have Y:dec t 0 (J.map (·.1))=some z:=Y;have hw:=l6 t 0 _ z Y;have Z:∀ v∈J,v.1.aF=true:=by
      intro v hv;obtain⟨j,hj⟩:=List.mem_iff_getElem?.1 hv;have N1:(J.map (·.1))[j]?=some v.1:=by rw[dw,hj];rfl
      have wC:j<(enc t 0 z).length:=by rw[<- hw.1];exact(dQ.1 N1).1
      have hk:=hw.2 j _ _ N1 (bO wC);have qL:=jM t 0 z (by omega) j _ (bO wC);cases Z:v.1.aF with
      |true=>rfl
      |false=>rw[hk.UU Z]at qL;cases qL
     have hn:=ab9 I.2.2.1 Z;intro i E c0 y;obtain⟨k1,k2,k3⟩:=VP ps xs Q _ L.2 O h (i+1) (E+1+J.length) c0 y.2;have hyf:∀ u∈enc t 0 y.1,u.aF=true:=by
      intro u hu;obtain⟨j,hj⟩:=List.mem_iff_getElem?.1 hu;exact jM t 0 y.1 (by omega) j u hj
     have Bz:iV σ (.p t 0 off::ps) (x::xs)=U::iV σ ps xs:=by simp only[iV,I.1]
     rw[Bz]
     refine⟨λp hp=>?_,?_,λT cn p hp=>?_⟩
     ·simp only[kQ,acd J 0 hn,jH]at hp;rcases fQ.1 hp with rfl | hp
      ·grind
      ·grind
     ·show vk (mW c0 _ J) _++nT c0 (E+1+J.length) Q _=[]
      rw[(VO _ _ hyf).1,k2];rfl
     ·have hp:p∈(U,aZ.aB (pT T cn (mW c0 (E+1) J) cs (enc t 0 y.1))) :: (tU (mW c0 (E+1) J) (enc t 0 y.1)++lN T cn c0 (E+1+J.length) Q (jb (eO ps) y.2)):=hp;rw[(VO _ _ hyf).2,jH]at hp;rcases fQ.1 hp with rfl | hp
      ·grind
      ·grind
    ·cases h
  next Q I O=>exact(vj I).elim
  ·cases C
 |.s t g::ps,x::xs,D,k,L,C,h=>by simp[Em]at L
 |[],_::_,D,k,_,C,h=>by cases C
 |_::_,[],D,k,_,C,h=>by cases C
def S.N2{ns:aa Nat}{nr:aa (Nat×aZ)}(v:A)(h:v.bH ns []=v):(σ.set d v).bH ns [] nr=(σ.bH ns [] nr).set d v:=by
 refine S.ext' (λk=>?_) λ_=>rfl
 show (bV σ.t d v k).bH ns []=bV (λk=>(σ.t k).bH ns []) d v k;by_cases C:k=d
 ·subst C;rw[cg,cg];exact h
 ·rw[cF _ _ _ C,cF _ _ _ C]
def N3{n:Nat}{x:aZ}:∀ {l:aa (Nat×aZ)},l.lookup n=some x -> (n,x)∈l
 |[],h=>by cases h
 | q :: l,h=>by
  rw[List.lookup_cons]at h;cases hb:n==q.1 with
  |true =>grind
  |false=>rw[hb]at h;exact .tail _ (N3 h)
theorem aoD{τ:S}{f:Nat}{args:Array Operand}{jy:Array TypeId}{c:nR}(ho:o.op = .call { callee:=.value (.func f),args,argTypes:=jy })(hc:Φ f=some (.m c))(hfl:NS c=true)(hp:∀ n,ef o n=true -> p n=true/\pb n=true)(Bv:∀ n∈iV σ c.ps args.toList,p n=true)
  (h:dm P N Φ σ o some=some τ):Nonempty (sW P N Φ o p pb σ τ):=by
 have ew:∀ σ2,dm P N Φ σ2 o some=mq N σ2 o.dst c args.toList some:=by
  intro σ2;unfold dm;rw[show fM o.op=false by rw[ho];rfl,aq];simp only[ig,ho,hc]
 rw[ew]at h;have zI:∀ σ2:S,(∀ x∈o.op.operands,aI σ2 x=aI σ x) -> ∀ x∈args.toList,aI σ2 x=aI σ x:=by
  intro σ2 E x Y;refine E x ?_;rw[ho];simp only[Op.operands,Call.operands];simp only[Array.mem_append]
  first
   |exact .inr (by simpa using Y)
   |exact .inl (by simpa using Y)
 unfold mq at h;split at h
 ·rename_i Q tV;cases mw:(once (kQ 0 Q)&&Nat.ble Q.length 40)with
  |false=>grind
  | true=>
   rw[mw,ak]at h;have aoE:=VP c.ps args.toList Q _ hfl tV h;obtain⟨x,C,hd⟩:=BF _ _ _ _ h;split at C
   ·rename_i y hy;obtain⟨k1,k2,k3⟩:=aoE 0 (ff c.ro y.1).len (iE o.dst) y.2;unfold zo at C;rw[k2]at C;generalize jc:Bp N Q (jb (eO c.ps) y.2) []=ok at C;cases ok with
    |false=>cases C
    | true=>
     rw[ak]at C;generalize A7:(kQ 0 Q).map (·.1)=ns at C hd;generalize HH:lN ns [] (iE o.dst) (ff c.ro y.1).len Q (jb (eO c.ps) y.2)=nr at C;have T:Ic p ns nr:=by
      refine⟨λn D=>?_,λn x Y=>?_⟩
      ·rw[<- A7]at D;obtain⟨q,hq,e⟩:=List.mem_map.1 (tT.1 D);rw[<- e]
       grind
      ·rw[<- HH]at Y;exact Bv _ (k3 ns [] _ (N3 Y))
     have oG:∀ σ2:S,(∀ x∈o.op.operands,aI σ2 x=aI σ x) -> σ2.m=σ.m -> mq N σ2 o.dst c args.toList some=mX N (σ2.bH ns [] nr) o.dst (ff c.ro y.1) some:=by
      intro σ2 E J;simp only[mq];rw[ab8 J _ _ (zI σ2 E),tV];simp only[mw,ak];rw[A7,N0 J _ _ _ _ _ (zI σ2 E)];refine(hd S _).trans ?_;simp only[hy,zo,k2,jc,ak,HH]
     have VQ:∀ (σ:S) t r j,σ.t t = .aG r j -> (σ.bH ns [] nr).t t = .aG r j:=by
      intro σ t r j L;show A.bH ns [] _=_;rw[L];rfl
     generalize ko:ff c.ro y.1=res at C oG;cases I:o.dst with
     | none=>
      rw[I]at C;have C:some _=some τ:=C;injection C with C;exact⟨{ G:=λσ=>σ.bH ns [] nr,u:=.undef,eq:=by rw[I];exact C.symm,run:=λσ2 E J=>by rw[ew,oG σ2 E J,I];rfl,grow:=λσ=>.bH ns nr T (.refl σ),set:=λσ e v O=>S.N2 v (A.Ei O T.ns),bp:=λ_ σ t r j L _=>VQ σ t r j L }⟩
     | some d=>
      rw[I]at C;have Z:∀n,1000000000100000+1000*d <= n -> ef o n=true:=λn D=>by unfold ef;rw[I,ho];exact iP D
      have U:∀n,1000000000100000+1000*d <= n -> p n=true/\pb n=true:=λn D=>hp n (Z n D)
      obtain⟨ov,h3,HL⟩:=abL C;injection h3 with h3;subst h3;cases hN:Nat.blt d N with
      |false=>simp only[mX,hN]at C;cases C
      | true=>
       simp only[mX,hN,ak]at C;cases res with
       | one q=>
        simp only at C;split at C
        next u hu=>injection C with C;exact⟨{ G:=λσ=>iU (1000000000100000+1000*d) (σ.bH ns [] nr) q.2,u:=u,eq:=by rw[I];exact C.symm,run:=λσ2 E J=>by rw[ew,oG σ2 E J,I];simp only[mX,hN,ak,hu];rfl,grow:=λσ=>(gV.bH ns nr T (.refl σ)).trans (w7 q.2 _ _ U),set:=λσ e v O=>by rw[S.N2 v (A.Ei O T.ns),Ed v q.2 _ _ λn D=>A.sV O (U n D).1 (U n D).2],bp:=λ_ σ t r j L hr=>(w7 (p:=ef o) (pb:=ef o) q.2 _ _ (λn D=>⟨Z n D,Z n D⟩)).bp (VQ σ t r j L) hr }⟩
        ·cases C
       | cQ ps=>
        injection C with C;exact⟨{ G:=λσ=>lM (1000000000100000+1000*d) (σ.bH ns [] nr) ps,u:=_,eq:=by rw[I];exact C.symm,run:=λσ2 E J=>by rw[ew,oG σ2 E J,I];simp only[mX,hN,ak];rfl,grow:=λσ=>(gV.bH ns nr T (.refl σ)).trans (BQ ps _ _ U),set:=λσ e v O=>by rw[S.N2 v (A.Ei O T.ns),NF v ps _ _ λn D=>A.sV O (U n D).1 (U n D).2],bp:=λ_ σ t r j L hr=>(BQ (p:=ef o) (pb:=ef o) ps _ _ (λn D=>⟨Z n D,Z n D⟩)).bp (VQ σ t r j L) hr }⟩
   ·cases C
 ·cases h
def Calm(Φ:eD)(ok:Nat->Nat->Bool)(rV m0 p pb:Nat->Bool)(σ:S)(o:Oper):Prop:=
 NR Φ o.op=true\/(∃f args D c,o.op = .call { callee:=.value (.func f),args:=args,argTypes:=D }/\Φ f=some (.m c)/\NS c=true/\sS ok σ c.ps args.toList=true/\∀n∈iV σ c.ps args.toList,p n=true)\/
 (∃ty t y,o.op = .store ty (.tmp t) y/\o.dst=none/\rV t=true/\iF p (σ.t t))\/
 ∃x y t C,o.op = .call ⟨.builtin .append,⟨[.tmp x,y]⟩,⟨[t,C]⟩⟩/\m0 x=true/\(oE t=false/\Nat.beq t C=true/\BI o.dst t (.tmp x)=false)/\mD p pb (σ.t x)
theorem aoF{T:S}{ty:TypeId}{t:Tmp}{y:Operand}(I:o.op = .store ty (.tmp t) y)(Q:o.dst=none)(C:iF p (σ.t t))(h:dm P N Φ σ o some=some T):Nonempty (sW P N Φ o p pb σ T):=by
 have HF:∀ (x:A) (z:A),(∀ k,x ≠ .ptr k) -> vn x z=false:=by
  intro x z E;unfold vn;split
  ·grind
  ·rfl
 have U:∀ σ2:S,(∀ k,σ2.t t ≠ .ptr k) -> dm P N Φ σ2 o some=nO P σ2 ty (σ2.t t) (aI σ2 y) some:=by
  intro σ2 N4;unfold dm;rw[show fM o.op=false by rw[I];rfl,aq];simp only[ig,I,Q];rw[show vn (aI σ2 (.tmp t)) (aI σ2 y)=false from HF _ _ N4,aq];rfl
 rw[U σ (λk J=>by rw[J]at C;exact C)]at h;cases E:σ.t t with
 | aG D j=>
  rw[E]at h C;have hp:p D=true:=C;have key:∃ x,∀ σ2:S,σ2.m=σ.m -> ∀ v,v=aI σ y -> nO P σ2 ty (.aG D j) v some=some (σ2.root D x):=by
   unfold nO at h;split at h
   ·rename_i n xs hn rC;split at h
    ·rename_i hlen;simp only at h;split at h
     ·rename_i cs kj;split at h
      ·rename_i hj;cases hl:xs.all Lf.live with
       |false=>grind
       | true=>
        refine⟨.aB (splice cs j xs),λσ2 L v Y=>?_⟩
        subst Y;simp only[nO,hn,rC,br hlen,L,kj,br hj,hl,ak];simp only[S.root,L]
      ·cases h
     ·cases h
    ·cases h
   ·cases h
  obtain⟨x,Z⟩:=key;have O:=Z σ rfl _ rfl;rw[h]at O;injection O with O
  refine⟨{ G:=λσ=>σ.root D x,u:=.undef,eq:=by rw[Q];exact O,run:=λσ2 vr L=>?_,grow:=λσ=>.rt D x hp (.refl σ),set:=λσ d v Y=>rfl,bp:=λ_ σ t r j ht _=>ht }⟩
  have e1:σ2.t t = .aG D j:=(vr (.tmp t) (by rw[I];simp[Op.operands])).trans E;rw[U σ2 (λk J=>by rw[e1]at J;cases J),e1,Z σ2 L _ (vr y (by rw[I];simp[Op.operands])),Q];rfl
 |ptr k=>rw[E]at C;exact C.elim
 | _=>
  rw[E]at h;exfalso;revert h;unfold nO;split
  ·grind
  ·grind
def cT(e:Nat)(x:aZ)(u:A)(σ:S):S:=((σ.drop e).root e x).set e u
def nX(e:Nat)(u:A):Prop:=u = .aG e 0\/u = .lf (.own [e])
structure pX (x:aZ):Prop where
 drop:∀n,x.drop n=x
 bH:∀ns cn,x.bH ns cn=x
def ace(h:vp o=true):∃ t,∃ e:Nat,o.op = .alloc t/\o.guard=none/\o.dst=some e/\e<20000:=by
 unfold vp at h;rw[aM,aM]at h;obtain⟨⟨C,E⟩,D⟩:=h;split at C
 ·rename_i t I;split at D
  ·simp_all
  ·cases D
 ·cases C
def aoG{ops:Array Oper}{t:TypeId}{e:Nat}(C:o.op = .alloc t)(J:o.guard=none)(L:o.dst=some e){D:S}(h:dn P N Φ ops σ o some=some D):∃ x,pX x/\D=cT e x (.aG e 0) σ /\ ∀ σ2,dn P N Φ ops σ2 o some=some (cT e x (.aG e 0) σ2):=by
 have E:∀ σ2,dn P N Φ ops σ2 o some=sI P N σ2 e t some:=by
  intro σ2;unfold dn fN;rw[J];unfold dm;rw[show fM o.op=false by rw[C];rfl,aq];simp[ig,C,eS,L]
 rw[E]at h;unfold sI at h;split at h
 ·rename_i z O;unfold iC at h;cases I:Nat.blt e N with
  |false=>simp_all
  | true=>
   rw[I,ak]at h;injection h with h;have Q:∀(n:Nat) v,(iT v).drop n=iT v:=λn v=>by unfold iT;split<;>rfl
   have T:∀(ns cn:aa Nat) v,(iT v).bH ns cn=iT v:=λns cn v=>by unfold iT;split<;>rfl
   refine⟨.aB (z.cells.toList.map iT),⟨λn=>?_,λns cn=>?_⟩,h.symm,λσ2=>(E σ2).trans ?_⟩
   ·simp only[aZ.drop,List.map_map];simp_all
   ·simp only[aZ.bH,List.map_map];simp_all
   ·unfold sI iC;rw[O,I];rfl
 ·cases h
def Ie{σ2:S}:∀ (ps:aa PK) (xs:aa Operand),(∀ x∈xs,aI σ2 x=aI σ x) -> iV σ2 ps xs=iV σ ps xs
 |[],[],_=>rfl
 |[],_::_,_=>rfl
 |.v _ _::_,[],_=>rfl
 |.p _ _ _::_,[],_=>rfl
 |.s _ _::_,[],_=>rfl
 |.v _ _::ps,x::xs,h=>by simp[iV];exact Ie ps xs (λy C=>h y (.tail _ C))
 |.s _ _::ps,x::xs,h=>by simp only[iV];exact Ie ps xs (λy C=>h y (.tail _ C))
 | .p _ _ _ :: ps,x :: xs,h=>by
  simp only[iV];rw[h x (.head _),Ie ps xs (λy C=>h y (.tail _ C))]
def VR{ok:Nat -> Nat -> Bool}{σ2:S}(D:∀ t r j,σ.t t = .aG r j -> ok t r=true -> σ2.t t = .aG r j):∀ (ps:aa PK) (xs:aa Operand),sS ok σ ps xs=true -> sS ok σ2 ps xs=true/\iV σ2 ps xs=iV σ ps xs
 |[],[],_=>⟨rfl,rfl⟩
 | .v _ _ :: ps,x :: xs,h=>by
  exact VR D ps xs h
 | .p _ _ _ :: ps,x :: xs,h=>by
  cases x with
  | tmp t=>
   simp[sS,aM]at h;obtain⟨C,I⟩:=h;obtain⟨J,L⟩:=VR D ps xs I;split at C
   ·rename_i O j E;have e:=D t O j E C;refine⟨?_,?_⟩
    ·simp only[sS,aM];exact⟨by rw[e];exact C,J⟩
    ·simp only[iV,aI,e,E,L]
   ·cases C
  |const v=>simp[sS]at h
  |global g=>simp[sS]at h
  |func f=>simp[sS]at h
def Calm.gk{ok:Nat->Nat->Bool}{rV m0:Nat->Bool}{σ2:S}(h:Calm Φ ok rV m0 p pb σ o)(J:∀ t r j,σ.t t = .aG r j->ok t r=true->σ2.t t = .aG r j)(L:∀ t,rV t=true->iF p (σ.t t)->iF p (σ2.t t))(O:∀ t,m0 t=true->mD p pb (σ.t t)->mD p pb (σ2.t t)):Calm Φ ok rV m0 p pb σ2 o:=by
 rcases h with h|⟨f,args,Q,c,E,C,D,I,T⟩|⟨ty,t,y,E,C,D,I⟩|⟨x,y,t,U,E,C,Y,D⟩
 ·exact .inl h
 ·obtain⟨Z,k2⟩:=VR J _ _ I;exact .inr (.inl ⟨f,args,Q,c,E,C,D,Z,by rw[k2];exact T⟩)
 ·exact .inr (.inr (.inl ⟨ty,t,y,E,C,D,L t D I⟩))
 ·exact .inr (.inr (.inr ⟨x,y,t,U,E,C,Y,O x C D⟩))
def N5{ops:Array Oper}(Q:oF o=true)(T:fN σ ops o=some true){τ:S}(h:dn P N Φ ops σ o some=some τ):∃ (e:Nat) (x:aZ) (u:A),o.dst=some e/\e<20000/\pX x/\nX e u/\τ=cT e x u σ /\
  ∀σ2,fN σ2 ops o=some true -> (∀y∈o.op.operands,aI σ2 y=aI σ y) -> dn P N Φ ops σ2 o some=some (cT e x u σ2):=by
 have U:fM o.op=false -> ∀ σ2,fN σ2 ops o=some true -> dn P N Φ ops σ2 o some=ig P N Φ σ2 o some:=by
  intro hv σ2 J;unfold dn;rw[J];unfold dm;simp_all
 have bsl:∀y:V,pX (.sl y):=λy=>⟨λ_=>rfl,λ_ _=>rfl⟩
 unfold oF at Q;rw[aM]at Q;obtain⟨Y,Z⟩:=Q;split at Z
 ·rename_i e D;have dZ:e<20000:=cI Z;split at Y
  ·rename_i t C;have E:=U (by rw[C];rfl);rw[E σ T]at h;simp only[ig,C,eS,D]at h;unfold sI at h;split at h
   ·rename_i z hz;unfold iC at h;cases hN:Nat.blt e N with
    |false=>simp_all
    | true=>
     rw[hN,ak]at h;injection h with h;have I:∀(n:Nat) v,(iT v).drop n=iT v:=λn v=>by unfold iT;split<;>rfl
     have L:∀(ns cn:aa Nat) v,(iT v).bH ns cn=iT v:=λns cn v=>by unfold iT;split<;>rfl
     refine⟨e,.aB (z.cells.toList.map iT),.aG e 0,D,dZ,⟨λn=>?_,λns cn=>?_⟩,.inl rfl,h.symm,λσ2 J _=>(E σ2 J).trans ?_⟩
     ·simp only[aZ.drop,List.map_map];simp_all
     ·simp only[aZ.bH,List.map_map];simp_all
     ·simp[ig,C,eS,D];unfold sI iC;rw[hz,hN];rfl
   ·cases h
  ·rename_i t len parts C;have E:=U (by rw[C];rfl);rw[E σ T]at h;have hn:oE t=false:=by simpa using Y
   simp only[ig,C,eS,D,hn,aq]at h;obtain⟨y,I,L⟩:=Vh h;injection I with I
   refine⟨e,.sl y,.lf (.own [e]),D,dZ,bsl y,.inr rfl,I.symm,λσ2 J O=>(E σ2 J).trans ?_⟩
   simp only[ig,C,eS,D,hn,aq]
   refine(L σ2 λq hq=>O _ ?_).at_ _
   rw[C];simp only[Op.operands];exact List.mem_toArray.2 (List.mem_map_of_mem (f:=(·.2)) hq)
  ·rename_i t l c C;have E:=U (by rw[C];rfl);rw[E σ T]at h;simp only[ig,C,eS,D]at h;obtain⟨y,I,L⟩:=Vg h;injection I with I
   refine⟨e,.sl y,.lf (.own [e]),D,dZ,bsl y,.inr rfl,I.symm,λσ2 J O=>(E σ2 J).trans ?_⟩
   simp only[ig,C,eS,D];rw[O l (by rw[C];simp[Op.operands]),O c (by rw[C];simp[Op.operands])];exact(L σ2).at_ _
  ·cases Y
 ·cases Z
def N6{d:Nat}{t:TypeId}{y z:A}{Q:S}(h:qB P N σ d t y z some=some Q):∃ (r:Nat) (v:V),Q=((σ.drop r).root r (.sl v)).set d (.lf (.own [r]))/\(r=d \/ y = .lf (.own [r])) /\
  ∀σ2:S,(∀(k:V -> aj S),qx σ2 z k=qx σ z k) -> (∀r v,y = .lf (.own [r]) -> σ.m r=some (.sl v) -> σ2.m r=some (.sl v)) -> qB P N σ2 d t y z some=some (((σ2.drop r).root r (.sl v)).set d (.lf (.own [r]))):=by
 unfold qB at h;split at h
 ·rename_i e I T;cases J:(Nat.beq (full I) 0&&(zeroOf P e).any (λz=>Nat.beq z.cells.size (aD I)))with
  |false=>simp_all
  | true=>
   rw[J,ak]at h;obtain⟨yv,C,U⟩:=Ve h;clear h;split at C
   ·cases C
   ·rename_i l2 Y;split at C
    ·cases E:bD l2.length with
     |false=>simp_all
     | true=>
      rw[E,ak]at C;cases L:Nat.blt d N with
      |false=>unfold iC at C;rw[L]at C;cases C
      | true=>
       have D:=C;unfold iC at D;rw[L,ak]at D;injection D with D
       refine⟨d,.sl I 2 false l2,D.symm,.inl rfl,λσ2 O Z=>?_⟩
       simp only[qB,T,J,ak];refine(O _).trans ((U.at_ _).trans ?_);simp only[Y,E,ak];unfold iC;rw[L,ak]
    ·rename_i rr;split at C
     ·rename_i t' o q l hm;split at C
      ·rename_i mg;cases E:(Nat.blt d N&&(Nat.blt rr N || Nat.ble 60000 rr)&&bD (l.length+l2.length))with
       |false=>simp_all
       | true=>
        rw[E,ak]at C;injection C with C
        refine⟨rr,_,C.symm,.inr rfl,λσ2 O Z=>?_⟩
        simp only[qB,T,J,ak];refine(O _).trans ((U.at_ _).trans ?_)
        grind
      ·cases C
     ·cases C
    ·cases C
 ·cases h
def VS(h:isApp o=true):∃ x y t C,o.op = .call ⟨.builtin .append,⟨[x,y]⟩,⟨[t,C]⟩⟩/\oE t=false/\Nat.beq t C=true/\BI o.dst t x=false:=by
 unfold isApp at h
 grind
def Ig{x y:Operand}{t D:TypeId}(E:o.op = .call ⟨.builtin .append,⟨[x,y]⟩,⟨[t,D]⟩⟩)(I:oE t=false)(J:Nat.beq t D=true)(C:BI o.dst t x=false)(σ:S):dm P N Φ σ o some=eS o λd=>qB P N σ d t (aI σ x) (aI σ y) some:=by
 unfold dm;rw[show fM o.op=false by rw[E];rfl];simp[ig,E,I,J,ak];unfold eS;cases L:o.dst with
 |none=>rfl
 | some d=>
  rw[L]at C;have C:HV t d x=false:=C;simp_all
theorem aoH{O:S}{x:Tmp}{y:Operand}{t Q:TypeId}(C:o.op = .call ⟨.builtin .append,⟨[.tmp x,y]⟩,⟨[t,Q]⟩⟩)(E:oE t=false)(I:Nat.beq t Q=true)(J:BI o.dst t (.tmp x)=false)(Z:∀ n,ef o n=true->p n=true/\pb n=true)(lJ:mD p pb (σ.t x))(h:dm P N Φ σ o some=some O):Nonempty (sW P N Φ o p pb σ O):=by
 rw[Ig C E I J]at h;obtain⟨d,L,h⟩:=gB h;obtain⟨r,v,jA,hr,oG⟩:=N6 h;have D:p r=true/\pb r=true:=by
  rcases hr with hr|hr
  ·rw[hr];exact Z d (by unfold ef;rw[L,C];exact Nat.beq_refl d)
  ·exact lJ r hr
 refine⟨{ G:=λσ=>(σ.drop r).root r (.sl v),u:=.lf (.own [r]),eq:=by rw[L];exact jA,run:=λσ2 T U=>?_,grow:=λσ=>.root r _ D.1 D.2 (.refl σ),set:=λσ e v' hv=>(by rw[S.drop_set r (A.sV hv D.1 D.2)];rfl),bp:=λY=>(by rw[isApp,C]at Y;simp[E,I,J]at Y) }⟩
 rw[Ig C E I J];unfold eS;rw[L];simp only;rw[T (.tmp x) (by rw[C];simp[Op.operands,Call.operands]),T y (by rw[C];simp[Op.operands,Call.operands]),oG σ2 (λk=>aoi U _ k) (λr' v' _ h'=>by rw[U];exact h')];rfl
theorem aoI[Inhabited Wd](fO:fX P Φ){ok:Nat -> Nat -> Bool}{rV m0 m6:Nat -> Bool}(hX:∀ x,m6 x=true -> iF p (σ.t x)){ops:Array Oper}{oi D:Oper}{v:A}{τ:S}(hF:m8 P ops oi p pb v σ)(ha:oi.apart ops D=true)(J:Calm Φ ok rV m0 p pb σ D)(hp:∀ n,ef D n=true -> p n=true/\pb n=true)
  (h:dn P N Φ ops (gq σ oi.dst v) D some=some τ):∃ O,dn P N Φ ops σ D some=some O/\τ=gq O oi.dst v/\m8 P ops oi p pb v O/\(isApp D=false -> ∀ t r j,σ.t t = .aG r j -> D.dst≠some t -> ef D r=false -> O.t t = .aG r j) /\
   (∀t,iF p (σ.t t) -> (D.dst≠some t \/ (vp D=true/\p t=true) \/ ∃s x f,D.op = .fieldAddr s (.tmp x) f/\m6 x=true) -> iF p (O.t t)) /\
   ∀t,mD p pb (σ.t t) -> (D.dst≠some t \/ (oF D=true/\p t=true/\pb t=true) \/ (isApp D=true \/ zD Φ D=true)) -> mD p pb (O.t t):=by
 obtain⟨a1,a2,a3⟩:=Oper.apart_spec ha;have En:∀ (σ:S) (u:A) t,D.dst≠some t -> (gq σ D.dst u).t t=σ.t t:=by
  intro σ u t J;cases L:D.dst with
  |none=>rfl
  |some d=>exact cF _ _ _ (by rintro rfl;exact J L)
 have Eo:∀ O,dn P N Φ ops σ D some=some O -> ∀ t,vp D=true -> D.dst=some t -> p t=true -> iF p (O.t t):=by
  intro O C t Eo L Vu;obtain⟨ty,e,E,Q,h3,_⟩:=ace Eo;rw[h3]at L;injection L with L;subst L;obtain⟨x,_,e1,_⟩:=aoG E Q h3 C;rw[e1];show iF p (bV _ e _ e);rw[cg];exact Vu
 have fin:∀ O,dn P N Φ ops σ D some=some O -> (∀ t,D.dst≠some t -> iF p (σ.t t) -> iF p (O.t t)) -> ∀ t,iF p (σ.t t) -> (D.dst≠some t \/ (vp D=true/\p t=true) \/ ∃ s x f,D.op = .fieldAddr s (.tmp x) f/\m6 x=true) -> iF p (O.t t):=by
  intro O C hk t J VT;rcases VT with Y|⟨E,Q⟩|⟨s,x,f,E,Q⟩
  ·exact hk t Y J
  ·by_cases L:D.dst=some t
   ·exact Eo O C t E L Q
   ·exact hk t L J
  ·by_cases L:D.dst=some t
   ·unfold dn at C;split at C
    ·unfold dm at C;rw[show fM D.op=true by rw[E];rfl,ak]at C;rw[E]at C;simp only[eE]at C;have hx:=hX x Q;have hx:iF p (aI σ (.tmp x)):=hx;generalize aI σ (.tmp x)=z at hx C;have key:∀ v,iB N σ D.dst v some=some O -> iF p v -> iF p (O.t t):=by
      intro v hv hA;obtain⟨I,_⟩:=kB hv;injection I with I;rw[<- I,L];show iF p (bV σ.t t v t);rw[cg];exact hA
     unfold uZ at C;split at C
     ·cases C
     ·split at C
      ·split at C
       ·exact key _ C hx
       ·exact key _ C trivial
       ·exact hx.elim
       ·cases C
      ·cases C
    ·obtain⟨I,_⟩:=kB C;injection I with I;rw[<- I,L];show iF p (bV σ.t t .skip t);rw[cg];trivial
    ·cases C
   ·exact hk t L J
 have aoJ:=J;have acf:∀ O,dn P N Φ ops σ D some=some O -> (∀ t,D.dst≠some t -> mD p pb (σ.t t) -> mD p pb (O.t t)) -> ∀ t,mD p pb (σ.t t) -> (D.dst≠some t \/ (oF D=true/\p t=true/\pb t=true) \/ (isApp D=true \/ zD Φ D=true)) -> mD p pb (O.t t):=by
  intro O C hk t J VT;rcases VT with Y|⟨E,Q⟩|aoK|BR
  ·exact hk t Y J
  ·by_cases L:D.dst=some t
   ·cases Z:fN σ ops D with
    |none=>unfold dn at C;rw[Z]at C;cases C
    | some b=>
     cases b with
     | true=>
      obtain⟨e,x,u,I,g2,g3,g4,g5,_⟩:=N5 E Z C;rw[L]at I;injection I with I;subst I;rw[g5];intro r hr;have hr:bV _ t u t = .lf (.own [r]):=hr;rw[cg]at hr;rcases g4 with g4|g4
      ·rw[g4]at hr;cases hr
      ·rw[g4]at hr;injection hr with hr;injection hr with hr;injection hr with hr
       grind
     | false=>
      unfold dn at C;rw[Z]at C;obtain⟨I,_⟩:=kB C;injection I with I;rw[<- I,L];intro r hr;have hr:bV σ.t t .skip t = .lf _:=hr;rw[cg]at hr;cases hr
   ·exact hk t L J
  ·by_cases L:D.dst=some t
   ·obtain⟨x,y,t1,t2,I,g2,g3,g4⟩:=VS aoK;have hT:mD p pb (aI σ x):=by
     rcases aoJ with q|⟨f,args,jy,c,T,_⟩|⟨ty,tt,yy,T,_⟩|⟨x',y',t1',t2',T,q2,q3,q4⟩
     ·rw[I]at q;cases q
     ·rw[I]at T;cases T
     ·rw[I]at T;cases T
     ·rw[I]at T;injection T with T;injection T with _ T _;injection T with T;injection T with T _;subst T;exact q4
    cases Z:fN σ ops D with
    |none=>unfold dn at C;rw[Z]at C;cases C
    | some b=>
     cases b with
     | true=>
      unfold dn at C;rw[Z]at C;have C:dm P N Φ σ D some=some O:=C;rw[Ig I g2 g3 g4]at C;obtain⟨d,tZ,C⟩:=gB C;rw[L]at tZ;injection tZ with tZ;subst tZ;obtain⟨r,v,jA,hr,_⟩:=N6 C;rw[jA];intro r' hU;have hU:bV ((σ.drop r).root r (.sl v)).t t (.lf (.own [r])) t = .lf (.own [r']):=hU;rw[cg]at hU;injection hU with hU;injection hU with hU;injection hU with hU;subst hU;rcases hr with hr|hr
      ·rw[hr];exact hp t (by unfold ef;rw[L,I];exact Nat.beq_refl t)
      ·exact hT r hr
     | false=>
      unfold dn at C;rw[Z]at C;obtain⟨I,_⟩:=kB C;injection I with I;rw[<- I,L];intro r hr;have hr:bV σ.t t .skip t = .lf _:=hr;rw[cg]at hr;cases hr
   ·exact hk t L J
  ·by_cases L:D.dst=some t
   ·cases Z:fN σ ops D with
    |none=>unfold dn at C;rw[Z]at C;cases C
    | some b=>
     cases b with
     | true=>
      unfold dn at C;rw[Z]at C;have C:dm P N Φ σ D some=some O:=C;unfold zD at BR;split at BR
      ·rename_i f args jy ho;split at BR
       ·rename_i c hc;unfold dm at C;rw[show fM D.op=false by rw[ho];rfl,aq]at C;simp only[ig,ho,hc]at C;obtain⟨d,tZ,C⟩:=gB C;rw[L]at tZ;injection tZ with tZ;subst tZ;obtain⟨res,ov,E,Q,_⟩:=HO (fO f _ hc).2 C;injection Q with Q;subst Q;have qG:∀ n,1000000000100000+1000*t <= n -> p n=true/\pb n=true:=λn hn=>hp n (by unfold ef;rw[L,ho];exact iP hn)
        intro r hr;unfold pU at E;cases res with
        | one q=>
         simp only at E;split at E
         ·rename_i y U;injection E with E;rw[<- E]at hr;have hr:bV _ t y t=A.lf (Lf.own [r]):=hr;rw[cg]at hr;subst hr;obtain⟨b,vs⟩:=q;cases b with
          |true=>cases U
          | false=>
           match vs,U with
           | [v],U=>
            have U:some (A.lf (bif v.aF then Lf.v v else Lf.own [1000000000100000+1000*t]))=some (A.lf (Lf.own [r])):=U;injection U with U;injection U with U;cases hf:v.aF with
            |true=>rw[hf]at U;cases U
            | false=>
             rw[hf]at U;injection U with U;injection U with U
             grind
         ·cases E
        | cQ ps=>
         injection E with E;rw[<- E]at hr;have hr:bV _ t _ t=A.lf (Lf.own [r]):=hr;rw[cg]at hr;cases hr
       ·cases BR
      ·cases BR
     | false=>
      unfold dn at C;rw[Z]at C;obtain⟨I,_⟩:=kB C;injection I with I;rw[<- I,L];intro r hr;have hr:bV σ.t t .skip t = .lf _:=hr;rw[cg]at hr;cases hr
   ·exact hk t L J
 unfold dn at h;rw[aoz a1]at h;split at h
 ·rename_i Z;have aoL:Nonempty (sW P N Φ D p pb (gq σ oi.dst v) τ):=by
   rcases J with J|⟨f,args,jy,c,E,Q,h3,h4,h5⟩|⟨ty,t,y,E,Q,h3,h4⟩|⟨x,y,t1,t2,E,Q,hn,h3⟩
   ·exact aow fO J hp h
   ·refine aoD E Q h3 hp ?_ h;rw[Ie]
    ·exact h5
    ·intro x hx;refine NZ a1 v ?_;rw[E];simp only[Op.operands,Call.operands];simp only[Array.mem_append]
     first
      |exact .inr (by simpa using hx)
      |exact .inl (by simpa using hx)
   ·refine aoF E Q ?_ h;have e1:aI (gq σ oi.dst v) (.tmp t)=aI σ (.tmp t):=NZ a1 v (by rw[E];simp[Op.operands]);have e1:(gq σ oi.dst v).t t=σ.t t:=e1;rw[e1];exact h4
   ·refine aoH E hn.1 hn.2.1 hn.2.2 hp ?_ h;have e1:aI _ (.tmp x)=aI σ _:=NZ a1 v (by rw[E];simp[Op.operands,Call.operands]);have e1:(gq σ _ v).t x=σ.t x:=e1;simp_all
  obtain⟨G,u,e,hr,hg,hs,hbp⟩:=aoL;have rW:dn P N Φ ops σ D some=some (gq (G σ) D.dst u):=by
   unfold dn;rw[Z];exact hr σ (λx hx=>(NZ a1 v hx).symm) (aoy _ _).symm
  refine⟨gq (G σ) D.dst u,rW,?_,(hF.grow (hg σ)).put a3,λBS t r j J Y qG=>?_,fin _ rW λt Y J=>?_,acf _ rW λt Y J=>?_⟩
  ·refine e.trans ?_;have:∀ dst,G (gq σ dst v)=gq (G σ) dst v:=by
    intro dst;cases dst with
    |none=>rfl
    |some d=>exact hs σ d v hF.nr
   rw[this];exact ab6 _ _ a2
  ·rw[En _ _ t Y];exact hbp BS σ t r j J qG
  ·rw[En _ _ t Y];exact(hg σ).st J
  ·rw[En _ _ t Y];exact(hg σ).tg J
 ·rename_i Z;obtain⟨E,Q⟩:=kB h;injection E with E;have rW:dn P N Φ ops σ D some=some (gq σ D.dst .skip):=by
   unfold dn;rw[Z];exact(Q σ).at_ _
  exact⟨gq σ D.dst .skip,rW,by rw[<- E];exact ab6 _ _ a2,hF.put a3,λ_ t r j J Y _=>(by rw[En _ _ t Y];exact J),fin _ rW λt Y J=>(by rw[En _ _ t Y];exact J),acf _ rW λt Y J=>(by rw[En _ _ t Y];exact J)⟩
 ·cases h
def Any(P:Program)(N:Nat)(Φ:eD)(ops:Array Oper)(K:S->Prop):Nat->Nat->S->Prop
 |0,L,σ=>(∀j,mB ops L j=false)/\K σ
 |f+1,L,σ=>((∀j,mB ops L j=false)->K σ)/\∀j,mB ops L j=true->∃o C,ops[j]?=some o/\dn P N Φ ops σ o some=some C/\Any P N Φ ops K f (L |||2 ^ j) C
def zJ(L i j:Nat):(L ||| 2 ^ i).testBit j=(L.testBit j || decide (i=j)):=by
 rw[Nat.testBit_or,Nat.testBit_two_pow]
def Ih{ops:Array Oper}{L j:Nat}:mB ops L j=true ↔ L.testBit j=false /\ ∃ o,ops[j]?=some o /\ ∀ e∈o.after,Region.binds .any e=true -> L.testBit e.on=true:=by
 unfold mB
 grind
def VU{ops:Array Oper}{L i j:Nat}(h:mB ops L j=true)(C:j≠i):mB ops (L ||| 2 ^ i) j=true:=by
 rw[Ih]at h ⊢
 grind
def m8.step{ops:Array Oper}{C:Oper}{v:A}(I:m8 P ops C p pb v σ)(J:∀ σ:S,iB N σ C.dst v some=some (gq σ C.dst v)):dn P N Φ ops σ C some=some (gq σ C.dst v):=by
 unfold dn;rcases I with ⟨D,E,L,_,_,_⟩|⟨D,E⟩
 ·rw[D];unfold dm;rw[E,ak];exact(L.at_ _).trans (J σ)
 ·simp_all
def VV{K:S -> Prop}{ops:Array Oper}{i W:Nat}{Q:Oper}(hi:ops[i]?=some Q)(hW:∀ j C,ops[j]?=some C -> W.testBit j=true -> ∃ e∈C.after,Region.binds .any e=true/\(e.on=i \/ W.testBit e.on=true))(E:S -> S)(I:Nat -> S -> Prop)
  (r1:∀L σ,I L σ -> dn P N Φ ops σ Q some=some (E σ))
  (r2:∀L σ j C T,I L σ -> ops[j]?=some C -> j≠i -> L.testBit j=false -> W.testBit j=false -> dn P N Φ ops (E σ) C some=some T -> ∃J,dn P N Φ ops σ C some=some J/\T=E J/\I (L |||2 ^ j) J):
  ∀(f L:Nat) (σ:S),(∀j,W.testBit j=true -> L.testBit j=false) -> mB ops L i=true -> I L σ -> Any P N Φ ops K f (L |||2 ^ i) (E σ) -> Any P N Φ ops K (f+1) L σ:=by
 intro f
 induction f with
 | zero=>
  intro L σ vt O U H
  refine⟨λh=>absurd (h i) (by rw[O];simp),λj Y=>?_⟩
  by_cases D:j=i
  ·subst D;exact⟨Q,_,hi,r1 L σ U,H⟩
  ·have:=VU Y D;rw[H.1]at this;cases this
 | succ f ih=>
  intro L σ vt O U H
  refine⟨λh=>absurd (h i) (by rw[O];simp),λj Y=>?_⟩
  by_cases D:j=i
  ·subst D;exact⟨Q,_,hi,r1 L σ U,H⟩
  ·obtain⟨C,T,Z,jA,H'⟩:=H.2 j (VU Y D);obtain⟨Ep,oj',N7,oG⟩:=Ih.1 Y;rw[Z]at N7;injection N7 with N7;subst N7;have zK:W.testBit j=false:=by
    cases zK:W.testBit j with
    |false=>rfl
    | true=>
     obtain⟨e,he,hb,mw⟩:=hW j C Z zK;have h1:=oG e he hb;rcases mw with mw|mw
     ·rw[mw,(Ih.1 O).1]at h1;cases h1
     ·rw[vt _ mw]at h1;cases h1
   obtain⟨J,hs,zL,hI'⟩:=r2 L σ j C T U Z D Ep zK jA
   refine⟨C,J,Z,hs,ih (L |||2 ^ j) J (λk hk=>?_) (VU O (Ne.symm D)) hI' ?_⟩
   ·grind
   ·rw[<- zL]
    grind
theorem aoM[Inhabited Wd](fO:fX P Φ){ok:Nat -> Nat -> Bool}{rV m0 m6:Nat -> Bool}{K:S -> Prop}{ops:Array Oper}{i W:Nat}{I:Oper}{v:A}(hi:ops[i]?=some I)(hN:∀ σ:S,iB N σ I.dst v some=some (gq σ I.dst v))
  (hW:∀j C,ops[j]?=some C -> W.testBit j=true -> ∃e∈C.after,Region.binds .any e=true/\(e.on=i \/ W.testBit e.on=true)) (f L:Nat) (σ:S)
  (jc:∀t r,ok t r=true -> ∀j C,ops[j]?=some C -> j≠i -> L.testBit j=false -> W.testBit j=false -> C.dst≠some t/\ef C r=false/\isApp C=false)
  (Y:∀x,m6 x=true -> ∀j C,ops[j]?=some C -> j≠i -> L.testBit j=false -> W.testBit j=false -> C.dst≠some x) (Z:∀x,m6 x=true -> iF p (σ.t x))
  (N8:∀t,rV t=true -> ∀j C,ops[j]?=some C -> j≠i -> L.testBit j=false -> W.testBit j=false -> C.dst≠some t \/ (vp C=true/\p t=true) \/ ∃s x f,C.op = .fieldAddr s (.tmp x) f/\m6 x=true)
  (N9:∀t,m0 t=true -> ∀j C,ops[j]?=some C -> j≠i -> L.testBit j=false -> W.testBit j=false -> C.dst≠some t \/ (oF C=true/\p t=true/\pb t=true) \/ (isApp C=true \/ zD Φ C=true))
  (BU:∀j C,ops[j]?=some C -> j≠i -> L.testBit j=false -> W.testBit j=false -> I.apart ops C=true/\Calm Φ ok rV m0 p pb σ C /\ ∀n,ef C n=true -> p n=true/\pb n=true)
  (vt:∀j,W.testBit j=true -> L.testBit j=false) (hr:mB ops L i=true) (hF:m8 P ops I p pb v σ) (H:Any P N Φ ops K f (L |||2 ^ i) (gq σ I.dst v)):Any P N Φ ops K (f+1) L σ:=by
 refine VV hi hW (λσ=>gq σ I.dst v)
  (λL σ=>m8 P ops I p pb v σ/\(∀ t r,ok t r=true -> ∀ j C,ops[j]?=some C -> j≠i -> L.testBit j=false -> W.testBit j=false -> C.dst≠some t/\ef C r=false/\isApp C=false) /\
   ((∀x,m6 x=true -> ∀j C,ops[j]?=some C -> j≠i -> L.testBit j=false -> W.testBit j=false -> C.dst≠some x) /\ ∀x,m6 x=true -> iF p (σ.t x)) /\
   (∀t,rV t=true -> ∀j C,ops[j]?=some C -> j≠i -> L.testBit j=false -> W.testBit j=false -> C.dst≠some t \/ (vp C=true/\p t=true) \/ ∃s x f,C.op = .fieldAddr s (.tmp x) f/\m6 x=true) /\
   (∀t,m0 t=true -> ∀j C,ops[j]?=some C -> j≠i -> L.testBit j=false -> W.testBit j=false -> C.dst≠some t \/ (oF C=true/\p t=true/\pb t=true) \/ (isApp C=true \/ zD Φ C=true)) /\
   ∀j C,ops[j]?=some C -> j≠i -> L.testBit j=false -> W.testBit j=false -> I.apart ops C=true/\Calm Φ ok rV m0 p pb σ C /\ ∀n,ef C n=true -> p n=true/\pb n=true)
  (λL σ h=>h.1.step hN) (λL σ j C τ h Oa Ob Ep zK jA=>?_) f L σ vt hr ⟨hF,jc,⟨Y,Z⟩,N8,N9,BU⟩ H
 obtain⟨hF,jc,⟨Y,Z⟩,N8,N9,BU⟩:=h;obtain⟨c1,c2,c3⟩:=BU j C Oa Ob Ep zK;obtain⟨dV,hs,zL,hF',Vp,lJ,hta⟩:=aoI (m6:=m6) fO Z hF c1 c2 c3 jA;have U:∀ k,(L ||| 2 ^ j).testBit k=false -> L.testBit k=false:=by
  intro k D;rw[zJ,o9]at D;exact D.1
 refine⟨dV,hs,zL,hF',λt r E k J D O Q T=>jc t r E k J D O (U k Q) T,⟨λx hx k J D O Q T=>Y x hx k J D O (U k Q) T,λx hx=>lJ x (Z x hx) (.inl (Y x hx j C Oa Ob Ep zK))⟩,λt E k J D O Q T=>N8 t E k J D O (U k Q) T,λt E k J D O Q T=>N9 t E k J D O (U k Q) T,λk J D O Q T=>?_⟩
 obtain⟨d1,d2,d3⟩:=BU k J D O (U k Q) T
 refine⟨d1,d2.gk (λt r j' E h=>?_) (λt h E=>lJ t E (N8 t h j C Oa Ob Ep zK)) (λt h E=>hta t E (N9 t h j C Oa Ob Ep zK)),d3⟩
 grind
def Lf.rX(l:Lf)(a b:Nat):(l.drop a).drop b=(l.drop b).drop a:=by
 cases l with
 | own k=>
  have D:∀n,Lf.drop n (.own k)=(bif bL n k then .dead else .own k):=λ_=>rfl
  cases C:bL a k<;>cases hb:bL b k<;>simp[Lf.drop,C,hb]
 |v x=>rfl
 |dead=>rfl
def mY.rX(l:aa Lf)(a b:Nat):(l.map (Lf.drop a)).map (Lf.drop b)=(l.map (Lf.drop b)).map (Lf.drop a):=by
 rw[List.map_map,List.map_map];exact lX λx _=>Lf.rX x a b
def A.rX(y:A)(a b:Nat):(y.drop a).drop b=(y.drop b).drop a:=by
 cases y with
 |lf x=>exact bF A.lf (Lf.rX x a b)
 |agg cs=>exact bF A.agg (mY.rX cs a b)
 | cQ xs=>
  refine bF A.cQ ?_;rw[List.map_map,List.map_map]
  refine lX λq _=>?_
  simp only[Function.comp];rw[mY.rX]
 | ptr k=>
  have C:∀n,A.drop n (.ptr k)=(bif bL n k then .undef else .ptr k):=λ_=>rfl
  rw[C a,C b];cases D:bL a k<;>cases hb:bL b k<;>simp[A.drop,D,hb]
 | view k s i j=>
  have C:∀n,A.drop n (.view k s i j)=(bif bL n k then .undef else .view k s i j):=λ_=>rfl
  rw[C a,C b];cases D:bL a k<;>cases hb:bL b k<;>simp[A.drop,D,hb]
 | pk r j=>
  have C:∀n,A.drop n (.pk r j)=(bif Nat.beq r n then .undef else .pk r j):=λ_=>rfl
  rw[C a,C b];cases D:Nat.beq r a<;>cases hb:Nat.beq r b<;>simp only[ak,aq,A.drop,D,hb]
 | aG r j=>
  have C:∀n,A.drop n (.aG r j)=(bif Nat.beq r n then .undef else .aG r j):=λ_=>rfl
  rw[C a,C b];cases D:Nat.beq r a<;>cases hb:Nat.beq r b<;>simp only[ak,aq,A.drop,D,hb]
 | fn f cap=>
  have C:∀n,A.drop n (.fn f cap)=(bif cap.any (λp=>Nat.beq p.1 n)then .undef else .fn f cap):=λ_=>rfl
  rw[C a,C b];cases D:cap.any (λp=>Nat.beq p.1 a)<;>cases hb:cap.any (λp=>Nat.beq p.1 b)<;>simp only[ak,aq,A.drop,D,hb]
 |_=>rfl
def aZ.rX(y:aZ)(a b:Nat):(y.drop a).drop b=(y.drop b).drop a:=by
 cases y with
 |aB cs=>exact bF _ (mY.rX cs a b)
 |sl y=>rfl
 |mp l=>rfl
 | gh xs=>
  refine bF aZ.gh ?_;rw[List.map_map,List.map_map];exact lX λx _=>A.rX x a b
def Lf.ua(l:Lf)(a:Nat)(ns cn:aa Nat):(l.drop a).bH ns cn=(l.bH ns cn).drop a:=by
 cases l with
 | own k=>
  have D:Lf.drop a (.own k)=(bif bL a k then .dead else .own k):=rfl;have E:Lf.bH ns cn (.own k)=(bif cJ k cn ||(cJ k ns && !(Nat.beq _ 1))then .dead else .own k):=rfl;cases C:bL a k<;>cases hb:(cJ k cn ||(cJ k ns && !(Nat.beq k.length 1)))<;>simp[ak,aq,Lf.drop,Lf.bH,C,hb]
 |v x=>rfl
 |dead=>rfl
def mY.ua(l:aa Lf)(a:Nat)(ns cn:aa Nat):(l.map (Lf.drop a)).map (Lf.bH ns cn)=(l.map (Lf.bH ns cn)).map (Lf.drop a):=by
 rw[List.map_map,List.map_map];exact lX λx _=>Lf.ua x a ns cn
def A.ua(y:A)(a:Nat)(ns cn:aa Nat):(y.drop a).bH ns cn=(y.bH ns cn).drop a:=by
 cases y with
 |lf x=>exact bF A.lf (Lf.ua x a ns cn)
 |agg cs=>exact bF A.agg (mY.ua cs a ns cn)
 | cQ xs=>
  refine bF A.cQ ?_;rw[List.map_map,List.map_map]
  refine lX λq _=>?_
  simp only[Function.comp];rw[mY.ua]
 | ptr k=>
  have C:A.drop a (.ptr k)=(bif bL a k then .undef else .ptr k):=rfl;have D:A.bH ns cn (.ptr k)=(bif cJ k cn ||cJ k ns then .undef else .ptr k):=rfl;rw[C,D];cases E:bL a k<;>cases hb:(cJ k cn ||cJ k ns)<;>simp only[ak,aq,A.drop,A.bH,E,hb]
 | view k s i j=>
  have C:A.drop a (.view k s i j)=(bif bL a k then .undef else .view k s i j):=rfl;have D:A.bH ns cn (.view k s i j)=(bif cJ k cn ||cJ k ns then .undef else .view k s i j):=rfl;rw[C,D];cases E:bL a k<;>cases hb:(cJ k cn ||cJ k ns)<;>simp only[ak,aq,A.drop,A.bH,E,hb]
 | pk r j=>
  have C:A.drop a (.pk r j)=(bif Nat.beq r a then .undef else .pk r j):=rfl;have D:A.bH ns cn (.pk r j)=(bif cu r cn then .undef else .pk r j):=rfl;rw[C,D];cases E:Nat.beq r a<;>cases hb:cu r cn<;>simp only[ak,aq,A.drop,A.bH,E,hb]
 | aG r j=>
  have C:A.drop a (.aG r j)=(bif Nat.beq r a then .undef else .aG r j):=rfl;have D:A.bH ns cn (.aG r j)=(bif cu r cn then .undef else .aG r j):=rfl;rw[C,D];cases E:Nat.beq r a<;>cases hb:cu r cn<;>simp only[ak,aq,A.drop,A.bH,E,hb]
 | fn f cap=>
  have C:A.drop a (.fn f cap)=(bif cap.any (λp=>Nat.beq p.1 a)then .undef else .fn f cap):=rfl;have D:A.bH ns cn (.fn f cap)=(bif cap.any (λp=>cu p.1 cn)then .undef else .fn f cap):=rfl;rw[C,D];cases E:cap.any (λp=>Nat.beq p.1 a)<;>cases hb:cap.any (λp=>cu p.1 cn)<;>simp only[ak,aq,A.drop,A.bH,E,hb]
 |_=>rfl
def aZ.ua(y:aZ)(a:Nat)(ns cn:aa Nat):(y.drop a).bH ns cn=(y.bH ns cn).drop a:=by
 cases y with
 |aB cs=>exact bF _ (mY.ua cs a ns cn)
 |sl y=>rfl
 |mp l=>rfl
 | gh xs=>
  refine bF aZ.gh ?_;rw[List.map_map,List.map_map];exact lX λx _=>A.ua x a ns cn
def VW{a b:Nat}(h:a≠b):Nat.beq a b=false:=by
 cases hb:Nat.beq a b with
 |false=>rfl
 |true=>simp_all
def nX.drop(h:nX e u){n:Nat}(C:e≠n):u.drop n=u:=by
 rcases h with rfl|rfl
 ·simp[A.drop,VW C,aq]
 ·have:bL n [e]=false:=by simp[bL,C]
  simp[A.drop,Lf.drop,this,aq]
def nX.bH(h:nX e u){ns cn:aa Nat}(D:cu e ns=false)(C:cu e cn=false):u.bH ns cn=u:=by
 rcases h with rfl|rfl
 ·simp[A.bH,C,aq]
 ·have E:cJ [e] ns=false:=D;have I:cJ [e] cn=false:=C;simp only[A.bH,Lf.bH,E,I];rfl
def uc(k:Nat):(cT e x u σ).t k=if k=e then u else (σ.t k).drop e:=by
 by_cases C:k=e
 ·subst C;rw[br rfl];exact cg _ _ _
 ·rw[bE C];exact cF _ _ _ C
def pY(n:Nat):(cT e x u σ).m n=if n=e then some x else (σ.m n).map (aZ.drop e):=by
 show bV (λr=>bif Nat.beq r e then none else (σ.m r).map _) e _ n=_;by_cases C:n=e
 ·subst C;rw[br rfl,cg]
 ·rw[bE C,cF _ _ _ C,VW C];rfl
def acg(c:Nat)(y:aZ)(k:Nat):((σ.drop c).root c y).t k=(σ.t k).drop c:=rfl
def ach(c:Nat)(y:aZ)(n:Nat):((σ.drop c).root c y).m n=if n=c then some y else (σ.m n).map (aZ.drop c):=by
 show bV (λr=>bif Nat.beq r c then none else (σ.m r).map _) c _ n=_;by_cases C:n=c
 ·subst C;rw[br rfl,cg]
 ·rw[bE C,cF _ _ _ C,VW C];rfl
def aci{c:Nat}(z:V)(I:pX x)(J:nX e u)(L:e≠c):((cT e x u σ).drop c).root c (.sl z)=cT e x u ((σ.drop c).root c (.sl z)):=by
 refine S.ext' (λk=>?_) λn=>?_
 ·rw[acg,uc,uc];by_cases C:k=e
  ·rw[br C,br C];exact J.drop L
  ·rw[bE C,bE C];exact A.rX _ _ _
 ·rw[ach,pY,pY,ach];by_cases D:n=c
  ·rw[br D,bE,br D];rfl
  ·rw[bE D];by_cases E:n=e
   ·rw[br E,br E];simp[jj,I.drop]
   ·rw[bE E,bE E,bE D,Option.map_map,Option.map_map];congr 1;funext y;exact aZ.rX y e c
def Ii(C:pX x)(D:nX e u):∀ (xs:aa V) (c:Nat) (σ:S),e<c -> iU c (cT e x u σ) xs=cT e x u (iU c σ xs)
 |[],c,σ,_=>rfl
 | y :: xs,c,σ,h=>by
  simp[iU];cases E:y.aF with
  |true=>exact Ii C D xs _ σ (by omega)
  | false=>
   rw[aci y C D (by omega)];exact Ii C D xs _ _ (by omega)
def VX(C:pX x)(D:nX e u):∀ (ps:aa Pt) (c:Nat) (σ:S),e<c -> lM c (cT e x u σ) ps=cT e x u (lM c σ ps)
 |[],c,σ,_=>rfl
 | q :: ps,c,σ,h=>by
  simp[lM];rw[Ii C D _ _ _ h];exact VX C D ps _ _ (by omega)
def Er{v:A}(D:d≠e)(E:v.drop e=v):(cT e x u σ).set d v=cT e x u (σ.set d v):=by
 refine S.ext' (λk=>?_) λn=>?_
 ·show bV (cT e x u σ).t d v k=_;rw[uc];show _=if k=e then u else (bV σ.t d v k).drop e;by_cases C:k=d
  ·subst C;rw[cg,bE D,cg,E]
  ·rw[cF _ _ _ C,cF _ _ _ C,uc]
 ·rfl
def aoN{v:A}{C:aj Tmp}(D:C≠some e)(E:v.drop e=v):gq (cT e x u σ) C v=cT e x u (gq σ C v):=by
 cases C with
 |none=>rfl
 |some d=>exact Er (by rintro rfl;exact D rfl) E
def aoO{ns cn:aa Nat}{nr:aa (Nat×aZ)}(L:pX x)(O:nX e u)(E:cu e ns=false)(I:cu e cn=false)(J:∀ q∈nr,q.1≠e/\q.2.drop e=q.2):(cT e x u σ).bH ns cn nr=cT e x u (σ.bH ns cn nr):=by
 have hl:nr.lookup e=none:=by
  cases hl:nr.lookup e with
  |none=>rfl
  |some y=>exact absurd rfl (J _ (N3 hl)).1
 refine S.ext' (λk=>?_) λn=>?_
 ·show ((cT e x u σ).t k).bH ns cn=_;rw[uc,uc];by_cases C:k=e
  ·rw[br C,br C];exact O.bH E I
  ·rw[bE C,bE C];exact A.ua _ _ _ _
 ·rw[pY];show (match nr.lookup n with | some x=>some x | none=>bif cu n ns || cu n cn then none else ((cT e x u σ).m n).map (aZ.bH ns cn))=if n=e then some x else (match nr.lookup n with | some x=>some x | none=>bif cu n ns || cu n cn then none else (σ.m n).map (aZ.bH ns cn)).map (aZ.drop e);by_cases D:n=e
  ·subst D;rw[ hl,E,I];simp[Bool.or_false,aq,pY,if_true,jj,L.bH]
  ·rw[bE D];cases Q:nr.lookup n with
   |some y=>simp;rw[(J _ (N3 Q)).2]
   | none=>
    simp only;cases (cu n ns ||cu n cn)with
    |true=>rfl
    | false=>
     simp only[aq];rw[pY,bE D,Option.map_map,Option.map_map];congr 1;funext y;exact aZ.ua y e ns cn
/-! What a call reads. -/
def acj{q:aa Nat}{k:V->aj X}(h:bL e q=false):gn (cT e x u σ).m q k=gn σ.m q k:=w6 q k h
def w8{y:Operand}(h:(aI σ y).nr p=true)(C:p e=true)(D:y ≠ .tmp e):aI (cT e x u σ) y=aI σ y:=by
 cases y with
 | tmp t=>
  show (cT e x u σ).t t=σ.t t;rw[uc,bE (by rintro rfl;exact D rfl)];exact A.mz h C
 |_=>rfl
def VY{l:Lf}{k:V->aj X}(h:l.nr p=true)(C:p e=true):iS (cT e x u σ) l k=iS σ l k:=by
 cases l with
 |own q=>exact acj (sR h C)
 |_=>rfl
def ack{q:aa Nat}{s i j:Nat}{k:V->aj X}(h:fH p q=true)(C:p e=true):tN (cT e x u σ) q s i j k=tN σ q s i j k:=by
 unfold tN;exact acj (sR h C)
def aoP{y:A}{k:V->aj X}(h:y.nr p=true)(C:p e=true):qx (cT e x u σ) y k=qx σ y k:=by
 cases y with
 |lf l=>exact VY h C
 |view q s i j=>exact ack h C
 |_=>rfl
def VZ(C:p e=true):∀ (xs:aa Lf) (k:aa V -> aj X),xs.all (Lf.nr p)=true -> qC (cT e x u σ) xs k=qC σ xs k
 |[],k,_=>rfl
 | y :: xs,k,h=>by
  rw[List.all_cons,aM]at h;simp[qC,VY h.1 C];congr 1;funext z;exact VZ C xs _ h.2
def aoQ{y:A}{k:Pt -> aj X}(h:y.nr p=true)(C:p e=true):oz (cT e x u σ) y k=oz σ y k:=by
 cases y with
 |lf l=>simp[oz];exact VZ C _ _ (by simpa [A.nr]using h)
 |agg cs=>simp[oz];exact VZ C _ _ h
 |view q s i j=>simp[oz];exact ack h C
 |hJ cs=>cases cs<;>rfl
 |_=>rfl
def acm(C:p e=true):∀ (xs:aa Operand) (k:aa Pt -> aj X),(∀ y∈xs,(aI σ y).nr p=true/\y ≠ .tmp e) -> mU (cT e x u σ) xs k=mU σ xs k
 |[],k,_=>rfl
 | y :: xs,k,h=>by
  obtain⟨D,E⟩:=h y (.head _);simp[mU];rw[w8 D C E,aoQ D C];congr 1;funext z;exact acm C xs _ (λy I=>h y (.tail _ I))
def V0{ns:aa Nat}(C:p e=true):∀ (xs:aa Lf) (k:aa V -> aj X),xs.all (Lf.nr p)=true -> pS (cT e x u σ) ns xs k=pS σ ns xs k
 |[],k,_=>rfl
 | y :: xs,k,h=>by
  rw[List.all_cons,aM]at h;simp[pS,VY h.1 C];congr 2;funext z;exact V0 C xs _ h.2
def acn{d:Nat}:∀ (xs:aa Lf),rB (xs.map (Lf.drop d))=rB xs
 |[]=>rfl
 | x :: xs=>by
  have C:(x.drop d).pl=x.pl:=by
   cases x with
   | own k=>
    show (bif bL d k then _ else Lf.own k).pl=_;cases bL d k<;>rfl
   |_=>rfl
  simp[List.map_cons,rB,C,acn]
def aoR{ns:aa Nat}{y:A}{k:Pt -> aj X}(h:y.nr p=true)(C:p e=true):oB (cT e x u σ) ns y k=oB σ ns y k:=by
 cases y with
 |lf l=>simp[oB];exact V0 C _ _ (by simpa [A.nr]using h)
 |agg cs=>simp[oB];exact V0 C _ _ h
 |kO f cs=>cases cs<;>rfl
 | fn f cap=>
  match cap,h with
  |[],_=>rfl
  |_::_::_,_=>rfl
  | [(D,j)],h=>
   have E:p D=false:=by simpa [A.nr]using h
   have I:D≠e:=by rintro rfl;rw[C]at E;cases E
   simp only[oB,pY,bE I];cases σ.m D with
   |none=>rfl
   | some z=>
    cases z with
    |aB cs=>simp[jj,aZ.drop,<- List.map_drop,acn]
    |_=>rfl
 |_=>rfl
def aoS{l:Lf}(h:l.nr p=true)(D:p e=true):vh (cT e x u σ).m l=vh σ.m l:=by
 cases l with
 | own k=>
  match k with
  |[]=>rfl
  | [q]=>
   have C:q≠e:=by
    have h:(!p q)=true:=by simpa [Lf.nr,fH]using h
    grind
   simp[vh];rw[pY,bE C];cases σ.m q with
   |none=>rfl
   |some y=>cases y<;>rfl
  |_::_::_=>rfl
 |v x=>rfl
 |dead=>rfl
def aco(D:p e=true):∀ (C:aa Lf),C.all (Lf.nr p)=true -> rQ (cT e x u σ).m C=rQ σ.m C
 |[],_=>rfl
 | l :: C,h=>by
  rw[List.all_cons,aM]at h;simp[rQ,aoS h.1 D,aco D C h.2]
def acp{m:Nat -> aj aZ}:∀ {cs:aa Lf} {E:aa (V×aj Nat)},rQ m cs=some E -> cs.all (Lf.nr p)=true -> ∀ v∈E,∀ q,v.2=some q -> p q=false
 |[],E,h,_=>by injection h with h;subst h;simp
 | c :: cs,E,h,I=>by
  rw[List.all_cons,aM]at I;unfold rQ at h;split at h
  ·rename_i v Q C J;injection h with h;subst h;intro u hu q D;rcases fQ.1 hu with rfl | hu
   ·unfold vh at C;split at C
    ·grind
    ·rename_i T;split at C
     ·rename_i y _;cases L:y.aF with
      |true=>grind
      | false=>
       rw[L]at C;injection C with C;rw[<- C]at D;injection D with D;subst D;have O:=I.1
       simpa [Lf.nr,fH]using O
     ·cases C
    ·cases C
   ·exact acp J I.2 u hu q D
  ·cases h
def Oc(p:Nat->Bool):Mu->Prop
 |.aB r cs C=>p r=false/\cs.all (Lf.nr p)=true/\∀v∈C,∀q,v.2=some q->p q=false
 |.sl q _=>p q=false
def V1(I:p e=true):∀ (ps:aa PK) (xs:aa Operand) (J:aa Mu),(∀ y∈xs,(aI σ y).nr p=true/\y ≠ .tmp e) -> (∀ n∈iV σ ps xs,w5 σ p n=true) -> jz σ ps xs=some J -> jz (cT e x u σ) ps xs=some J /\ ∀ C∈J,Oc p C
 |[],[],J,_,_,h=>⟨h,by injection h with h;subst h;simp⟩
 |[],_::_,J,_,_,h=>by cases h
 |_::_,[],J,_,_,h=>by cases h
 | q :: ps,y :: xs,J,U,hl,h=>by
  obtain⟨E,h2⟩:=U y (.head _);have Nh:∀ n∈iV σ ps xs,w5 σ p n=true:=by
   intro n Y;refine hl n ?_;cases q with
   |v=>exact Y
   |s=>exact Y
   | p t g off=>
    simp only[iV];split
    ·grind
    ·exact Y
  unfold jz at h;have D:∀ z,vi σ q (aI σ y)=some z -> vi (cT e x u σ) q (aI (cT e x u σ) y)=some z /\ ∀ C,z=some C -> Oc p C:=by
   intro z hz;rw[w8 E I h2];have L:=vj hz;cases q with
   | v=>
    cases z with
    |some C=>exact L.elim
    |none=>exact⟨hz,by simp⟩
   | p t g off=>
    cases z with
    |none=>exact L.elim
    | some C=>
     cases C with
     |sl=>exact L.elim
     | aB Q cs vs=>
      obtain⟨O,hm,hg,hlen⟩:=L;have Z:p Q=false:=by
       rw[O]at E;have E:(!p Q)=true:=E
       simpa using E
      have eU:Q≠e:=by rintro rfl;rw[I]at Z;cases Z
      have T:cs.all (Lf.nr p)=true:=by
       have:=hl Q (by simp only[iV,O];exact .head _);unfold w5 at this;rw[hm]at this;exact this
      have sG:(cT e x u σ).m Q=some (.aB cs):=by
       rw[pY,bE eU,hm];simp[jj,aZ.drop,mY.mz T I]
      refine⟨?_,λC D=>?_⟩
      ·rw[O];simp[vi,Nat.beq_refl,ak,sG,aco I cs T,hg];have:Nat.blt _ 999=true:=iP hlen
       grind
      ·injection D with D;subst D;exact⟨Z,T,acp hg T⟩
   | s t g=>
    cases z with
    |none=>exact L.elim
    | some C=>
     cases C with
     |aB=>exact L.elim
     | sl q y0=>
      obtain⟨O,hm,hf⟩:=L;have hq:p q=false:=by
       rw[O]at E;have E:(!p q)=true:=by simpa [A.nr,Lf.nr,fH]using E
       simpa using E
      have eU:q≠e:=by rintro rfl;rw[I]at hq;cases hq
      refine⟨?_,λC D=>?_⟩
      ·rw[O];simp only[vi];rw[pY,bE eU,hm];simp[jj,aZ.drop,hf,aq]
      ·injection D with D;subst D;exact hq
  split at h
  ·rename_i C NN k1 k2;injection h with h;subst h;obtain⟨g1,g2⟩:=D _ k1;obtain⟨f1,f2⟩:=V1 I ps xs NN (λy h=>U y (.tail _ h)) Nh k2
   refine⟨by simp only[jz,g1,f1],λm hm=>?_⟩
   rcases fQ.1 hm with rfl|hm
   ·exact g2 _ rfl
   ·grind
  next NN k1 k2=>injection h with h;subst h;obtain⟨g1,g2⟩:=D _ k1;obtain⟨f1,f2⟩:=V1 I ps xs NN (λy h=>U y (.tail _ h)) Nh k2;exact⟨by simp only[jz,g1,f1],f2⟩
  ·cases h
def Od(D:p e=true)(ns:aa Nat):∀ (ps:aa PK) (xs:aa Operand) (C:aa Mu) (k:kP ps->aj X),(∀ y∈xs,(aI σ y).nr p=true/\y ≠ .tmp e)->iD (cT e x u σ) ns ps xs C k=iD σ ns ps xs C k
 |[],[],[],k,_=>rfl
 | .v b t :: ps,y :: xs,C,k,h=>by
  obtain⟨I,J⟩:=h y (.head _);simp only[iD];rw[w8 I D J,aoR I D];congr 1;funext z;congr 1;split
  ·exact Od D ns ps xs C _ (λy E=>h y (.tail _ E))
  ·rfl
 | .p t g off :: ps,y :: xs,.aB L cs O :: C,k,h=>by
  simp only[iD];split
  ·exact Od D ns ps xs C _ (λy E=>h y (.tail _ E))
  ·rfl
 | .s t g :: ps,y :: xs,.sl q Q :: C,k,h=>by
  simp only[iD];split
  ·exact Od D ns ps xs C _ (λy E=>h y (.tail _ E))
  ·rfl
 |[],[],_::_,k,_=>rfl
 |[],_::_,_,k,_=>rfl
 |.v _ _::_,[],_,k,_=>rfl
 |.p _ _ _::_,[],_,k,_=>rfl
 |.s _ _::_,[],_,k,_=>rfl
 |.p _ _ _::_,_::_,[],k,_=>rfl
 |.s _ _::_,_::_,[],k,_=>rfl
 |.p _ _ _::_,_::_,.sl _ _::_,k,_=>rfl
 |.s _ _::_,_::_,.aB _ _ _::_,k,_=>rfl
def V2{i:Nat}:∀ (C:aa (V×aj Nat)) (j:Nat),(∀ v∈C,∀ q,v.2=some q -> p q=false) -> ∀ u∈D5 i j C,p u.1=false
 |[],_,_,u,hu=>by cases hu
 |(y,none)::C,j,h,u,hu=>V2 C (j+1) (λv D=>h v (.tail _ D)) u hu
 | (y,some q) :: C,j,h,u,hu=>by
  rcases fQ.1 hu with rfl|hu
  ·simp_all
  ·exact V2 C (j+1) (λv D=>h v (.tail _ D)) u hu
def V3:∀ (C:aa Mu) (i:Nat),(∀ E∈C,Oc p E) -> ∀ u∈kQ i C,p u.1=false
 |[],_,_,u,hu=>by cases hu
 | .aB O cs I :: C,i,h,u,hu=>by
  obtain⟨J,Q,L⟩:=h _ (.head _);rcases fQ.1 hu with rfl|hu
  ·exact J
  ·rcases List.mem_append.1 hu with hu | hu
   ·exact V2 I 0 L u hu
   ·exact V3 C _ (λm D=>h m (.tail _ D)) u hu
 | .sl q y :: C,i,h,u,hu=>by
  rcases fQ.1 hu with rfl|hu
  ·exact h _ (.head _)
  ·exact V3 C (i+1) (λm D=>h m (.tail _ D)) u hu
def V4{c0:Nat}(E:∀ n,c0 <= n -> p n=false):∀ (C:aa (V×aj Nat)) (n:Nat),(∀ v∈C,∀ q,v.2=some q -> p q=false) -> ∀ u∈mW c0 n C,p u=false
 |[],_,_,u,hu=>by cases hu
 | (y,none) :: C,n,h,u,hu=>by
  rcases fQ.1 hu with rfl|hu
  ·simp_all
  ·exact V4 E C (n+1) (λv D=>h v (.tail _ D)) u hu
 | (y,some q) :: C,n,h,u,hu=>by
  rcases fQ.1 hu with rfl|hu
  ·simp_all
  ·exact V4 E C (n+1) (λv D=>h v (.tail _ D)) u hu
def V5:∀ (C:aa Nat) (xs:aa V),∀ u∈vk C xs,u∈C
 |[],[],u,hu=>by cases hu
 | n :: C,y :: xs,u,hu=>by
  simp[vk]at hu;cases D:y.aF with
  |true=>rw[D]at hu;exact .tail _ (V5 C xs u hu)
  | false=>
   rw[D]at hu;rcases fQ.1 hu with rfl|hu
   ·simp_all
   ·exact .tail _ (V5 C xs u hu)
def acq{ns cn:aa Nat}:∀ (C:aa Nat) (D:aa Lf) (xs:aa V),(∀ n∈C,p n=false) -> D.all (Lf.nr p)=true -> (pT ns cn C D xs).all (Lf.nr p)=true
 |[],_,_,_,_=>by simp[pT]
 |_::_,[],_,_,_=>by simp[pT]
 |_::_,_::_,[],_,_=>by simp[pT]
 | n :: C,l :: D,y :: xs,I,E=>by
  rw[List.all_cons,aM]at E;simp only[pT,List.all_cons,aM]
  refine⟨?_,acq C D xs (λn J=>I n (.tail _ J)) E.2⟩
  cases y.plain with
  |true=>rfl
  | false=>
   simp only[aq];cases y.aF with
   | true=>
    simp only[ak];cases l with
    | own k=>
     have L:Lf.bH ns cn (.own k)=(bif cJ k cn ||(cJ k ns && !(Nat.beq k.length 1))then .dead else .own k):=rfl;rw[L];cases (cJ k cn ||(cJ k ns && !(Nat.beq k.length 1)))with
     |true=>rfl
     |false=>exact E.1
    |v x=>rfl
    |dead=>rfl
   | false=>
    simp only[aq,Lf.nr,fH,List.getLast?_singleton];simp_all
def V6:∀ (C:aa Nat) (xs:aa V),∀ u∈tU C xs,u.1∈C /\ ∃ y,u.2 = .sl y
 |[],[],u,hu=>by cases hu
 |[],_::_,u,hu=>by cases hu
 | n :: C,y :: xs,u,hu=>by
  simp[tU]at hu;cases I:y.aF with
  |true=>rw[I]at hu;obtain⟨D,E⟩:=V6 C xs u hu;exact⟨.tail _ D,E⟩
  | false=>
   rw[I]at hu;rcases fQ.1 hu with rfl|hu
   ·simp_all
   ·obtain⟨D,E⟩:=V6 C xs u hu;exact⟨.tail _ D,E⟩
def V7{c0:Nat}{ns cn:aa Nat}(E:p e=true)(J:∀ n,c0 <= n -> p n=false):∀ (D:aa Mu) (outs:aa In) (C:Nat),(∀ Z∈D,Oc p Z) -> (∀ u∈nT c0 C D outs,p u=false) /\ ∀ u∈lN ns cn c0 C D outs,u.1≠e/\u.2.drop e=u.2
 |[],outs,C,_=>⟨(λu hu=>by simp[nT]at hu),(λu hu=>by simp[lN]at hu)⟩
 |.aB _ _ _::_,[],C,_=>⟨(λu hu=>by cases hu),(λu hu=>by cases hu)⟩
 |.sl _ _::_,[],C,_=>⟨(λu hu=>by cases hu),(λu hu=>by cases hu)⟩
 |.aB _ _ _::_,.sl _::_,C,_=>⟨(λu hu=>by cases hu),(λu hu=>by cases hu)⟩
 |.sl _ _::_,.aB _::_,C,_=>⟨(λu hu=>by cases hu),(λu hu=>by cases hu)⟩
 | .aB r' cs Q :: D,.aB xs :: outs,C,h=>by
  obtain⟨I,h2,h3⟩:=h _ (.head _);obtain⟨T,k2⟩:=V7 (ns:=ns) (cn:=cn) E J D outs (C+1+Q.length) (λm L=>h m (.tail _ L));have U:∀n,p n=false -> n≠e:=by rintro n Y rfl;rw[E]at Y;cases Y
  have O:=V4 J Q (C+1) h3
  refine⟨λu hu=>?_,λu hu=>?_⟩
  ·simp only[nT]at hu;rcases List.mem_append.1 hu with hu | hu
   ·exact O u (V5 _ _ u hu)
   ·grind
  ·simp only[lN]at hu;rcases fQ.1 hu with rfl | hu
   ·refine⟨U _ I,?_⟩;simp only[aZ.drop];rw[mY.mz (acq _ _ _ O h2) E]
   ·rcases List.mem_append.1 hu with hu | hu
    ·obtain⟨g1,y,g2⟩:=V6 _ _ u hu;exact⟨U _ (O _ g1),by rw[g2];rfl⟩
    ·grind
 | .sl q y :: D,.sl y' :: outs,C,h=>by
  have I:p q=false:=h _ (.head _);obtain⟨T,k2⟩:=V7 (ns:=ns) (cn:=cn) E J D outs (C+1) (λm L=>h m (.tail _ L))
  refine⟨λu hu=>T u (by simpa [nT]using hu),λu hu=>?_⟩
  simp only[lN]at hu;cases hy:y'.ki with
  |false=>grind
  |true=>
  rw[hy]at hu;rcases fQ.1 hu with rfl|hu
  ·exact⟨(by rintro rfl;rw[E]at I;cases I),rfl⟩
  ·grind
def Oe:∀ (xs:aa V) (c:Nat),e<c -> (lK c xs).map (Lf.drop e)=lK c xs
 |[],_,_=>rfl
 | y :: xs,c,h=>by
  simp only[lK,List.map_cons];rw[Oe xs _ (by omega)];cases y.aF with
  |true=>rfl
  | false=>
   have:bL e [c]=false:=by simp[bL];omega
   simp[aq,Lf.drop,this]
def acr{b:Bool}{xs:aa Lf}{y:A}(h:sH (b,xs)=some y)(C:xs.map (Lf.drop e)=xs):y.drop e=y:=by
 unfold sH at h;split at h
 next D=>injection h with h;subst h;obtain⟨_,rfl⟩:=D;exact bF A.agg C
 next z D=>injection h with h;subst h;obtain⟨_,rfl⟩:=D;simp at C;exact bF A.lf C
 ·cases h
def acs:∀ (ps:aa Pt) (c:Nat),e<c->(oA c ps).map (λq=>(q.1,q.2.map (Lf.drop e)))=oA c ps
 |[],_,_=>rfl
 | q :: ps,c,h=>by
  simp only[oA,List.map_cons];rw[Oe _ _ h,acs ps _ (by omega)]
def acu(ps:aa Pt)(c:Nat)(h:e<c):A.drop e (.cQ (oA c ps)) = .cQ (oA c ps):=bF A.cQ (acs ps c h)
def aoT(E:pX x)(I:nX e u)(U:e<20000){C:aj Tmp}(O:C≠some e){D:gp}{J:S}(h:mX N σ C D some=some J):mX N (cT e x u σ) C D some=some (cT e x u J):=by
 cases C with
 | none=>
  injection h with h;rw[<- h];rfl
 | some d=>
  have L:d≠e:=by rintro rfl;exact O rfl
  unfold mX at h ⊢;cases Q:Nat.blt d N with
  |false=>simp_all
  | true=>
   simp only[Q,ak]at h ⊢;cases D with
   | one q=>
    simp only at h ⊢;split at h
    next y T=>injection h with h;subst h;rw[Ii E I _ _ _ (by omega),Er L (acr T (Oe _ _ (by omega)))]
    ·cases h
   | cQ ps=>
    injection h with h;subst h;simp only;rw[VX E I _ _ _ (by omega),Er L (acu _ _ (by omega))]
def aoU(fO:fX P Φ)(Z:pX x)(O:nX e u)(he:e<20000)(T:p e=true)(BV:∀ n,20000 <= n -> p n=false)(C:nW Φ o=true)(hd:o.dst≠some e)(vr:∀ y∈o.op.operands,(aI σ y).nr p=true/\y ≠ .tmp e)(hl:∀ n∈qK Φ σ o,w5 σ p n=true){τ:S}
  (h:dm P N Φ σ o some=some τ):dm P N Φ (cT e x u σ) o some=some (cT e x u τ):=by
 have zM:∃ f args jy,o.op = .call { callee:=.value (.func f),args:=args,argTypes:=jy }:=by
  unfold nW at C;split at C
  ·grind
  ·cases C
 obtain⟨f,args,jy,D⟩:=zM;have mV:∀ y∈args.toList,(aI σ y).nr p=true/\y ≠ .tmp e:=by
  intro y U;refine vr y ?_;rw[D];simp only[Op.operands,Call.operands];simp only[Array.mem_append]
  first
   |exact .inr (by simpa using U)
   |exact .inl (by simpa using U)
 have ew:∀ σ2,dm P N Φ σ2 o some=ig P N Φ σ2 o some:=by
  intro σ2;unfold dm;rw[show fM o.op=false by rw[D];rfl,aq]
 rw[ew]at h ⊢;cases I:Φ f with
 |none=>simp only[ig,D,I]at h;cases h
 | some c=>
  cases c with
  |n F=>rw[nW,D]at C;simp[I]at C
  |v c=>rw[nW,D]at C;simp[I]at C
  |i c=>rw[nW,D]at C;simp[I]at C
  |d c=>rw[nW,D]at C;simp[I]at C
  |q c=>rw[nW,D]at C;simp[I]at C
  |c c=>rw[nW,D]at C;simp[I]at C
  | p c=>
   simp only[ig,D,I]at h ⊢;obtain⟨d,Y,h⟩:=gB h;have Of:d≠e:=by rintro rfl;exact hd Y
   obtain⟨res,ov,J,E,h3⟩:=HO (fO f _ I).2 h;injection E with E;subst E;simp only[eS,Y]
   refine(h3 (cT e x u σ) (cT e x u ov) (λX k=>acm T _ k mV) ?_).at_ _
   unfold pU at J ⊢;cases res with
   | one q=>
    simp only at J ⊢;split at J
    next y U=>injection J with J;subst J;rw[Ii Z O _ _ _ (by omega),Er Of (acr U (Oe _ _ (by omega)))]
    ·cases J
   | cQ ps=>
    injection J with J;subst J;simp only;rw[VX Z O _ _ _ (by omega),Er Of (acu _ _ (by omega))]
  | m c=>
   simp only[ig,D,I]at h ⊢;have Bv:∀ n∈iV σ c.ps args.toList,w5 σ p n=true:=by
    intro n Q;refine hl n ?_;simp[qK,D,I];exact Q
   unfold mq at h;split at h
   ·rename_i L tV;obtain⟨g1,g2⟩:=V1 (x:=x) (u:=u) T c.ps args.toList L mV Bv tV;cases mw:(once (kQ 0 L)&&Nat.ble L.length 40)with
    |false=>grind
    | true=>
     rw[mw,ak]at h;obtain⟨z,E,acv⟩:=BF _ _ _ _ h;simp only[mq,g1,mw,ak];rw[Od T _ _ _ _ _ mV];refine(acv S _).trans ?_;split at E
     ·rename_i y U;unfold zo at E ⊢;generalize pQ:nT (iE o.dst) (ff c.ro y.1).len L (jb (eO c.ps) y.2)=cn at E;generalize jc:Bp N L (jb (eO c.ps) y.2) cn=ok at E;cases ok with
      |false=>cases E
      | true=>
       rw[ak]at E;have tS:∀ n,iE o.dst <= n -> p n=false:=by
        intro n Q;refine BV n ?_;cases Y:o.dst with
        |none=>rw[Y]at Q;simp only[iE]at Q;omega
        |some d=>rw[Y]at Q;simp only[iE]at Q;omega
       obtain⟨k1,k2⟩:=V7 (ns:=(kQ 0 L).map (·.1)) (cn:=cn) T tS L (jb (eO c.ps) y.2) (ff c.ro y.1).len g2;rw[pQ]at k1;rw[ak,aoO Z O ?_ ?_ k2]
       ·exact aoT Z O he hd E
       ·cases hm:cu e ((kQ 0 L).map (·.1))with
        |false=>rfl
        | true=>
         obtain⟨u,O,e1⟩:=List.mem_map.1 (tT.1 hm);have:=V3 L 0 g2 u O
         grind
       ·cases hm:cu e cn with
        |false=>rfl
        |true=>have:=k1 e (tT.1 hm);rw[T]at this;cases this
     ·cases E
   ·cases h
def A.Og{y:A}(h:y.fM=true)(n:Nat):y.drop n=y:=by
 cases y with
 |lf l=>cases l<;>first|rfl|cases h
 | agg cs=>
  refine bF A.agg ?_
  conv=>rhs;rw[<-List.map_id cs]
  refine lX λl hl=>?_
  have:=cE.1 h l hl;cases l<;>first|rfl|cases this
 |_=>cases h
def A.aoV{y:A}(h:y.fM=true)(ns cn:aa Nat):y.bH ns cn=y:=by
 cases y with
 |lf l=>cases l<;>first|rfl|cases h
 | agg cs=>
  refine bF A.agg ?_
  conv=>rhs;rw[<-List.map_id cs]
  refine lX λl hl=>?_
  have:=cE.1 h l hl;cases l<;>first|rfl|cases this
 |_=>cases h
def Ij:∀ (xs:aa V) (c:Nat) (σ:S) {t:Nat},(σ.t t).fM=true -> (iU c σ xs).t t=σ.t t
 |[],c,σ,t,h=>rfl
 | y :: xs,c,σ,t,h=>by
  simp[iU];cases y.aF with
  |true=>exact Ij xs _ σ h
  | false=>
   simp;have C:(((σ.drop c).root c (.sl y)).t t)=σ.t t:=by rw[acg];exact A.Og h c
   rw[Ij xs _ _ (by rw[C];exact h),C]
def V8:∀ (ps:aa Pt) (c:Nat) (σ:S) {t:Nat},(σ.t t).fM=true -> (lM c σ ps).t t=σ.t t
 |[],c,σ,t,h=>rfl
 | q :: ps,c,σ,t,h=>by
  simp[lM];have C:=Ij q.2 c σ h;rw[V8 ps _ _ (by rw[C];exact h),C]
def aoW{C:aj Tmp}{D:gp}{E:S}(h:mX N σ C D some=some E){t:Nat}(I:(σ.t t).fM=true)(L:C≠some t):E.t t=σ.t t:=by
 cases C with
 | none=>
  injection h with h;rw[<- h]
 | some d=>
  have J:t≠d:=by rintro rfl;exact L rfl
  unfold mX at h;cases O:Nat.blt d N with
  |false=>simp_all
  | true=>
   simp[O]at h;cases D with
   | one q=>
    simp only at h;split at h
    next y Q=>injection h with h;subst h;exact(cF _ _ _ J).trans (Ij _ _ _ I)
    ·cases h
   | cQ ps=>
    injection h with h;subst h;exact(cF _ _ _ J).trans (V8 _ _ _ I)
def aoX(fO:fX P Φ)(C:nW Φ o=true){Q:S}(h:dm P N Φ σ o some=some Q){t:Nat}(L:(σ.t t).fM=true)(T:o.dst≠some t):Q.t t=σ.t t:=by
 have zM:∃ f args U,o.op = .call { callee:=.value (.func f),args:=args,argTypes:=U }:=by
  unfold nW at C;split at C
  ·grind
  ·cases C
 obtain⟨f,args,U,E⟩:=zM;have ew:dm P N Φ σ o some=ig P N Φ σ o some:=by
  unfold dm;rw[show fM o.op=false by rw[E];rfl,aq]
 rw[ew]at h;cases I:Φ f with
 |none=>simp only[ig,E,I]at h;cases h
 | some c=>
  cases c with
  |n F=>rw[nW,E]at C;simp[I]at C
  |v c=>rw[nW,E]at C;simp[I]at C
  |i c=>rw[nW,E]at C;simp[I]at C
  |d c=>rw[nW,E]at C;simp[I]at C
  |q c=>rw[nW,E]at C;simp[I]at C
  |c c=>rw[nW,E]at C;simp[I]at C
  | p c=>
   simp only[ig,E,I]at h;obtain⟨d,tZ,h⟩:=gB h;obtain⟨res,ov,J,D,h3⟩:=HO (fO f _ I).2 h;injection D with D;subst D;have Y:t≠d:=by rintro rfl;exact T tZ
   unfold pU at J;cases res with
   | one q=>
    simp only at J;split at J
    next y hy=>injection J with J;subst J;exact(cF _ _ _ Y).trans (Ij _ _ _ L)
    ·cases J
   | cQ ps=>
    injection J with J;subst J;exact(cF _ _ _ Y).trans (V8 _ _ _ L)
  | m c=>
   simp only[ig,E,I]at h;unfold mq at h;split at h
   ·rename_i O tV;cases mw:(once (kQ 0 O)&&Nat.ble O.length 40)with
    |false=>grind
    | true=>
     rw[mw,ak]at h;obtain⟨z,D,acv⟩:=BF _ _ _ _ h;split at D
     ·rename_i y hy;unfold zo at D;generalize Bp N O (jb (eO c.ps) y.2) (nT (iE o.dst) (ff c.ro y.1).len O (jb (eO c.ps) y.2))=ok at D;cases ok with
      |false=>cases D
      | true=>
       rw[ak]at D;have Z:∀ns cn nr,(σ.bH ns cn nr).t t=σ.t t:=λns cn nr=>A.aoV L ns cn
       have:=aoW (t:=t) D (by rw[Z];exact L) T;rw[this,Z]
     ·cases D
   ·cases h
def aoY{E:Nat}{I:aZ}{J:A}(L:pX x)(O:nX e u)(Q:pX I)(T:nX E J)(h:e≠E):cT E I J (cT e x u σ)=cT e x u (cT E I J σ):=by
 refine S.ext' (λk=>?_) λn=>?_
 ·simp only[uc];by_cases C:k=E
  ·subst C;rw[br rfl,bE (Ne.symm h),br rfl,T.drop (Ne.symm h)]
  ·rw[bE C];by_cases D:k=e
   ·subst D;rw[br rfl,br rfl,O.drop h]
   ·rw[bE D,bE D,bE C,A.rX]
 ·simp only[pY];by_cases C:n=E
  ·subst C;rw[br rfl,bE (Ne.symm h),br rfl,jj,Q.1]
  ·rw[bE C];by_cases D:n=e
   ·subst D;rw[br rfl,br rfl,jj,L.1]
   ·rw[bE D,bE D,bE C];cases σ.m n with
    |none=>rfl
    |some y=>simp[jj,aZ.rX]
def aoZ(J:pX x)(L:nX e u)(O:p e=true)(Q:oF o=true)(T:o.dst≠some e)(C:∀ y∈o.op.operands,(aI σ y).nr p=true/\y ≠ .tmp e){D:S}
  (h:dm P N Φ σ o some=some D):dm P N Φ (cT e x u σ) o some=some (cT e x u D):=by
 obtain⟨U,x',u',Y,Nn,Z,uY,jA,oG⟩:=N5 (o:={ o with guard:=none }) (ops:=#[]) Q rfl h;have eU:e≠U:=by rintro rfl;exact T Y
 have E:=oG (cT e x u σ) rfl λy I=>w8 (C y I).1 O (C y I).2
 rw[aoY J L Z uY eU,<- jA]at E;exact E
def ao0(D:oF o=true){C:S}(h:dm P N Φ σ o some=some C){t:Nat}(E:(σ.t t).fM=true)(I:o.dst≠some t):C.t t=σ.t t:=by
 obtain⟨J,T,U,L,Y,Z,uY,O,oG⟩:=N5 (o:={ o with guard:=none }) (ops:=#[]) D rfl h;have Q:t≠J:=by rintro rfl;exact I L
 rw[O,uc,bE Q,A.Og E]
def ao1(T:pX x)(U:nX e u)(C:p e=true)(Y:isApp o=true)(Z:o.dst≠some e)(J:∀ y∈o.op.operands,(aI σ y).nr p=true/\y ≠ .tmp e){L:S}
  (h:dm P N Φ σ o some=some L):dm P N Φ (cT e x u σ) o some=some (cT e x u L):=by
 obtain⟨a,b,t,t',I,hn,mg,hk⟩:=VS Y;have E:=J a (by rw[I];simp[Op.operands,Call.operands]);have hb:=J b (by rw[I];simp[Op.operands,Call.operands]);rw[Ig I hn mg hk]at h ⊢;obtain⟨d,O,h⟩:=gB h;obtain⟨r,v,jA,hr,oG⟩:=N6 h;have Of:d≠e:=by rintro rfl;exact Z O
 have Q:r≠e:=by
  rcases hr with h1|h1
  ·simp_all
  ·rintro rfl;have D:=E.1;rw[h1]at D;simp[A.nr,Lf.nr,fH,C]at D
 unfold eS;rw[O];simp only;rw[w8 E.1 C E.2,w8 hb.1 C hb.2,oG (cT e x u σ) (λk=>aoP hb.1 C) (λr' v' hU sG=>?_)]
 ·rw[aci v T U (Ne.symm Q),Er Of,jA];have:bL e [r]=false:=by simp[bL,Q]
  simp[A.drop,Lf.drop,this,aq]
 ·have eU:r'≠e:=by
   rintro rfl;have D:=E.1;rw[hU]at D;simp[A.nr,Lf.nr,fH,C]at D
  rw[pY,bE eU,sG];rfl
def ao2(D:isApp o=true){C:S}(h:dm P N Φ σ o some=some C){t:Nat}(E:(σ.t t).fM=true)(I:o.dst≠some t):C.t t=σ.t t:=by
 obtain⟨a,b,Z,t2,J,L,O,Q⟩:=VS D;rw[Ig J L O Q]at h;obtain⟨d,T,h⟩:=gB h;obtain⟨r,v,U,hr,oG⟩:=N6 h;have Y:t≠d:=by rintro rfl;exact I T
 rw[U];show bV ((σ.drop r).root r _).t d _ t=_;rw[cF _ _ _ Y];exact A.Og E r
def acw(C:∃ ty t y,o.op = .store ty (.tmp t) y/\o.dst=none /\ ∃ r j,σ.t t = .aG r j){I:S}(h:dm P N Φ σ o some=some I):∃ t y r j cs xs,o.op.operands = #[.tmp t,y]/\σ.t t = .aG r j/\(aI σ y).yT=some xs/\σ.m r=some (.aB cs)/\I=σ.root r (.aB (splice cs j xs)) /\
  ∀(σ2:S) (D:aa Lf),σ2.t t = .aG r j -> aI σ2 y=aI σ y -> σ2.m r=some (.aB D) -> D.length=cs.length -> dm P N Φ σ2 o some=some (σ2.root r (.aB (splice D j xs))):=by
 obtain⟨ty,t,y,C,Q,r,j,J⟩:=C;have L:∀ σ2:S,σ2.t t = .aG r j -> dm P N Φ σ2 o some=nO P σ2 ty (.aG r j) (aI σ2 y) some:=by
  intro σ2 E;unfold dm;rw[show fM o.op=false by rw[C];rfl,aq];simp[ig,C,Q];have T:aI σ2 (.tmp t) = .aG r j:=E;rw[T,show vn _ _=false from rfl,aq]
 rw[L σ J]at h;unfold nO at h;split at h
 ·rename_i n xs U O;split at h
  ·rename_i hlen;simp only at h;split at h
   ·rename_i cs Y;split at h
    ·rename_i Z;cases hl:xs.all Lf.live with
     |false=>simp_all
     | true=>
      rw[hl,ak]at h;injection h with h
      refine⟨t,y,r,j,cs,xs,by rw[C];rfl,J,O,Y,h.symm,λσ2 D h1 E h3 h4=>?_⟩
      rw[L σ2 h1,E];simp only[nO,U,O,br hlen,h3];rw[br (by rw[h4];exact Z),hl];rfl
    ·cases h
   ·cases h
  ·cases h
 ·cases h
def acy(C:HZ o=true)(E:wZ σ o=true):∃ ty t y,o.op = .store ty (.tmp t) y/\o.dst=none /\ ∃ r j,σ.t t = .aG r j:=by
 unfold HZ at C;rw[aM]at C;obtain⟨D,I⟩:=C;split at D
 ·rename_i ty t y J;refine⟨ty,t,y,J,Option.isNone_iff_eq_none.1 I,?_⟩;unfold wZ at E
  grind
 ·cases D
def ao3{y:A}{xs:aa Lf}(h:y.yT=some xs)(C:y.nr p=true):xs.all (Lf.nr p)=true:=by
 cases y with
 |lf l=>injection h with h;subst h;simpa [A.nr]using C
 |agg cs=>injection h with h;subst h;exact C
 |_=>cases h
def ao4(hx:pX x)(hu:nX e u)(C:p e=true)(Y:HZ o=true)(Z:wZ σ o=true)(J:∀ y∈o.op.operands,(aI σ y).nr p=true/\y ≠ .tmp e){L:S}
  (h:dm P N Φ σ o some=some L):dm P N Φ (cT e x u σ) o some=some (cT e x u L):=by
 obtain⟨t,y,r,j,cs,xs,O,Q,g3,g4,g5,g6⟩:=acw (acy Y Z) h;have D:=J (.tmp t) (by rw[O];simp);have E:=J y (by rw[O];simp);have e1:(cT e x u σ).t t = .aG r j:=(w8 D.1 C D.2).trans Q;have T:r≠e:=by
  have U:=D.1;have h3:aI σ (.tmp t) = .aG r j:=Q;rw[h3]at U;exact aor U C
 have e3:(cT e x u σ).m r=some (.aB (cs.map (Lf.drop e))):=by
  rw[pY,bE T,g4];rfl
 have rC:=mY.mz (ao3 g3 E.1) C;rw[g6 (cT e x u σ) _ e1 (w8 E.1 C E.2) e3 (by rw[dh]),g5];congr 1
 refine S.ext' (λk=>?_) λn=>?_
 ·rfl
 ·show bV (cT e x u σ).m r (some (.aB (splice (cs.map (Lf.drop e)) j xs))) n=(cT e x u (σ.root r (.aB (splice cs j xs)))).m n;rw[pY];by_cases I:n=r
  ·subst I;rw[cg,bE T];show _=(bV σ.m n (some _) n).map _;rw[cg];simp[jj,aZ.drop,splice,lZ,List.map_take,List.map_drop,rC]
  ·rw[cF _ _ _ I,pY];have:(σ.root r (.aB (splice cs j xs))).m n=σ.m n:=cF _ _ _ I;rw[this]
def ao5(D:HZ o=true)(E:wZ σ o=true){C:S}(h:dm P N Φ σ o some=some C)(t:Nat):C.t t=σ.t t:=by
 obtain⟨_,_,r,j,cs,xs,_,_,_,_,I,_⟩:=acw (acy D E) h;rw[I];rfl
def ao6(Q:fX P Φ)(C:pX x)(D:nX e u)(T:e<20000)(E:p e=true)(U:∀ n,20000<=n->p n=false)(J:H6 Φ o=true)(Y:wZ σ o=true)(L:o.dst≠some e)(I:∀ y∈o.op.operands,(aI σ y).nr p=true/\y ≠ .tmp e)(hl:∀ n∈qK Φ σ o,w5 σ p n=true){O:S}
  (h:dm P N Φ σ o some=some O):dm P N Φ (cT e x u σ) o some=some (cT e x u O):=by
 unfold H6 at J;rw[ei,ei,ei]at J;rcases J with ((hc|hc)|hc)|hc
 ·exact aoU Q C D T E U hc L I hl h
 ·exact aoZ C D E hc L I h
 ·exact ao1 C D E hc L I h
 ·exact ao4 C D E hc Y I h
def ao7(J:fX P Φ)(C:H6 Φ o=true)(L:wZ σ o=true){I:S}(h:dm P N Φ σ o some=some I){t:Nat}(D:(σ.t t).fM=true)(E:o.dst≠some t):I.t t=σ.t t:=by
 unfold H6 at C;rw[ei,ei,ei]at C;rcases C with ((hc|hc)|hc)|hc
 ·exact aoX J hc h D E
 ·exact ao0 hc h D E
 ·exact ao2 hc h D E
 ·exact ao5 hc L h t
end
end Go.Proofs.YtglnbhiaknohlaaGreat
