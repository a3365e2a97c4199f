/-
  Running the program over pure contents, and that it follows (part 4). Nothing here is a claim.
-/
import Derived.Test.YtglnbhiaknohlaaGreatV3
set_option linter.unusedSimpArgs false
namespace Go.Proofs.YtglnbhiaknohlaaGreat
set_option linter.defProp false
open Go.RowKit
set_option linter.unusedVariables false
abbrev eo:=Nat->ah qp
def fQ(P:Program)(Φ:eo):Prop:=∀f c,Φ f=some c->enters P f/\VJ P f c
def eN{X:Type}(o:Oper)(k:Nat->ah X):ah X:=
 match o.dst with
 |some d=>k d
 |none=>none
def fJ:Op->Bool
 |.move _|.assign _|.pick .. |.build .. |.load .. |.binOp .. |.unOp .. |.convert .. |.fieldAddr .. |.field .. |.indexAddr .. |.index .. |.extract .. |.nilCheck _=>true
 |.call ⟨.builtin .len,_,_⟩|.call ⟨.builtin .max,_,_⟩|.call ⟨.builtin .min,_,_⟩=>true
 |.slice _ _ _ _ none=>true
 |_=>false
def ep{X:Type}(P:Program)(σ:S)(op:Op)(k:A->ah X):ah X:=
 match op with
 |.move x=>k (aI σ x)
 |.assign x=>k (aI σ x)
 | .pick c x y=>(match aI σ c with
  |.lf (.v (.bool b))=>bif b then k (aI σ x)else k (aI σ y)
  |_=>none)
 |.build t parts=>uP P σ t parts.toList k
 |.load t x=>jn P σ t (aI σ x) k
 |.binOp op t x y _=>mJ P σ op t (aI σ x) (aI σ y) k
 |.unOp op _ x=>vK (aI σ x) λa=>DC op a λz=>k (.lf (.v z))
 |.convert s d x=>oq P σ s d (aI σ x) k
 |.fieldAddr s x f=>uL P s (aI σ x) f k
 |.field s x f=>yQ P s (aI σ x) f k
 |.indexAddr t x i=>oX P σ t (aI σ x) (aI σ i) k
 |.index t x i=>A9 P t (aI σ x) (aI σ i) k
 |.extract x i=>v8 (aI σ x) i k
 |.nilCheck x=>NH (aI σ x) k
 |.call ⟨.builtin .len,⟨[x]⟩,⟨[t]⟩⟩=>qZ P σ t (aI σ x) k
 |.call ⟨.builtin .max,⟨[x,y]⟩,⟨[_,_]⟩⟩=>A8 true (aI σ x) (aI σ y) k
 |.call ⟨.builtin .min,⟨[x,y]⟩,⟨[_,_]⟩⟩=>A8 false (aI σ x) (aI σ y) k
 |.slice t x lo hi none=>q8 P σ t (aI σ x) (lo.map (aI σ)) (hi.map (aI σ)) k
 |_=>none
def hJ{X:Type}(P:Program)(N:Nat)(Φ:eo)(σ:S)(o:Oper)(k:S->ah X):ah X:=
 match o.op with
 |.alloc e=>eN o λd=>sq P N σ d e k
 |.box e x=>eN o λd=>Bk N σ d (aI σ x) k
 |.buildSlice t len parts=>eN o λd=>bif oz t then zh P N σ d t len parts.toList k else A6 P N σ d t len parts.toList k
 | .store t x y=>(match o.dst with
  |none=>bif uY (aI σ x) (aI σ y)then rE P σ t (aI σ x) (aI σ y) k else nJ P σ t (aI σ x) (aI σ y) k
  |some _=>none)
 |.makeSlice t l c=>eN o λd=>A0 P N σ d t (aI σ l) (aI σ c) k
 | .call ⟨.value (.func f),args,_⟩=>(match Φ f with
  |some (.p c)=>eN o λd=>yW N σ d c args.toList k
  |some (.m c)=>l6 N σ o.dst c args.toList k
  |some (.v c)=>eN o λd=>Bo N σ d c args.toList k
  | some (.n F)=>eN o λd=>(match args.toList with
   |[x]=>Bm N σ d F (aI σ x) k
   |_=>none)
  |some (.i c)=>D0 N σ o.dst c (args.toList.map (aI σ)++[]) k
  |some (.d c)=>Bj N σ o.dst c args.toList k
  |some (.q c)=>eN o λd=>ri N σ d c args.toList k
  |some (.c c)=>Bq N σ o.dst c args.toList k
  |none=>none)
 |.call ⟨.builtin .append,⟨[x,y]⟩,⟨[t,C]⟩⟩=>bif Nat.beq t C then eN o λd=>bif oz t then zi P N σ d t (aI σ x) (aI σ y) k else bif HM t d x then Bv P N σ d t (aI σ x) (aI σ y) k else qe P N σ d t (aI σ x) (aI σ y) k else none
 |.makeMap _ none=>eN o λd=>NP N σ d k
 |.lookup t x i false=>HK P σ t (aI σ x) (aI σ i) λv=>iu N σ o.dst v k
 | .mapUpdate t x i v=>(match o.dst with
  |none=>HL P σ t (aI σ x) (aI σ i) (aI σ v) k
  |some _=>none)
 | .call ⟨.value (.tmp t),args,_⟩=>(match NM (aI σ (.tmp t))with
  | some (f,ex)=>(match Φ f with
   |some (.i c)=>D0 N σ o.dst c (args.toList.map (aI σ)++ex) k
   |_=>none)
  |none=>none)
 | .makeFunc (.func f) ⟨[]⟩ D=>(match HI σ D.toList with
  |some ps=>iu N σ o.dst (.fn f ps) k
  |none=>none)
 |.call ⟨.builtin .clear,⟨[x]⟩,⟨[t]⟩⟩=>A5 P σ t (aI σ x) λE=>iu N E o.dst .undef k
 |_=>none
def dn{X:Type}(P:Program)(N:Nat)(Φ:eo)(σ:S)(o:Oper)(k:S->ah X):ah X:=
 bif fJ o.op then ep P σ o.op λv=>iu N σ o.dst v k else hJ P N Φ σ o k
def nQ{X:Type}(P:Program)(N:Nat)(Φ:eo)(σ:S)(o:Oper)(k:S->ah X):ah X:=
 match o.op,o.dst with
 | .store t x y,none=>(match aI σ y with
  |.view [q] s i j=>zk P σ q s i j t (aI σ x) k
  |_=>dn P N Φ σ o k)
 |.slice t x (some lo) (some hi) (some C),some d=>zl P σ t (aI σ x) (aI σ lo) (aI σ hi) (aI σ C) (bif Nat.blt d N then k (σ.set d .undef)else none)
 |_,_=>dn P N Φ σ o k
def fK(σ:S)(ops:Array Oper)(o:Oper):ah Bool:=
 match o.guard with
 |none=>some true
 | some (j,want)=>match (ops[j]?).bind (·.dst)with
  | some t=>(match σ.t t with
   |.lf (.v (.bool b))=>some (b==want)
   |.skip=>some false
   |_=>none)
  |none=>none
def HN(ops:Array Oper)(j:Nat):Bool:=ops.toList.any λo=>match o.guard with
 |some (i,_)=>Nat.beq i j
 |none=>false
def pE{X:Type}(σ:S)(C:ah Tmp)(g:Bool)(k:S->ah X):ah X:=
 bif g then (match C with
  | some d=>(match σ.t d with
   |.lf (.v (.bool b))=>bif b then k (σ.set d (.lf (.v (.bool true))))else k (σ.set d (.lf (.v (.bool false))))
   |_=>k σ)
  |none=>k σ)else k σ
def uZ{X:Type}(P:Program)(N:Nat)(Φ:eo)(ops:Array Oper):Nat->aa Oper->S->(S->ah X)->ah X
 |_,[],σ,k=>k σ
 | j,o :: rest,σ,k=>match fK σ ops o with
  |some true=>nQ P N Φ σ o λC=>pE C o.dst (HN ops j) λD=>uZ P N Φ ops (j+1) rest D k
  |some false=>iu N σ o.dst .skip λC=>uZ P N Φ ops (j+1) rest C k
  |none=>none
/-! Regions whose order is open: what is listed is a set of bits. -/
def dw{X:Type}(P:Program)(N:Nat)(Φ:eo)(ops:Array Oper)(σ:S)(o:Oper)(k:S->ah X):ah X:=
 match fK σ ops o with
 |some true=>dn P N Φ σ o k
 |some false=>iu N σ o.dst .skip k
 |none=>none
def l9(ops:Array Oper)(L j:Nat):Bool:=!L.testBit j&&(match ops[j]? with
 |some o=>o.after.toList.all λe=>!Region.binds .any e ||L.testBit e.on
 |none=>false)
def HO(ops:Array Oper)(i W j:Nat):Bool:=(match ops[j]? with
 |some o=>o.after.toList.any λe=>Region.binds .any e&&(Nat.beq e.on i ||W.testBit e.on)
 |none=>false)
def waits(ops:Array Oper)(i:Nat):Nat->Nat->Nat->Nat
 |0,_,W=>W
 |n+1,j,W=>waits ops i n (j+1) (bif HO ops i W j then W |||2 ^ j else W)
def dV(o:Oper)(n:Nat):Bool:=match o.dst with
 | some d=>(match o.op with
  |.alloc _|.box .. |.buildSlice .. |.makeSlice ..=>Nat.beq n d
  |.call ⟨.value (.func _),_,_⟩=>Nat.ble (1000000000100000+1000*d) n
  |.call ⟨.builtin .append,_,_⟩=>Nat.beq n d
  |_=>false)
 |none=>false
def NS(Φ:eo)(op:Op):Bool:=fJ op || (match op with
 |.alloc _|.box .. |.buildSlice .. |.makeSlice ..=>true
 | .call ⟨.value (.func f),_,_⟩=>(match Φ f with
  |some (.p _)=>true
  |some (.q _)=>true
  |_=>false)
 |_=>false)
def hU(g:Oper->Bool)(ops:Array Oper)(i L W:Nat):Nat->Nat->Bool
 |0,_=>false
 | f+1,j=>(!(Nat.beq j i || L.testBit j || W.testBit j)&&(match ops[j]? with
  |some C=>g C
  |none=>false)) ||hU g ops i L W f (j+1)
def HP(g:Oper->Bool)(ops:Array Oper)(C:Oper)(i L W:Nat):Nat->Nat->Bool
 |0,_=>true
 | n+1,j=>(Nat.beq j i || L.testBit j || (bif W.testBit j then HO ops i W j else (match ops[j]? with
  |some D=>g D&&C.apart ops D
  |none=>true)))&&HP g ops C i L W n (j+1)
def NT(c:nM):Bool:=c.ps.all λp=>match p with
 |.v _ _=>true
 |.p _ g _=>Nat.beq g 0
 |.s _ _=>false
def sC(ok:Nat->Nat->Bool)(σ:S):aa PK->aa Operand->Bool
 | .p _ _ _ :: ps,.tmp t :: xs=>(match σ.t t with
  |.aG r _=>ok t r
  |_=>false)&&sC ok σ ps xs
 |.v _ _::ps,_::xs=>sC ok σ ps xs
 |[],[]=>true
 |_,_=>false
def iI(σ:S):aa PK->aa Operand->aa Nat
 | .p _ _ _ :: ps,x :: xs=>(match aI σ x with
  |.aG r _=>r::iI σ ps xs
  |_=>iI σ ps xs)
 |_::ps,_::xs=>iI σ ps xs
 |_,_=>[]
def qq(Φ:eo)(σ:S)(o:Oper):aa Nat:=match o.op with
 | .call ⟨.value (.func f),args,_⟩=>(match Φ f with
  |some (.m c)=>iI σ c.ps args.toList
  |_=>[])
 |_=>[]
def jQ(t:Nat)(o:Oper):Bool:=match o.dst with
 |some d=>Nat.beq d t
 |none=>false
def va(o:Oper):Bool:=(match o.op with
 |.alloc _=>true
 |_=>false)&&o.guard.isNone&&(match o.dst with
 |some d=>Nat.blt d 20000
 |none=>false)
def oA(o:Oper):Bool:=(match o.op with
 |.alloc _=>true
 |.buildSlice t _ _=>!oz t
 |.makeSlice ..=>true
 |_=>false)&&(match o.dst with
 |some d=>Nat.blt d 20000
 |none=>false)
def isApp(o:Oper):Bool:=match o.op with
 |.call ⟨.builtin .append,⟨[x,_]⟩,⟨[t,C]⟩⟩=>!oz t&&Nat.beq t C && !Bt o.dst t x
 |_=>false
def VR(Φ:eo)(ops:Array Oper)(i L W:Nat)(σ:S)(o:Oper):Bool:=match o.op with
 | .call ⟨.value (.func f),args,_⟩=>(match Φ f with
  |some (.m c)=>NT c&&sC (λt r=>!hU (jQ t) ops i L W ops.size 0 && !hU (λok=>dV ok r) ops i L W ops.size 0 && !hU isApp ops i L W ops.size 0) σ c.ps args.toList
  |_=>false)
 |_=>false
def A.jR(p pb:Nat->Bool):A->Bool
 |.lf x=>x.nr p
 |.agg cs=>cs.all (Lf.nr p)
 |.cR xs=>xs.all λq=>q.2.all (Lf.nr p)
 |.ptr k=>fC p k
 |.aG r _=>!pb r
 |.pk r _=>!pb r
 |.view k _ _ _=>fC p k
 |.fn _ cap=>cap.all λq=>!pb q.1
 |_=>true
def Bw(σ:S)(o:Oper):aa Nat:=match o.op with
 | .store _ (.tmp t) _=>(match σ.t t with
  |.aG r _=>[r]
  |_=>[])
 | .call ⟨.builtin .append,⟨[.tmp t,_]⟩,⟨[_,_]⟩⟩=>(match σ.t t with
  |.lf (.own [r])=>[r]
  |_=>[])
 |_=>[]
def NU(σ:S)(o:Oper):aa Nat:=match o.op with
 | .call ⟨.builtin .append,⟨[.tmp t,_]⟩,⟨[_,_]⟩⟩=>(match σ.t t with
  |.lf (.own [r])=>[r]
  |_=>[])
 |_=>[]
def aoO(t:Nat)(o:Oper):Bool:=match o.op with
 |.store _ (.tmp C) _=>Nat.beq C t
 |_=>false
def faR(ops:Array Oper)(i L W:Nat)(σ:S)(o:Oper):aa Nat:=match o.op,o.dst with
 | .fieldAddr _ (.tmp x) _,some t=>bif hU (aoO t) ops i L W ops.size 0 then (match σ.t x with
  |.aG r _=>[r]
  |_=>[])else []
 |_,_=>[]
def zm(Φ:eo)(ops:Array Oper)(i L W:Nat)(σ:S)(n:Nat):Bool:=
 hU (λo=>dV o n) ops i L W ops.size 0 ||hU (λo=>cx n (qq Φ σ o) ||cx n (Bw σ o)) ops i L W ops.size 0
def zn(Φ:eo)(ops:Array Oper)(i L W:Nat)(σ:S)(n:Nat):Bool:=
 zm Φ ops i L W σ n ||hU (λo=>cx n (faR ops i L W σ o)) ops i L W ops.size 0
def By(σ:S)(ops:Array Oper)(i L W n:Nat):Bool:=hU (λo=>dV o n) ops i L W ops.size 0 ||hU (λo=>cx n (NU σ o)) ops i L W ops.size 0
def zo(Φ:eo)(o:Oper):Bool:=match o.op with
 | .call ⟨.value (.func f),_,_⟩=>(match Φ f with
  |some (.p _)=>true
  |_=>false)
 |_=>false
def mQ(Φ:eo)(ops:Array Oper)(i L W t:Nat):Bool:=!hU (λok=>jQ t ok && !(oA ok ||isApp ok ||zo Φ ok)) ops i L W ops.size 0
def VS(Φ:eo)(ops:Array Oper)(i L W:Nat)(o:Oper):Bool:=match o.op with
 |.call ⟨.builtin .append,⟨[.tmp t,_]⟩,⟨[ty,C]⟩⟩=>mQ Φ ops i L W t&&(!oz ty&&Nat.beq ty C && !Bt o.dst ty (.tmp t))
 |_=>false
def mR(Φ:eo)(ops:Array Oper)(i L W:Nat)(σ:S)(x:Nat):Bool:=!hU (jQ x) ops i L W ops.size 0&&(match σ.t x with
 |.aG r _=>zn Φ ops i L W σ r
 |.gW _=>true
 |_=>false)
def NV(Φ:eo)(ops:Array Oper)(i L W:Nat)(σ:S)(o:Oper):Bool:=match o.op with
 |.fieldAddr _ (.tmp x) _=>mR Φ ops i L W σ x
 |_=>false
def NW(Φ:eo)(ops:Array Oper)(i L W:Nat)(σ:S)(t:Nat):Bool:=!hU (λok=>jQ t ok && !(va ok ||NV Φ ops i L W σ ok)) ops i L W ops.size 0
def GM(Φ:eo)(ops:Array Oper)(i L W:Nat)(σ:S)(o:Oper):Bool:=match o.op with
 | .store _ (.tmp t) _=>o.dst.isNone&&NW Φ ops i L W σ t&&(match σ.t t with
  |.ptr _=>false
  |_=>true)
 |_=>false
def VT(σ:S)(p:Nat->Bool)(o:Oper):Bool:=o.op.operands.toList.all λx=>(aI σ x).nr p
def VU(σ:S)(p pb:Nat->Bool)(o:Oper):Bool:=(o.op.operands.toList.all λx=>(aI σ x).jR p pb)&&(match o.op with
 | .load _ x=>(match aI σ x with
  |.aG r _=>!p r
  |_=>true)
 |_=>true)
def acg(Φ:eo)(ops:Array Oper)(L:Nat)(σ:S)(i:Nat):Bool:=match ops[i]? with
 | some C=>(fJ C.op || (match fK σ ops C with
  |some b=>!b
  |none=>false))&&Nat.beq ((L |||2 ^ i) &&& waits ops i ops.size 0 0) 0&&HP (λD=>NS Φ D.op ||VR Φ ops i L (waits ops i ops.size 0 0) σ D ||GM Φ ops i L (waits ops i ops.size 0 0) σ D ||VS Φ ops i L (waits ops i ops.size 0 0) D) ops C i L (waits ops i ops.size 0 0) ops.size 0&&VU σ (zn Φ ops i L (waits ops i ops.size 0 0) σ) (By σ ops i L (waits ops i ops.size 0 0)) C
 |none=>false
def zp{X:Type}(P:Program)(N:Nat)(Φ:eo)(ops:Array Oper)(L i:Nat)(σ:S)(o:Oper)(k:S->ah X):ah X:=
 match fK σ ops o with
 |some true=>ep P σ o.op λv=>bif v.jR (zn Φ ops i L (waits ops i ops.size 0 0) σ) (By σ ops i L (waits ops i ops.size 0 0))then iu N σ o.dst v k else none
 |some false=>iu N σ o.dst .skip k
 |none=>none
/-! A call may be taken first where all that is free beside it are new blocks. -/
def A.fJ:A->Bool
 |.lf (.v _)=>true
 | .agg cs=>cs.all λl=>match l with
  |.v _=>true
  |_=>false
 |_=>false
def VV(ops:Array Oper)(i L W:Nat)(σ:S)(o:Oper):Bool:=oA o&&(match fK σ ops o with
 |some b=>b
 | none=>false)&&(o.op.operands.toList.all λx=>(aI σ x).fJ&&(match x with
  |.tmp t=>!hU (jQ t) ops i L W ops.size 0
  |_=>true))&&(match o.guard with
 | some (g,_)=>(match (ops[g]?).bind (·.dst)with
  |some t=>!hU (jQ t) ops i L W ops.size 0
  |none=>true)
 |none=>true)
def nR(Φ:eo)(o:Oper):Bool:=match o.op with
 | .call ⟨.value (.func f),_,_⟩=>(match Φ f with
  |some (.p _)=>true
  |some (.m _)=>true
  |_=>false)
 |_=>false
def HQ(o:Oper):Bool:=(match o.op with
 |.store _ (.tmp _) _=>true
 |_=>false)&&o.dst.isNone
def wN(σ:S)(o:Oper):Bool:=match o.op with
 | .store _ (.tmp t) _=>(match σ.t t with
  |.aG _ _=>true
  |_=>false)
 |_=>true
def HR(Φ:eo)(o:Oper):Bool:=nR Φ o ||oA o ||isApp o ||HQ o
def wO(σ:S)(p:Nat->Bool)(r:Nat):Bool:=match σ.m r with
 |some (.aB cs)=>cs.all (Lf.nr p)
 |_=>true
def D2(o:Oper)(n:Nat):Bool:=jQ n o
def ach(Φ:eo)(ops:Array Oper)(L:Nat)(σ:S)(i:Nat):Bool:=match ops[i]? with
 | some C=>HR Φ C&&Nat.beq ((L ||| 2 ^ i) &&& waits ops i ops.size 0 0) 0&&HP (VV ops i L (waits ops i ops.size 0 0) σ) ops C i L (waits ops i ops.size 0 0) ops.size 0 &&
   VT σ (λn=>hU (λo=>D2 o n) ops i L (waits ops i ops.size 0 0) ops.size 0) C&&(qq Φ σ C).all (wO σ (λn=>hU (λo=>D2 o n) ops i L (waits ops i ops.size 0 0) ops.size 0))&&wN σ C
 |none=>false
def rF(x:A)(n:Nat):ah V:=match x with
 | .cR xs=>(match xs[n]? with
  |some (false,[.v z])=>some z
  |_=>none)
 |_=>none
def VW(ops:Array Oper)(L:Nat)(σ:S)(i:Nat):Bool:=match ops[i]?,(List.range ops.size).filter (λj=>!(Nat.beq j i || L.testBit j))with
 | some C,[E]=>(match C.op,C.dst,C.guard,ops[E]? with
  | .extract (.tmp x) n,some _,none,some D=>(match D.op,D.dst,D.guard with
   |.store _ a b,none,none=>(rF (σ.t x) n).isSome&&uY (aI σ a) (aI σ b)&&C.apart ops D
   |_,_,_=>false)
  |_,_,_,_=>false)
 |_,_=>false
def jS{X:Type}(P:Program)(N:Nat)(Φ:eo)(ops:Array Oper):Nat->Nat->S->(S->ah X)->ah X
 | 0,L,σ,k=>(match (List.range ops.size).filter (l9 ops L)with
  |[]=>k σ
  |_=>none)
 | f+1,L,σ,k=>(match (List.range ops.size).filter (l9 ops L)with
  |[]=>k σ
  | [i]=>(match ops[i]? with
   |some o=>dw P N Φ ops σ o λC=>pE C o.dst (HN ops i) λD=>jS P N Φ ops f (L |||2 ^ i) D k
   |none=>none)
  | rs=>(match rs.find? (acg Φ ops L σ)with
   | some i=>(match ops[i]? with
    |some o=>zp P N Φ ops L i σ o λC=>pE C o.dst (HN ops i) λD=>jS P N Φ ops f (L |||2 ^ i) D k
    |none=>none)
   | none=>(match rs.find? (ach Φ ops L σ)with
    | some i=>(match ops[i]? with
     |some o=>dw P N Φ ops σ o λC=>pE C o.dst (HN ops i) λD=>jS P N Φ ops f (L |||2 ^ i) D k
     |none=>none)
    | none=>(match rs.find? (VW ops L σ)with
     | some i=>(match ops[i]? with
      |some o=>dw P N Φ ops σ o λC=>pE C o.dst (HN ops i) λD=>jS P N Φ ops f (L |||2 ^ i) D k
      |none=>none)
     |none=>none))))
/-! A new slice of constants may come first,beside values and calls of contents. -/
structure sD where
 run:(X:Type)->S->(Exit->S->Option X)->Option X
abbrev mS:=Nat->ah sD
def gj{X:Type}(P:Program)(N:Nat)(Φ:eo)(Λ:mS):Code->S->(Exit->S->ah X)->ah X
 |.skip,σ,k=>k .normal σ
 |.label _,σ,k=>k .normal σ
 |.ret,σ,k=>k .ret σ
 |.exit id,σ,k=>k (.exit id) σ
 |.region _ ops false,σ,k=>uZ P N Φ ops 0 ops.toList σ λC=>k .normal C
 |.region _ ops true,σ,k=>bif P.follows .mixedOrders then jS P N Φ ops ops.size 0 σ λC=>k .normal C else none
 | .seq x y,σ,k=>gj P N Φ Λ x σ λe C=>match e with
  |.normal=>gj P N Φ Λ y C k
  |e=>k e C
 | .cond c x y,σ,k=>match aI σ c with
  |.lf (.v (.bool b))=>bif b then gj P N Φ Λ x σ k else gj P N Φ Λ y σ k
  |_=>none
 | .block id c,σ,k=>match Λ id with
  |some b=>b.run X σ k
  | none=>gj P N Φ Λ c σ λe C=>match e with
   |.exit D=>if D=id then k .normal C else k (.exit D) C
   |e=>k e C
 |_,_,_=>none
def AW(P:Program)(w0:Wd)(N:Nat)(c:Code)(σ:S)(K:Exit->S->Prop):Prop:=
 ∀a w,R w0 N σ a w->c.wp P (λe D w'=>∃C,K e C/\R w0 N C D w') a w
def occs:Code->aa (Nat×Code)
 |.seq x y=>occs x++occs y
 |.cond _ x y=>occs x++occs y
 |.block id c=>(id,c)::occs c
 |_=>[]
def Bz(P:Program)(N:Nat)(c:Code)(b:sD):Prop:=∀(X:Type) σ k (r:X) w0,b.run X σ k=some r->AW P w0 N c σ λe C=>k e C=some r
def pF(P:Program)(N:Nat)(Λ:mS)(l:aa (Nat×Code)):Prop:=∀p∈l,∀b,Λ p.1=some b->Bz P N (.block p.1 p.2) b
section
variable {P:Program} {w w':World} {w0:Wd} {B N:Nat} {aj aE:bG} {ρ ρ':Nat->Loc} {σ:S} {a:Act} {X:Type} {d:Nat} {r:X} {o:Oper} {Φ:eo} {Λ:mS}
def lS.mem{C:S}(D:o.dst=some d)(h:∀ aj ρ a w,Rl w0 N aj ρ σ a w->∃ w' aE ρ' v,(execOp a.eval o).run P w = .ok (.value v) w'/\Rl w0 N aE ρ' C (a.put (some d) v) w'):lS P w0 N o σ C:=by
 intro a w K Q hR E;obtain⟨aj,ρ,hR⟩:=hR;obtain⟨w',aE,ρ',v,I,J⟩:=h aj ρ a w hR;unfold Oper.wp;rw[I,Oper.upon_value,D];exact E _ _ ⟨aE,ρ',J⟩
def gk{k:Nat -> ah X}(h:eN o k=some r):∃ d,o.dst=some d/\k d=some r:=by
 unfold eN at h
 grind
def mb{s:Sem Value}{v:Value}(h:s.run P w = .ok v w'):(do pure (.value (<-s)):Sem Next).run P w = .ok (.value v) w':=by
 rw[fm,h];rfl
def HS{op:Op}{k:A -> ah X}(h:ep P σ op k=some r):∃ v,k v=some r/\cA (λX k=>ep (X:=X) P σ op k) v /\ ∀ aj ρ a w (o:Oper),o.op=op -> Rl w0 N aj ρ σ a w -> ∃ u,(execOp a.eval o).run P w = .ok (.value u) w/\RA w w0.heap.size aj ρ v u:=by
 unfold ep at h;split at h
 next x=>exact⟨_,h,λX k=>rfl,λaj ρ a w o E hR=>⟨a.eval x,by simp[execOp,E],hR.aI x⟩⟩
 next x=>exact⟨_,h,λX k=>rfl,λaj ρ a w o E hR=>⟨a.eval x,by simp[execOp,E],hR.aI x⟩⟩
 ·rename_i c x y;split at h
  ·rename_i b hb
   refine⟨bif b then aI σ x else aI σ y,by cases b<;>exact h,λX k=>by simp only[ep,hb];cases b<;>rfl,λaj ρ a w o E hR=>?_⟩
   have hc:=hR.aI c;rw[hb]at hc;have hv:=hc.2.yK;cases b with
   |true=>exact⟨a.eval x,by simp[execOp,E,hv,asBool],hR.aI x⟩
   |false=>exact⟨a.eval y,by simp[execOp,E,hv,asBool],hR.aI y⟩
  ·cases h
 ·rename_i t parts;obtain⟨y,I,D⟩:=an7 h;obtain⟨Q,C,L⟩:=am1 (D.at_ _);injection C with C;subst C
  refine⟨_,I,λX k=>D.at_ _,λaj ρ a w o E hR=>?_⟩
  obtain⟨v,J,O⟩:=L aj ρ a w hR;exact⟨v,by simp only[execOp,E];exact mb J,O⟩
 ·rename_i t x;obtain⟨y,I,D⟩:=HE h;obtain⟨Q,C,L⟩:=aaN (w0:=w0) (N:=N) (k:=λz=>some z) (r:=y) (D.at_ _);injection C with C;subst C
  refine⟨_,I,λX k=>D.at_ _,λaj ρ a w o E hR=>?_⟩
  obtain⟨v,J,O⟩:=L aj ρ a w hR _ (hR.aI x);exact⟨v,by simp only[execOp,E];exact mb J,O⟩
 ·rename_i op t x y yt;obtain⟨z,I,D⟩:=an1 h;obtain⟨Z,C,L⟩:=anc (w0:=w0) (N:=N) (k:=λz=>some z) (r:=z) (D.at_ _);injection C with C;subst C
  refine⟨_,I,λX k=>D.at_ _,λaj ρ a w o E hR=>?_⟩
  obtain⟨T,J,U⟩:=L aj ρ a w hR x y _ _ (hR.aI x) (hR.aI y);exact⟨T,by simp only[execOp,E];exact mb J,U⟩
 ·rename_i op t x;obtain⟨u,I,NF⟩:=Vy h;obtain⟨z,h3,HD⟩:=an2 I;obtain⟨u',hx,C⟩:=MV (k:=λz=>some z) (r:=u) (NF.at_ _);injection C with C;subst C;obtain⟨Z,VX,hp,L⟩:=amG (P:=P) (k:=λz=>some z) (r:=z) (HD.at_ _);injection VX with VX;subst VX
  refine⟨_,h3,λX k=>(NF.at_ _).trans (HD.at_ _),λaj ρ a w o E hR=>?_⟩
  have I:=hR.aI x;rw[hx]at I;obtain⟨T,J,U⟩:=L w _ aj [] _ I.2;exact⟨T,by simp only[execOp,E];exact mb J,V.GP hp,U⟩
 ·rename_i s d' x;obtain⟨y,I,D⟩:=aob h;obtain⟨Q,C,L⟩:=am8 (w0:=w0) (N:=N) (k:=λz=>some z) (r:=y) (D.at_ _);injection C with C;subst C
  refine⟨_,I,λX k=>D.at_ _,λaj ρ a w o E hR=>?_⟩
  obtain⟨v,J,O⟩:=L aj ρ a w hR _ (hR.aI x);exact⟨v,by simp only[execOp,E];exact mb J,O⟩
 ·rename_i s x f;obtain⟨y,I,D⟩:=an3 h;obtain⟨Q,C,L⟩:=amJ (k:=λz=>some z) (r:=y) (D.at_ _);injection C with C;subst C
  refine⟨_,I,λX k=>D.at_ _,λaj ρ a w o E hR=>?_⟩
  obtain⟨v,J,O⟩:=L w _ aj ρ _ (hR.aI x);exact⟨v,by simp only[execOp,E];exact mb J,O⟩
 ·rename_i s x f;obtain⟨y,I,D⟩:=an8 h;obtain⟨Q,C,L⟩:=am9 (k:=λz=>some z) (r:=y) (D.at_ _);injection C with C;subst C
  refine⟨_,I,λX k=>D.at_ _,λaj ρ a w o E hR=>?_⟩
  obtain⟨v,J,O⟩:=L w _ aj ρ _ (hR.aI x);exact⟨v,by simp only[execOp,E];exact mb J,O⟩
 ·rename_i t x i;obtain⟨y,I,D⟩:=an4 h;obtain⟨Q,C,L⟩:=amK (w0:=w0) (N:=N) (k:=λz=>some z) (r:=y) (D.at_ _);injection C with C;subst C
  refine⟨_,I,λX k=>D.at_ _,λaj ρ a w o E hR=>?_⟩
  obtain⟨v,J,O⟩:=L aj ρ a w hR _ _ (hR.aI x) (hR.aI i);exact⟨v,by simp only[execOp,E];exact mb J,O⟩
 ·rename_i t x i;obtain⟨y,I,D⟩:=an9 h;obtain⟨Q,C,L⟩:=am7 (k:=λz=>some z) (r:=y) (D.at_ _);injection C with C;subst C
  refine⟨_,I,λX k=>D.at_ _,λaj ρ a w o E hR=>?_⟩
  obtain⟨v,J,O⟩:=L w _ aj ρ _ _ (hR.aI x) (hR.aI i);exact⟨v,by simp only[execOp,E];exact mb J,O⟩
 ·rename_i x i;obtain⟨y,I,D⟩:=an6 h;obtain⟨Q,C,L⟩:=amM (P:=P) (k:=λz=>some z) (r:=y) (D.at_ _);injection C with C;subst C
  refine⟨_,I,λX k=>D.at_ _,λaj ρ a w o E hR=>?_⟩
  obtain⟨v,J,O⟩:=L w _ aj ρ _ (hR.aI x);exact⟨v,by simp only[execOp,E];exact mb J,O⟩
 ·rename_i x;obtain⟨I,D,L⟩:=abW (w:=default) (B:=0) (aj:=λ_=>none) (ρ:=λ_=>.dM undef) h
  refine⟨_,I,λX k=>D.at_ _,λaj ρ a w o E hR=>?_⟩
  obtain⟨_,_,L⟩:=abW (w:=w) (B:=w0.heap.size) (aj:=aj) (ρ:=ρ) h;obtain⟨ad,hu⟩:=L _ (hR.aI x);refine⟨a.eval x,?_,hR.aI x⟩;simp only[execOp,E,hu];rfl
 ·rename_i x t;obtain⟨y,I,D⟩:=an5 h
  refine⟨_,I,λX k=>D.at_ _,λaj ρ a w o E hR=>?_⟩
  obtain⟨Q,C,L⟩:=amL (w0:=w0) (N:=N) (ty:=o.type) (r:=y) (D.at_ _);injection C with C;subst C;obtain⟨v,J,O⟩:=L aj ρ a w hR _ (hR.aI x);exact⟨v,by simp only[execOp,E,resolve,fm,Sem.run_pure,ki,invoke,builtin,List.map_toArray,List.map_cons,List.map_nil];rw[J];rfl,O⟩
 ·rename_i x y t T;obtain⟨z,I,D⟩:=abO h;obtain⟨Z,C,L⟩:=aa8 (P:=P) (k:=λz=>some z) (r:=z) (D.at_ _);injection C with C;subst C
  refine⟨_,I,λX k=>D.at_ _,λaj ρ a w o E hR=>?_⟩
  obtain⟨v,J,O⟩:=L w _ aj ρ t o.type _ _ (hR.aI x) (hR.aI y);refine⟨v,?_,O⟩;simp only[execOp,E,resolve,fm,Sem.run_pure,ki,invoke,builtin,List.map_toArray,List.map_cons,List.map_nil];have J:(Builtin.max_ #[t,T] o.type #[a.eval x,a.eval y]).run P w = .ok v w:=J;rw[J];rfl
 ·rename_i x y t T;obtain⟨z,I,D⟩:=abO h;obtain⟨Z,C,L⟩:=aa8 (P:=P) (k:=λz=>some z) (r:=z) (D.at_ _);injection C with C;subst C
  refine⟨_,I,λX k=>D.at_ _,λaj ρ a w o E hR=>?_⟩
  obtain⟨v,J,O⟩:=L w _ aj ρ t o.type _ _ (hR.aI x) (hR.aI y);refine⟨v,?_,O⟩;simp only[execOp,E,resolve,fm,Sem.run_pure,ki,invoke,builtin,List.map_toArray,List.map_cons,List.map_nil];have J:(Builtin.min_ #[t,T] o.type #[a.eval x,a.eval y]).run P w = .ok v w:=J;rw[J];rfl
 ·rename_i t x lo hi;obtain⟨y,I,D⟩:=aoc h;obtain⟨Q,C,L⟩:=ang (w0:=w0) (N:=N) (k:=λz=>some z) (r:=y) (D.at_ _);injection C with C;subst C
  refine⟨_,I,λX k=>D.at_ _,λaj ρ a w o E hR=>?_⟩
  have Y:∀ z:ah Operand,(∀ b,z.map (aI σ)=some b -> ∃ v,z.map a.eval=some v/\RA w w0.heap.size aj ρ b v)/\(z.map (aI σ)=none -> z.map a.eval=none):=by
   intro z;cases z with
   |none=>simp_all
   |some z=>exact⟨λb hb=>(by cases hb;exact⟨_,rfl,hR.aI z⟩),λhb=>(by cases hb)⟩
  obtain⟨v,J,U⟩:=L aj ρ a w hR _ _ _ (hR.aI x) (Y lo).1 (Y lo).2 (Y hi).1 (Y hi).2;exact⟨v,by simp only[execOp,E];exact mb J,U⟩
 ·cases h
def aoP{k:S->ah X}(Z:fQ P Φ)(h:hJ P N Φ σ o k=some r):∃ J,k J=some r/\lS P w0 N o σ J:=by
 unfold hJ at h;split at h
 ·rename_i e C;obtain⟨d,D,h⟩:=gk h;obtain⟨J,h,L⟩:=amT (w0:=w0) h
  refine⟨J,h,.mem D λaj ρ a w hR=>?_⟩
  obtain⟨w',aE,ρ',v,E,I⟩:=L aj ρ a w hR;exact⟨w',aE,ρ',v,by simp only[execOp,C];exact mb E,I⟩
 ·rename_i e x C;obtain⟨d,D,h⟩:=gk h;obtain⟨J,h,L⟩:=aoh (w0:=w0) (e:=e) h
  refine⟨J,h,.mem D λaj ρ a w hR=>?_⟩
  obtain⟨w',aE,ρ',v,E,I⟩:=L aj ρ a w hR _ (hR.aI x);exact⟨w',aE,ρ',v,by simp only[execOp,C];exact mb E,I⟩
 ·rename_i t len parts C;obtain⟨d,D,h⟩:=gk h;cases hn:oz t with
  | true=>
   rw[hn,ak]at h;obtain⟨J,h,L⟩:=aoi (w0:=w0) h
   refine⟨J,h,.mem D λaj ρ a w hR=>?_⟩
   obtain⟨w',aE,ρ',v,E,I⟩:=L aj ρ a w hR;exact⟨w',aE,ρ',v,by simp only[execOp,C];exact mb E,I⟩
  | false=>
   rw[hn,au]at h;obtain⟨J,h,L⟩:=am5 (w0:=w0) h
   refine⟨J,h,.mem D λaj ρ a w hR=>?_⟩
   obtain⟨w',aE,ρ',v,E,I⟩:=L aj ρ a w hR;exact⟨w',aE,ρ',v,by simp only[execOp,C];exact mb E,I⟩
 ·rename_i t x y C;split at h
  ·rename_i D;cases hn:uY (aI σ x) (aI σ y)with
   | true=>
    rw[hn,ak]at h;obtain⟨J,h,L⟩:=aoo (w0:=w0) (N:=N) h
    refine⟨J,h,λa w K Q hR hK=>?_⟩
    obtain⟨aj,ρ,hR⟩:=hR;obtain⟨w',aE,E,I⟩:=L aj ρ a w hR _ _ (hR.aI x) (hR.aI y);have:(execOp a.eval o).run P w = .ok .skip w':=by
     simp only[execOp,C];rw[fm,E];rfl
    unfold Oper.wp;rw[this,Oper.upon_skip,D];exact hK _ _ ⟨aE,ρ,I⟩
   | false=>
    rw[hn,au]at h;obtain⟨J,h,L⟩:=aaP (w0:=w0) (N:=N) h
    refine⟨J,h,λa w K Q hR hK=>?_⟩
    obtain⟨aj,ρ,hR⟩:=hR;obtain⟨w',E,I⟩:=L aj ρ a w hR _ _ (hR.aI x) (hR.aI y);have:(execOp a.eval o).run P w = .ok .skip w':=by
     simp only[execOp,C];rw[fm,E];rfl
    unfold Oper.wp;rw[this,Oper.upon_skip,D];exact hK _ _ ⟨aj,ρ,I⟩
  ·cases h
 ·rename_i t l c C;obtain⟨d,D,h⟩:=gk h;obtain⟨J,h,L⟩:=amU (w0:=w0) h
  refine⟨J,h,.mem D λaj ρ a w hR=>?_⟩
  obtain⟨w',aE,ρ',v,E,I⟩:=L aj ρ a w hR _ _ (hR.aI l) (hR.aI c);exact⟨w',aE,ρ',v,by simp only[execOp,C];exact mb E,I⟩
 ·rename_i f args jq C;split at h
  next c O=>obtain⟨d,D,h⟩:=gk h;obtain⟨T,U⟩:=Z f _ O;exact ank C D T U h
  next c O=>obtain⟨T,U⟩:=Z f _ O;exact anG C T U h
  next c O=>obtain⟨d,D,h⟩:=gk h;obtain⟨T,U⟩:=Z f _ O;exact aos C D T U h
  ·rename_i F O;obtain⟨d,D,h⟩:=gk h;obtain⟨T,U⟩:=Z f _ O;split at h
   next x hx=>exact aor C hx D T U h
   ·cases h
  next c O=>obtain⟨T,U⟩:=Z f _ O;exact ab4 (ex:=[]) C rfl T U h
  next c O=>obtain⟨T,U⟩:=Z f _ O;exact anM C T U h
  next c O=>obtain⟨d,D,h⟩:=gk h;obtain⟨T,U⟩:=Z f _ O;exact anl C D T U h
  next c O=>obtain⟨T,U⟩:=Z f _ O;exact aoz C T U h
  ·cases h
 ·rename_i x y t t' C;cases lX:Nat.beq t t' with
  |false=>rw[lX]at h;cases h
  | true=>
   rw[lX,ak]at h;obtain rfl:=cD lX;obtain⟨d,D,h⟩:=gk h;have hh:∃ J,k J=some r/\∀ aj ρ a w,Rl w0 N aj ρ σ a w->∀ u v,RA w w0.heap.size aj ρ (aI σ x) u->RA w w0.heap.size aj ρ (aI σ y) v->
     ∃w' aE ρ' z,(Builtin.append_ #[t,t] o.type #[u,v]).run P w = .ok z w'/\Rl w0 N aE ρ' J (a.put (some d) z) w':=by
    cases hn:oz t with
    |true=>rw[hn,ak]at h;exact aom h
    | false=>
     rw[hn,au]at h;cases hk:HM t d x with
     |true=>rw[hk,ak]at h;exact aoM h
     |false=>rw[hk,au]at h;exact amV h
   obtain⟨J,h,L⟩:=hh
   refine⟨J,h,.mem D λaj ρ a w hR=>?_⟩
   obtain⟨w',aE,ρ',v,E,I⟩:=L aj ρ a w hR _ _ (hR.aI x) (hR.aI y);refine⟨w',aE,ρ',v,?_,I⟩;simp only[execOp,C,resolve,fm,Sem.run_pure,ki,invoke,builtin,List.map_toArray,List.map_cons,List.map_nil];rw[E];rfl
 ·rename_i t C;obtain⟨d,D,h⟩:=gk h;obtain⟨J,h,L⟩:=aoF (w0:=w0) (t:=t) (P:=P) h
  refine⟨J,h,.mem D λaj ρ a w hR=>?_⟩
  obtain⟨w',aE,ρ',v,E,I⟩:=L aj ρ a w hR;exact⟨w',aE,ρ',v,by simp only[execOp,C];exact mb E,I⟩
 ·rename_i t x i C;obtain⟨v,Y,_,L⟩:=ab9 (w0:=w0) (N:=N) h
  refine lS.val Y λaj ρ a w hR=>?_
  obtain⟨y,E,I⟩:=L aj ρ a w hR _ _ (hR.aI x) (hR.aI i);exact⟨y,by simp only[execOp,C];exact mb E,I⟩
 ·rename_i t x i v C;split at h
  ·rename_i D;obtain⟨J,h,_,L⟩:=acd (w0:=w0) (N:=N) h
   refine⟨J,h,λa w K Q hR hK=>?_⟩
   obtain⟨aj,ρ,hR⟩:=hR;obtain⟨w',E,I⟩:=L aj ρ a w hR _ _ _ (hR.aI x) (hR.aI i) (hR.aI v);have:(execOp a.eval o).run P w = .ok .skip w':=by
    simp only[execOp,C];rw[fm,E];rfl
   unfold Oper.wp;rw[this,Oper.upon_skip,D];exact hK _ _ ⟨aj,ρ,I⟩
  ·cases h
 ·rename_i t args jq C;split at h
  ·rename_i f cap uO;split at h
   next c O=>obtain⟨T,U⟩:=Z f _ O;exact ab4 C uO T U h
   ·cases h
  ·cases h
 ·rename_i f aci C;split at h
  ·rename_i ps qh;obtain⟨Y,h2⟩:=ab5 (w0:=w0) (N:=N) _ _ qh
   refine lS.val h λaj ρ a w hR=>⟨.func (.func f) #[] (aci.map a.eval),by simp[execOp,C,Instr.makeFunc],_,rfl,by simp[Y],λj p hp=>?_⟩
   obtain⟨b,off,e1,e2⟩:=h2 aj ρ a w hR j p hp;exact⟨b,off,e1,by simpa using e2⟩
  ·cases h
 ·rename_i x t C;obtain⟨rD,Y,L⟩:=amY (w0:=w0) (N:=N) (ty:=o.type) h;have run:∀ aj ρ a w,Rl w0 N aj ρ σ a w->∃ w',(execOp a.eval o).run P w = .ok (.value (.tuple #[])) w'/\Rl w0 N aj ρ rD a w':=by
   intro aj ρ a w hR;obtain⟨w',E,I⟩:=L aj ρ a w hR _ (hR.aI x);refine⟨w',?_,I⟩;simp only[execOp,C,resolve,fm,Sem.run_pure,ki,invoke,builtin,List.map_toArray,List.map_cons,List.map_nil];rw[E];rfl
  unfold iu at Y;split at Y
  ·rename_i D
   refine⟨_,Y,λa w K Q hR hK=>?_⟩
   obtain⟨aj,ρ,hR⟩:=hR;obtain⟨w',E,I⟩:=run aj ρ a w hR;unfold Oper.wp;rw[E,Oper.upon_value,D];exact hK _ _ ⟨aj,ρ,I⟩
  ·rename_i d D;cases hN:Nat.blt d N with
   |false=>rw[hN]at Y;cases Y
   | true=>
    rw[hN,ak]at Y
    refine⟨_,Y,.mem D λaj ρ a w hR=>?_⟩
    obtain⟨w',E,I⟩:=run aj ρ a w hR;exact⟨w',aj,ρ,_,E,I.set trivial (by have:=cL hN;omega)⟩
 ·cases h
def VY{k:S -> ah X}(E:fQ P Φ)(h:dn P N Φ σ o k=some r):∃ C,k C=some r/\lS P w0 N o σ C:=by
 unfold dn at h;cases D:fJ o.op with
 | true=>
  rw[D,ak]at h;obtain⟨v,I,_,J⟩:=HS h;exact lS.val I λaj ρ a w hR=>J aj ρ a w o rfl hR
 | false=>
  rw[D]at h;exact aoP E h
def aoQ{k:S->ah X}(T:fQ P Φ)(h:nQ P N Φ σ o k=some r):∃ D,k D=some r/\lS P w0 N o σ D:=by
 unfold nQ at h;split at h
 ·rename_i t x y E I;split at h
  ·rename_i q s i j Y;obtain⟨D,C,J⟩:=aoC (w0:=w0) (N:=N) h
   refine⟨D,C,λa w K Q hR Z=>?_⟩
   obtain⟨aj,ρ,hR⟩:=hR;have U:=hR.aI y;rw[Y]at U;obtain⟨w',aE,L,gA⟩:=J aj ρ a w hR _ _ (hR.aI x) U;have:(execOp a.eval o).run P w = .ok .skip w':=by
    simp only[execOp,E];rw[fm,L];rfl
   unfold Oper.wp;rw[this,Oper.upon_skip,I];exact Z _ _ ⟨aE,ρ,gA⟩
  ·exact VY T h
 ·rename_i t x lo hi mx d E I;obtain⟨C,J⟩:=aoE (w0:=w0) (N:=N) h;cases O:Nat.blt d N with
  |false=>rw[O]at C;cases C
  | true=>
   rw[O,ak]at C
   refine⟨_,C,.mem I λaj ρ a w hR=>?_⟩
   obtain⟨v,L⟩:=J aj ρ a w hR _ _ _ _ (hR.aI x) (hR.aI lo) (hR.aI hi) (hR.aI mx);refine⟨w,aj,ρ,v,?_,hR.set trivial (by have:=cL O;omega)⟩;simp only[execOp,E,kP];exact mb L
 ·exact VY T h
/-! What an operation gives hangs on its operands and on the roots alone. -/
def D3{σ2:S}(C:σ2.m=σ.m)(x:Lf)(k:V->ah X):iF σ2 x k=iF σ x k:=by
 cases x<;>simp only[iF,C]
def aoR{σ2:S}(C:σ2.m=σ.m)(t:TypeId)(x:A)(k:A->ah X):jn P σ2 t x k=jn P σ t x k:=by
 simp only[jn,C]
def aoS{σ2:S}(C:σ2.m=σ.m)(t:TypeId)(x i:A)(k:A->ah X):oX P σ2 t x i k=oX P σ t x i k:=by
 simp only[oX,C]
def acj{σ2:S}(C:σ2.m=σ.m)(q:aa Nat)(s i j:Nat)(k:V->ah X):tq σ2 q s i j k=tq σ q s i j k:=by
 simp only[tq,C]
def aoT{σ2:S}(C:σ2.m=σ.m)(x:A)(k:V->ah X):qa σ2 x k=qa σ x k:=by
 cases x<;>simp only[qa,D3 C,acj C]
def aoU{σ2:S}(C:σ2.m=σ.m)(t:TypeId)(x:A)(lo hi:ah A)(k:A -> ah X):q8 P σ2 t x lo hi k=q8 P σ t x lo hi k:=by
 unfold q8;split
 ·simp[ot,C]
 ·simp[ot,C]
 ·rfl
def aoV{σ2:S}(D:σ2.m=σ.m)(t C:TypeId)(x:A)(k:A->ah X):oq P σ2 t C x k=oq P σ t C x k:=by
 unfold oq;split<;>simp only[D3 D]
def aoW{σ2:S}(C:σ2.m=σ.m)(t:TypeId)(x:A)(k:A->ah X):qZ P σ2 t x k=qZ P σ t x k:=by
 cases x<;>simp only[qZ,D3 C]
def aoX{σ2:S}(C:σ2.m=σ.m)(op:BinOp)(t:TypeId)(x y:A)(k:A->ah X):mJ P σ2 op t x y k=mJ P σ op t x y k:=by
 simp only[mJ,D3 C]
def VZ{σ2:S}{op:BinOp}{t:TypeId}{x y:A}{k:A -> ah X}(h:∀ l,x = .lf l -> ∀ (k:V -> ah X),iF σ2 l k=iF σ l k):mJ P σ2 op t x y k=mJ P σ op t x y k:=by
 unfold mJ
 grind
def aoY{σ2:S}(t:TypeId)(parts:aa (Nat×Operand))(h:∀ p∈parts,aI σ2 p.2=aI σ p.2)(k:A -> ah X):uP P σ2 t parts k=uP P σ t parts k:=by
 have e:(parts.map λp=>(p.1,aI σ2 p.2))=parts.map λp=>(p.1,aI σ p.2):=lN λp C=>by rw[h p C]
 simp[uP,e]
def V0{σ2:S}(C:σ2.m=σ.m):∀ (xs:aa Lf) (k:aa V -> ah X),qf σ2 xs k=qf σ xs k
 |[],k=>rfl
 | x :: xs,k=>by
  simp[qf,D3 C];congr 1;funext y;exact V0 C xs _
def ack{σ2:S}(C:σ2.m=σ.m)(x:A)(k:Pt->ah X):ou σ2 x k=ou σ x k:=by
 unfold ou;simp only[V0 C,acj C,C]
def acm{σ2:S}(C:σ2.m=σ.m):∀ (xs:aa Operand) (k:aa Pt -> ah X),(∀ x∈xs,aI σ2 x=aI σ x) -> mK σ2 xs k=mK σ xs k
 |[],k,_=>rfl
 | x :: xs,k,h=>by
  simp[mK,ack C,h x (.head _)];congr 1;funext p;exact acm C xs _ (λy D=>h y (.tail _ D))
def aoZ{σ2:S}(C:σ2.m=σ.m)(x:A)(k:Pt->ah X):sv σ2 x k=sv σ x k:=by
 unfold sv;simp only[ack C,V0 C,C]
def acn{σ2:S}(C:σ2.m=σ.m):∀ (xs:aa Operand) (k:aa Pt -> ah X),(∀ x∈xs,aI σ2 x=aI σ x) -> qg σ2 xs k=qg σ xs k
 |[],k,_=>rfl
 | x :: xs,k,h=>by
  simp[qg,aoZ C,h x (.head _)];congr 1;funext p;exact acn C xs _ (λy D=>h y (.tail _ D))
def HT{σ2:S}(op:Op)(C:σ2.m=σ.m)(h:∀ x∈op.operands,aI σ2 x=aI σ x)(k:A -> ah X):ep P σ2 op k=ep P σ op k:=by
 unfold ep;split
 ·rw[h _ (by simp[Op.operands])]
 ·rw[h _ (by simp[Op.operands])]
 next c x y=>rw[h c (by simp[Op.operands]),h x (by simp[Op.operands]),h y (by simp[Op.operands])]
 next t parts=>exact aoY t _ (λp E=>h p.2 (by simp only[Op.operands];exact List.mem_toArray.2 (List.mem_map_of_mem (f:=(·.2)) E))) k
 next t x=>rw[h x (by simp[Op.operands]),aoR C]
 next op t x y yt=>rw[h x (by simp[Op.operands]),h y (by simp[Op.operands]),aoX C]
 next op t x=>rw[h x (by simp[Op.operands])]
 next s d x=>rw[h x (by simp[Op.operands]),aoV C]
 next s x f=>rw[h x (by simp[Op.operands])]
 next s x f=>rw[h x (by simp[Op.operands])]
 next t x i=>rw[h x (by simp[Op.operands]),h i (by simp[Op.operands]),aoS C]
 next t x i=>rw[h x (by simp[Op.operands]),h i (by simp[Op.operands])]
 next x i=>rw[h x (by simp[Op.operands])]
 next x=>rw[h x (by simp[Op.operands])]
 next x t=>rw[h x (by simp[Op.operands,Call.operands]),aoW C]
 next x y t I=>rw[h x (by simp[Op.operands,Call.operands]),h y (by simp[Op.operands,Call.operands])]
 next x y t I=>rw[h x (by simp[Op.operands,Call.operands]),h y (by simp[Op.operands,Call.operands])]
 ·rename_i t x lo hi;have e:∀ z:ah Operand,(∀ y,z=some y -> aI σ2 y=aI σ y) -> z.map (aI σ2)=z.map (aI σ):=by
   intro z J;cases z with
   |none=>rfl
   |some z=>simp_all
  rw[h x (by simp[Op.operands]),e lo (λy D=>h y (by subst D;simp[Op.operands])),e hi (λy D=>h y (by subst D;simp[Op.operands])),aoU C]
 ·rfl
/-! .. and a root that it does not name is of no account. -/
def NX(n:Nat)(x:aY)(m:Nat->ah aY):Nat->ah aY:=bW (λr=>bif Nat.beq r n then none else (m r).map (aY.drop n)) n (some x)
def aco{n:Nat}{x:aY}{m:Nat -> ah aY}{q:Nat}(h:q≠n):NX n x m q=(m q).map (aY.drop n):=by
 have hb:Nat.beq q n=false:=by
  cases hb:Nat.beq q n with
  |false=>rfl
  |true=>simp_all
 unfold NX;rw[cB _ _ _ h,hb];rfl
def wP{n:Nat}{x:aY}{m:Nat -> ah aY}:∀ (q:aa Nat) (k:V -> ah X),bK n q=false -> gz (NX n x m) q k=gz m q k
 |[],_,_=>rfl
 | [y],k,h=>by
  have D:y≠n:=by rintro rfl;simp[bK]at h
  simp[gz,aco D];cases m y with
  |none=>rfl
  |some z=>cases z<;>rfl
 |[_,_],_,_=>rfl
 |[j,i,s],k,h=>rfl
 | j :: i :: s :: C :: q,k,h=>by
  have E:bK n (C::q)=false:=by simpa [bK]using h
  exact wP (C::q) _ E
def ao0{n:Nat}{t:TypeId}{cs:aa Lf}{y:A}(h:cA (λX k=>kY (X:=X) P t cs k) y):cA (λX k=>kY (X:=X) P t (cs.map (Lf.drop n)) k) (y.drop n):=by
 have C:=h.at_ (λz=>some z);unfold kY at C;split at C
 ·rename_i I E;split at C
  ·rename_i hl;split at C
   next D=>injection C with C;subst C;intro X k;simp[kY,E,dB,bA hl,D];rfl
   ·rename_i D;split at C
    next z=>injection C with C;subst C;intro X k;simp at hl;simp[kY,E,List.map_cons,List.map_nil,jz,bA hl,D];rfl
    ·cases C
   ·cases C
  ·cases C
 ·cases C
def A.sE{p pb:Nat -> Bool}{x:A}{n:Nat}(h:x.jR p pb=true)(C:p n=true)(hb:pb n=true):x.drop n=x:=by
 cases x with
 |lf x=>exact bH A.lf (Lf.l8 h C)
 |agg cs=>exact bH A.agg (mO.l8 h C)
 |cR xs=>exact A.l8 h C
 |ptr k=>exact A.l8 h C
 |view k s i j=>exact A.l8 h C
 |pk r j=>exact A.l8 h hb
 |aG r j=>exact A.l8 h hb
 |fn f cap=>exact A.l8 h hb
 |_=>rfl
def ao1{p pb:Nat->Bool}{r j n:Nat}(h:(A.aG r j).jR p pb=true)(C:pb n=true):r≠n:=by
 rintro rfl;have h:(!pb r)=true:=h;rw[C]at h;cases h
def ao2{p:Nat->Bool}{r j n:Nat}(h:(A.aG r j).nr p=true)(C:p n=true):r≠n:=by
 rintro rfl;have h:(!p r)=true:=h;rw[C]at h;cases h
def ao3{p pb:Nat -> Bool}{n:Nat}{x:aY}{op:Op}{v:A}(h:cA (λX k=>ep (X:=X) P σ op k) v)(O:p n=true)(Z:pb n=true)(T:∀ y∈op.operands,(aI σ y).jR p pb=true)(hv:v.jR p pb=true):
  cA (λX k=>ep (X:=X) P ((σ.drop n).root n x) op k) v:=by
 have J:∀ y∈op.operands,aI ((σ.drop n).root n x) y=aI σ y:=by
  intro y C;have:=A.sE (T y C) O Z;cases y with
  |tmp t=>exact this
  |const v=>rfl
  |global g=>rfl
  |func f=>rfl
 have Q:((σ.drop n).root n x).m=NX n x σ.m:=rfl;have V1:=A.sE hv O Z;have dD:∀ y∈op.operands,aI ⟨((σ.drop n).root n x).t,σ.m⟩ y=aI σ y:=by
  intro y C;rw[<- J y C];rfl
 -- an operation that does not look at the roots
 have HU:(∀ (X:Type) (k:A -> ah X),ep P ⟨((σ.drop n).root n x).t,σ.m⟩ op k=ep P ((σ.drop n).root n x) op k) -> cA (λX k=>ep (X:=X) P ((σ.drop n).root n x) op k) v:=by
  intro he X k;exact(he X k).symm.trans ((HT (σ:=σ) (σ2:=⟨((σ.drop n).root n x).t,σ.m⟩) op rfl dD k).trans (h.at_ k))
 have E:=h.at_ (X:=A) (λz=>some z);unfold ep at E;split at E
 case h_5 t y=>
  intro X k;have C:=T y (by simp[Op.operands]);have L:=J y (by simp[Op.operands]);simp only[ep];rw[L];generalize aI σ y=u at E C;have hd:cA (λX k=>jn (X:=X) P σ t u k) v:=by
   obtain⟨y',D,Y⟩:=HE E;simp_all
  unfold jn at E ⊢;split at E
  ·cases E
  ·rename_i sz ga;split at E
   ·rename_i r' j;split at E
    next cs jN=>obtain⟨y',D,Y⟩:=wK E;injection D with D;subst D;have U:=ao0 (n:=n) Y;rw[V1]at U;rw[Q,aco (ao1 C Z),jN];simp only[kP,aY.drop];rw[<- List.map_drop,<- List.map_take];exact U.at_ k
    ·cases E
   ·obtain⟨y',D,Y⟩:=wK E;injection D with D;subst D;exact Y.at_ k
   ·rename_i j i s q;have hq:bK n q=false:=by
     have I:fC p (j::i::s::q)=true:=C;have:=sB I O;cases q with
     | nil=>
      obtain⟨z,_,hg,_⟩:=sA _ _ E;cases hg
     |cons q0 q=>simpa [bK]using this
    rw[Q,wP q _ hq];have U:=hd.at_ k;unfold jn at U;rw[ga]at U;exact U
   ·cases E
 case h_6 op t x y yt=>
  intro X k;have hx:=T x (by simp[Op.operands]);have HV:=J x (by simp[Op.operands]);have L:=J y (by simp[Op.operands]);have D:=h.at_ k;simp only[ep]at D ⊢;rw[HV,L,<- D];generalize aI σ x=u at hx
  refine VZ λl e k=>?_
  subst e;cases l with
  | own q=>
   have I:=hx;simp[iF];rw[Q,wP q _ (sB I O)]
  |v z=>rfl
  |dead=>rfl
 case h_11 t y i=>
  intro X k;have C:=T y (by simp[Op.operands]);have L:=J y (by simp[Op.operands]);have HW:=J i (by simp[Op.operands]);have D:=h.at_ k;simp only[ep]at D ⊢;rw[L,HW,<- D];generalize aI σ y=u at C;unfold oX;split
  ·rfl
  ·split
   ·split
    ·rfl
    next q=>have I:=C;rw[Q,wP q _ (sB I O)]
    ·rfl
   ·rfl
 case h_8 t t2 y=>
  intro X k;have C:=T y (by simp[Op.operands]);have L:=J y (by simp[Op.operands]);have D:=h.at_ k;simp only[ep]at D ⊢;rw[L,<- D];generalize aI σ y=u at C;unfold oq;split
  ·rfl
  ·rename_i z _;cases z with
   | own q=>
    have I:=C;simp[iF];rw[Q,wP q _ (sB I O)]
   |v z=>rfl
   |dead=>rfl
  ·rfl
 case h_15 y t=>
  intro X k;have C:=T y (by simp[Op.operands,Call.operands]);have L:=J y (by simp[Op.operands,Call.operands]);have D:=h.at_ k;simp only[ep]at D ⊢;rw[L,<- D];generalize aI σ y=u at C;unfold qZ;split
  ·rename_i z;cases z with
   | own q=>
    have I:=C;simp[iF];rw[Q,wP q _ (sB I O)]
   |v z=>rfl
   |dead=>rfl
  ·rfl
  ·rfl
 case h_18 t y lo hi=>
  intro X k;have C:=T y (by simp[Op.operands]);have L:=J y (by simp[Op.operands]);have e:∀ z:ah Operand,(∀ y,z=some y -> aI ((σ.drop n).root n x) y=aI σ y) -> z.map (aI ((σ.drop n).root n x))=z.map (aI σ):=by
   intro z hz;cases z with
   |none=>rfl
   |some z=>simp_all
  have D:=h.at_ k;simp only[ep]at D ⊢;rw[L,e lo (λy C=>J y (by subst C;simp[Op.operands])),e hi (λy C=>J y (by subst C;simp[Op.operands])),<- D];generalize aI σ y=u at C;unfold q8;split
  ·rename_i q;have I:fC p q=true:=C;unfold ot;split
   ·split
    ·rw[Q,wP q _ (sB I O)]
    ·rfl
   ·rfl
  ·rename_i q s j;have I:fC p q=true:=C;unfold ot;split
   ·split
    ·rw[Q,wP q _ (sB I O)]
    ·rfl
   ·rfl
  ·rfl
 case h_19=>cases E
 all_goals exact HU λX k=>rfl
/-! .. nor are roots that a call writes. -/
def NY(ns:aa Nat)(nr:aa (Nat×aY))(m:Nat->ah aY):Nat->ah aY:=λr=>match nr.lookup r with
 |some x=>some x
 |none=>bif cx r ns ||cx r []then none else (m r).map (aY.bE ns [])
structure HX (p:Nat->Bool) (ns:List Nat) (nr:List (Nat×aY)):Prop where
 ns:∀n,cx n ns=true->p n=true
 nr:∀n x,nr.lookup n=some x->p n=true
def acp{p:Nat->Bool}{ns:aa Nat}{nr:aa (Nat×aY)}{m:Nat->ah aY}(hb:HX p ns nr){q:Nat}(h:p q=false):NY ns nr m q=(m q).map (aY.bE ns []):=by
 unfold NY;cases C:nr.lookup q with
 |some x=>rw[hb.nr q x C]at h;cases h
 | none=>
  cases D:cx q ns with
  |true=>rw[hb.ns q D]at h;cases h
  |false=>rfl
def V2{p:Nat -> Bool}{ns k:aa Nat}(h:fC p k=true)(hb:∀ n,cx n ns=true -> p n=true):cF k ns=false:=by
 unfold fC at h;unfold cF
 grind
def V3(k:aa Nat):cF k []=false:=by
 unfold cF;split<;>rfl
def Lf.tK{p:Nat -> Bool}{x:Lf}{ns:aa Nat}(h:x.nr p=true)(hb:∀ n,cx n ns=true -> p n=true):x.bE ns []=x:=by
 cases x with
 | own k=>
  have e:Lf.bE ns [] (.own k)=(bif cF k [] ||(cF k ns && !(Nat.beq _ 1))then .dead else .own k):=rfl;rw[e,V2 h hb,V3];rfl
 |v x=>rfl
 |dead=>rfl
def mO.tK{p:Nat->Bool}{xs:aa Lf}{ns:aa Nat}(h:xs.all (Lf.nr p)=true)(hb:∀ n,cx n ns=true->p n=true):xs.map (Lf.bE ns [])=xs:=by
 conv=>rhs;rw[<-List.map_id xs]
 exact lN λx C=>Lf.tK (cI.1 h x C) hb
def A.tK{p:Nat -> Bool}{x:A}{ns:aa Nat}(h:x.nr p=true)(hb:∀ n,cx n ns=true -> p n=true):x.bE ns []=x:=by
 cases x with
 |lf x=>exact bH A.lf (Lf.tK h hb)
 |agg cs=>exact bH A.agg (mO.tK h hb)
 | cR xs=>
  refine bH A.cR ?_
  conv=>rhs;rw[<- List.map_id xs]
  refine lN λq C=>?_
  have:=mO.tK (cI.1 h q C) hb;simp_all
 | ptr k=>
  have e:A.bE ns [] (.ptr k)=(bif cF k [] ||cF k ns then .undef else .ptr k):=rfl;rw[e,V2 h hb,V3];rfl
 | view k s i j=>
  have e:A.bE ns [] (.view k s i j)=(bif cF k [] ||cF k ns then .undef else .view k s i j):=rfl;rw[e,V2 h hb,V3];rfl
 | fn f cap=>
  have e:A.bE ns [] (.fn f cap)=(bif cap.any _ then .undef else .fn f cap):=rfl;have:cap.any (λp=>cx p.1 [])=false:=by
   rw[mC];intro q C hb;cases hb
  simp_all
 |_=>rfl
def A.D4{p pb:Nat -> Bool}{x:A}{ns:aa Nat}(h:x.jR p pb=true)(hb:∀ n,cx n ns=true -> p n=true):x.bE ns []=x:=by
 cases x with
 |lf x=>exact A.tK (x:=.lf x) (p:=p) h hb
 |agg cs=>exact A.tK (x:=.agg cs) (p:=p) h hb
 |cR xs=>exact A.tK (x:=.cR xs) (p:=p) h hb
 |ptr k=>exact A.tK (x:=.ptr k) (p:=p) h hb
 |view k s i j=>exact A.tK (x:=.view k s i j) (p:=p) h hb
 | fn f cap=>
  have e:A.bE ns [] (.fn f cap)=(bif cap.any _ then .undef else .fn f cap):=rfl;have:cap.any (λp=>cx p.1 [])=false:=by
   rw[mC];intro q C hb;cases hb
  simp_all
 |_=>rfl
def zq{p:Nat -> Bool}{ns:aa Nat}{nr:aa (Nat×aY)}{m:Nat -> ah aY}(hb:HX p ns nr):∀ (q:aa Nat) (k:V -> ah X),fC p q=true -> gz (NY ns nr m) q k=gz m q k
 |[],_,_=>rfl
 | [y],k,h=>by
  have D:p y=false:=by simpa [fC]using h
  simp[gz,acp hb D];cases m y with
  |none=>rfl
  |some z=>cases z<;>rfl
 |[_,_],_,_=>rfl
 |[j,i,s],k,h=>rfl
 | j :: i :: s :: C :: q,k,h=>by
  have E:fC p (C::q)=true:=by simpa [fC]using h
  exact zq hb (C::q) _ E
def ao4{ns:aa Nat}{t:TypeId}{cs:aa Lf}{y:A}(h:cA (λX k=>kY (X:=X) P t cs k) y):cA (λX k=>kY (X:=X) P t (cs.map (Lf.bE ns [])) k) (y.bE ns []):=by
 have C:=h.at_ (λz=>some z);unfold kY at C;split at C
 ·rename_i I E;split at C
  ·rename_i hl;split at C
   next D=>injection C with C;subst C;intro X k;simp[kY,E,dB,bA hl,D];rfl
   ·rename_i D;split at C
    next z=>injection C with C;subst C;intro X k;simp at hl;simp[kY,E,List.map_cons,List.map_nil,jz,bA hl,D];rfl
    ·cases C
   ·cases C
  ·cases C
 ·cases C
def ao5{p pb:Nat -> Bool}{ns:aa Nat}{nr:aa (Nat×aY)}{op:Op}{v:A}(h:cA (λX k=>ep (X:=X) P σ op k) v)(hb:HX p ns nr)(Q:∀ y∈op.operands,(aI σ y).jR p pb=true)(hv:v.jR p pb=true)(U:∀ t y r j,op = .load t y -> aI σ y = .aG r j -> p r=false):
  cA (λX k=>ep (X:=X) P (σ.bE ns [] nr) op k) v:=by
 have J:∀ y∈op.operands,aI (σ.bE ns [] nr) y=aI σ y:=by
  intro y C;have:=A.D4 (Q y C) hb.ns;cases y with
  |tmp t=>exact this
  |const v=>rfl
  |global g=>rfl
  |func f=>rfl
 have O:(σ.bE ns [] nr).m=NY ns nr σ.m:=rfl;have V1:=A.D4 hv hb.ns;have dD:∀ y∈op.operands,aI ⟨(σ.bE ns [] nr).t,σ.m⟩ y=aI σ y:=by
  intro y C;rw[<- J y C];rfl
 have HU:(∀ (X:Type) (k:A -> ah X),ep P ⟨(σ.bE ns [] nr).t,σ.m⟩ op k=ep P (σ.bE ns [] nr) op k) -> cA (λX k=>ep (X:=X) P (σ.bE ns [] nr) op k) v:=by
  intro he X k;exact(he X k).symm.trans ((HT (σ:=σ) (σ2:=⟨(σ.bE ns [] nr).t,σ.m⟩) op rfl dD k).trans (h.at_ k))
 have E:=h.at_ (X:=A) (λz=>some z);unfold ep at E;split at E
 case h_5 t y=>
  intro X k;have C:=Q y (by simp[Op.operands]);have L:=J y (by simp[Op.operands]);simp only[ep];rw[L];have U:=λr j e=>U t y r j rfl e
  generalize aI σ y=u at E C U;have hd:cA (λX k=>jn (X:=X) P σ t u k) v:=by
   obtain⟨Z,D,Y⟩:=HE E;simp_all
  unfold jn at E ⊢;split at E
  ·cases E
  ·rename_i sz ga;split at E
   ·rename_i r' j;split at E
    next cs jN=>obtain⟨Z,D,Y⟩:=wK E;injection D with D;subst D;have T:=ao4 (ns:=ns) Y;rw[V1]at T;have hp:p r'=false:=U r' _ rfl;rw[O,acp hb hp,jN];simp only[kP,aY.bE];rw[<- List.map_drop,<- List.map_take];exact T.at_ k
    ·cases E
   ·obtain⟨Z,D,Y⟩:=wK E;injection D with D;subst D;exact Y.at_ k
   ·rename_i j i s q;have hq:fC p q=true:=by
     have I:fC p (j::i::s::q)=true:=C;cases q with
     | nil=>
      obtain⟨z,_,hg,_⟩:=sA _ _ E;cases hg
     |cons q0 q=>simpa [fC]using I
    rw[O,zq hb q _ hq];have T:=hd.at_ k;unfold jn at T;rw[ga]at T;exact T
   ·cases E
 case h_6 op t x y yt=>
  intro X k;have hx:=Q x (by simp[Op.operands]);have HV:=J x (by simp[Op.operands]);have L:=J y (by simp[Op.operands]);have D:=h.at_ k;simp only[ep]at D ⊢;rw[HV,L,<- D];generalize aI σ x=u at hx
  refine VZ λl e k=>?_
  subst e;cases l with
  | own q=>
   have I:=hx;simp[iF];rw[O,zq hb q _ I]
  |v z=>rfl
  |dead=>rfl
 case h_11 t y i=>
  intro X k;have C:=Q y (by simp[Op.operands]);have L:=J y (by simp[Op.operands]);have HW:=J i (by simp[Op.operands]);have D:=h.at_ k;simp only[ep]at D ⊢;rw[L,HW,<- D];generalize aI σ y=u at C;unfold oX;split
  ·rfl
  ·split
   ·split
    ·rfl
    next q=>have I:fC p q=true:=C;rw[O,zq hb q _ I]
    ·rfl
   ·rfl
 case h_8 t t2 y=>
  intro X k;have C:=Q y (by simp[Op.operands]);have L:=J y (by simp[Op.operands]);have D:=h.at_ k;simp only[ep]at D ⊢;rw[L,<- D];generalize aI σ y=u at C;unfold oq;split
  ·rfl
  ·rename_i z _;cases z with
   | own q=>
    have I:=C;simp[iF];rw[O,zq hb q _ I]
   |v z=>rfl
   |dead=>rfl
  ·rfl
 case h_15 y t=>
  intro X k;have C:=Q y (by simp[Op.operands,Call.operands]);have L:=J y (by simp[Op.operands,Call.operands]);have D:=h.at_ k;simp only[ep]at D ⊢;rw[L,<- D];generalize aI σ y=u at C;unfold qZ;split
  ·rename_i z;cases z with
   | own q=>
    have I:=C;simp[iF];rw[O,zq hb q _ I]
   |v z=>rfl
   |dead=>rfl
  ·rfl
  ·rfl
 case h_18 t y lo hi=>
  intro X k;have C:=Q y (by simp[Op.operands]);have L:=J y (by simp[Op.operands]);have e:∀ z:ah Operand,(∀ y,z=some y -> aI (σ.bE ns [] nr) y=aI σ y) -> z.map (aI (σ.bE ns [] nr))=z.map (aI σ):=by
   intro z hz;cases z with
   |none=>rfl
   |some z=>grind
  have D:=h.at_ k;simp only[ep]at D ⊢;rw[L,e lo (λy C=>J y (by subst C;simp[Op.operands])),e hi (λy C=>J y (by subst C;simp[Op.operands])),<- D];generalize aI σ y=u at C;unfold q8;split
  ·rename_i q;have I:fC p q=true:=C;unfold ot;split
   ·split
    ·rw[O,zq hb q _ I]
    ·rfl
   ·rfl
  ·rename_i q s j;have I:fC p q=true:=C;unfold ot;split
   ·split
    ·rw[O,zq hb q _ I]
    ·rfl
   ·rfl
  ·rfl
 case h_19=>cases E
 all_goals exact HU λX k=>rfl
/-! .. nor is a root that is written. -/
def zu{p:Nat->Bool}{n:Nat}{x:aY}{m:Nat->ah aY}(C:p n=true):∀ (q:aa Nat) (k:V->ah X),fC p q=true->gz (bW m n (some x)) q k=gz m q k
 |[],_,_=>rfl
 | [y],k,h=>by
  have D:p y=false:=by simpa [fC]using h
  simp only[gz];rw[cB _ _ _ (by rintro rfl;rw[C]at D;cases D)]
 |[_,_],_,_=>rfl
 |[j,i,s],k,h=>rfl
 | j :: i :: s :: E :: q,k,h=>by
  have I:fC p (E::q)=true:=by simpa [fC,List.getLast?_cons_cons]using h
  simp only[gz];exact zu C (E::q) _ I
def ao6{p pb:Nat -> Bool}{n:Nat}{x:aY}{op:Op}{v:A}(h:cA (λX k=>ep (X:=X) P σ op k) v)(O:p n=true)(T:∀ y∈op.operands,(aI σ y).jR p pb=true)(hv:v.jR p pb=true)(U:∀ t y r j,op = .load t y -> aI σ y = .aG r j -> p r=false):
  cA (λX k=>ep (X:=X) P (σ.root n x) op k) v:=by
 have J:∀ y∈op.operands,aI (σ.root n x) y=aI σ y:=by
  intro y D;rfl
 have Q:(σ.root n x).m=bW σ.m n (some x):=rfl;have dD:∀ y∈op.operands,aI ⟨(σ.root n x).t,σ.m⟩ y=aI σ y:=by
  intro y D;rw[<- J y D];rfl
 have HU:(∀ (X:Type) (k:A -> ah X),ep P ⟨(σ.root n x).t,σ.m⟩ op k=ep P (σ.root n x) op k) -> cA (λX k=>ep (X:=X) P (σ.root n x) op k) v:=by
  intro he X k;exact(he X k).symm.trans ((HT (σ:=σ) (σ2:=⟨(σ.root n x).t,σ.m⟩) op rfl dD k).trans (h.at_ k))
 have E:=h.at_ (X:=A) (λz=>some z);unfold ep at E;split at E
 case h_5 t y=>
  intro X k;have D:=T y (by simp[Op.operands]);have L:=J y (by simp[Op.operands]);simp only[ep];rw[L];have U:=λr j e=>U t y r j rfl e
  generalize aI σ y=u at E D U;have hd:cA (λX k=>jn (X:=X) P σ t u k) v:=by
   obtain⟨y',C,Y⟩:=HE E;simp_all
  unfold jn at E ⊢;split at E
  ·cases E
  ·rename_i sz ga;split at E
   ·rename_i r' j;split at E
    next cs jN=>obtain⟨y',C,Y⟩:=wK E;injection C with C;subst C;have hp:=U r' _ rfl;rw[Q,cB _ _ _ (by rintro rfl;rw[O]at hp;cases hp),jN];exact Y.at_ k
    ·cases E
   ·obtain⟨y',C,Y⟩:=wK E;injection C with C;subst C;exact Y.at_ k
   ·rename_i j i s q;have hq:fC p q=true:=by
     have I:fC p (j::i::s::q)=true:=D;cases q with
     | nil=>
      obtain⟨z,_,hg,_⟩:=sA _ _ E;cases hg
     |cons q0 q=>simpa [fC]using I
    rw[Q,zu O q _ hq];have Z:=hd.at_ k;unfold jn at Z;rw[ga]at Z;exact Z
   ·cases E
 case h_6 op t x y yt=>
  intro X k;have hx:=T x (by simp[Op.operands]);have HV:=J x (by simp[Op.operands]);have L:=J y (by simp[Op.operands]);have C:=h.at_ k;simp only[ep]at C ⊢;rw[HV,L,<- C];generalize aI σ x=u at hx
  refine VZ λl e k=>?_
  subst e;cases l with
  | own q=>
   have I:=hx;simp[iF];rw[Q,zu O q _ I]
  |v z=>rfl
  |dead=>rfl
 case h_11 t y i=>
  intro X k;have D:=T y (by simp[Op.operands]);have L:=J y (by simp[Op.operands]);have HW:=J i (by simp[Op.operands]);have C:=h.at_ k;simp only[ep]at C ⊢;rw[L,HW,<- C];generalize aI σ y=u at D;unfold oX;split
  ·rfl
  ·split
   ·split
    ·rfl
    next q=>have I:fC p q=true:=D;rw[Q,zu O q _ I]
    ·rfl
   ·rfl
 case h_8 t t2 y=>
  intro X k;have D:=T y (by simp[Op.operands]);have L:=J y (by simp[Op.operands]);have C:=h.at_ k;simp only[ep]at C ⊢;rw[L,<- C];generalize aI σ y=u at D;unfold oq;split
  ·rfl
  ·rename_i z _;cases z with
   | own q=>
    have I:=D;simp[iF];rw[Q,zu O q _ I]
   |v z=>rfl
   |dead=>rfl
  ·rfl
 case h_15 y t=>
  intro X k;have D:=T y (by simp[Op.operands,Call.operands]);have L:=J y (by simp[Op.operands,Call.operands]);have C:=h.at_ k;simp only[ep]at C ⊢;rw[L,<- C];generalize aI σ y=u at D;unfold qZ;split
  ·rename_i z;cases z with
   | own q=>
    have I:=D;simp[iF];rw[Q,zu O q _ I]
   |v z=>rfl
   |dead=>rfl
  ·rfl
  ·rfl
 case h_18 t y lo hi=>
  intro X k;have D:=T y (by simp[Op.operands]);have L:=J y (by simp[Op.operands]);have e:∀ z:ah Operand,(∀ y,z=some y -> aI (σ.root n x) y=aI σ y) -> z.map (aI (σ.root n x))=z.map (aI σ):=by
   intro z hz;cases z with
   |none=>rfl
   |some z=>rfl
  have C:=h.at_ k;simp only[ep]at C ⊢;rw[L,e lo (λy D=>J y (by subst D;simp[Op.operands])),e hi (λy D=>J y (by subst D;simp[Op.operands])),<- C];generalize aI σ y=u at D;unfold q8;split
  ·rename_i q;have I:fC p q=true:=D;unfold ot;split
   ·split
    ·rw[Q,zu O q _ I]
    ·rfl
   ·rfl
  ·rename_i q s j;have I:fC p q=true:=D;unfold ot;split
   ·split
    ·rw[Q,zu O q _ I]
    ·rfl
   ·rfl
  ·rfl
 case h_19=>cases E
 all_goals exact HU λX k=>rfl
end
def fX(σ:S):ah Tmp->A->S
 |none,_=>σ
 |some d,v=>σ.set d v
inductive gL (p pb:Nat->Bool):S->S->Prop
 |refl (σ:S):gL p pb σ σ
 |root {σ dR:S} (n:Nat) (x:aY):p n=true->pb n=true->gL p pb σ dR->gL p pb σ ((dR.drop n).root n x)
 |bE {σ dR:S} (ns:List Nat) (nr:List (Nat×aY)):HX p ns nr->gL p pb σ dR->gL p pb σ (dR.bE ns [] nr)
 |rt {σ dR:S} (n:Nat) (x:aY):p n=true->gL p pb σ dR->gL p pb σ (dR.root n x)
section
variable {P:Program} {w w':World} {w0:Wd} {B N:Nat} {aj aE:bG} {ρ ρ':Nat->Loc} {σ:S} {a:Act} {X:Type} {d:Nat} {r:X} {o:Oper} {Φ:eo} {p pb:Nat->Bool} {e:Nat} {x:aY} {u:A}
def jT{C:ah Tmp}{x:A}{k:S -> ah X}(h:iu N σ C x k=some r):k (fX σ C x)=some r /\ ∀ (σ2:S),cA (λX k=>iu (X:=X) N σ2 C x k) (fX σ2 C x):=by
 unfold iu at h;split at h
 ·exact⟨h,λ_ X k=>rfl⟩
 ·rename_i d;cases D:Nat.blt d N with
  |false=>simp_all
  |true=>rw[D]at h;exact⟨h,λ_ X k=>by simp[iu,D];rfl⟩
theorem acq[Inhabited Wd]{f:Nat}{C:ah Tmp}{c:tJ}{xs:aa A}{k:S -> ah X}(E:qm P f c)(h:D0 N σ C c xs k=some r):∃ D,k D=some r/\cA (λX k=>D0 (X:=X) N σ C c xs k) D:=by
 obtain⟨I,y,J,L,_⟩:=E _ _ _ _ _ _ h;obtain⟨O,Q⟩:=jT J;exact⟨_,O,λX k=>(L X _).trans ((Q I).at_ k)⟩
def gL.t{σ D:S}(h:gL p pb σ D){g:Nat}(E:(σ.t g).jR p pb=true):D.t g=σ.t g:=by
 induction h with
 |refl=>rfl
 | root n x I hb _ C=>
  show (A.drop n _)=_;rw[C];exact A.sE E I hb
 | bE ns nr hb _ C=>
  show (A.bE ns [] _)=_;rw[C];exact A.D4 E hb.ns
 |rt n x I _ C=>exact C
def gL.bp{σ C:S}(h:gL p pb σ C){t r j:Nat}(D:σ.t t = .aG r j)(E:pb r=false):C.t t = .aG r j:=by
 rw[<- D];refine h.t ?_;rw[D];show (!pb r)=true;simp_all
def iA(p:Nat->Bool):A->Prop
 |.aG r _=>p r=true
 |.ptr _=>False
 |_=>True
def iA.drop{x:A}(h:iA p x)(n:Nat):iA p (x.drop n):=by
 cases x with
 | aG r j=>
  have e:A.drop n (.aG r j)=(bif Nat.beq r n then .undef else .aG r j):=rfl;rw[e];cases Nat.beq r n with
  |true=>trivial
  |false=>exact h
 | view k s i j=>
  have e:A.drop n (.view k s i j)=(bif bK n k then .undef else .view k s i j):=rfl;rw[e];cases bK n k<;>trivial
 | pk r j=>
  have e:A.drop n (.pk r j)=(bif Nat.beq r n then .undef else .pk r j):=rfl;rw[e];cases Nat.beq r n<;>trivial
 | fn f cap=>
  have e:A.drop n (.fn f cap)=(bif cap.any (λp=>Nat.beq p.1 n)then .undef else .fn f cap):=rfl;rw[e];cases (cap.any λp=>Nat.beq p.1 n)<;>trivial
 |_=>trivial
def iA.bE{x:A}(h:iA p x)(ns cn:aa Nat):iA p (x.bE ns cn):=by
 cases x with
 | aG r j=>
  have e:A.bE ns cn (.aG r j)=(bif cx r cn then .undef else .aG r j):=rfl;rw[e];cases cx r cn with
  |true=>trivial
  |false=>exact h
 | view k s i j=>
  have e:A.bE ns cn (.view k s i j)=(bif cF k cn ||cF k ns then .undef else .view k s i j):=rfl;rw[e];cases (cF k cn ||cF k ns)<;>trivial
 | pk r j=>
  have e:A.bE ns cn (.pk r j)=(bif cx r cn then .undef else .pk r j):=rfl;rw[e];cases cx r cn<;>trivial
 | fn f cap=>
  have e:A.bE ns cn (.fn f cap)=(bif cap.any (λp=>cx p.1 cn)then .undef else .fn f cap):=rfl;rw[e];cases (cap.any λp=>cx p.1 cn)<;>trivial
 |_=>trivial
def gL.st{D:Nat->Bool}{σ E:S}(h:gL p pb σ E){t:Nat}(I:iA D (σ.t t)):iA D (E.t t):=by
 induction h with
 |refl=>exact I
 |root n x J hb _ C=>exact C.drop n
 |bE ns nr hb _ C=>exact C.bE ns []
 |rt n x J _ C=>exact C
def gL.D5{σ C:S}(h:gL p pb σ C){x:Operand}(D:(aI σ x).jR p pb=true):aI C x=aI σ x:=by
 cases x with
 |tmp t=>exact h.t D
 |const v=>rfl
 |global g=>rfl
 |func f=>rfl
def gL.val{σ I:S}(h:gL p pb σ I){op:Op}{v:A}(Q:cA (λX k=>ep (X:=X) P σ op k) v)(E:∀ y∈op.operands,(aI σ y).jR p pb=true)(L:v.jR p pb=true)(T:∀ t y r j,op = .load t y->aI σ y = .aG r j->p r=false):cA (λX k=>ep (X:=X) P I op k) v:=by
 have hl:∀ {I:S},gL p pb σ I->∀ t y r j,op = .load t y->aI I y = .aG r j->p r=false:=by
  intro I C t y r j e h;refine T t y r j e ?_;rw[<-C.D5 (E y (by rw[e];simp[Op.operands]))];exact h
 induction h with
 |refl=>exact Q
 | root n x O hb C J=>
  exact ao3 J O hb (λy D=>by rw[C.D5 (E y D)];exact E y D) L
 | bE ns nr hb C J=>
  exact ao5 J hb (λy D=>by rw[C.D5 (E y D)];exact E y D) L (hl C)
 | rt n x O C J=>
  exact ao6 J O (λy D=>by rw[C.D5 (E y D)];exact E y D) L (hl C)
def gL.trans{σ E I:S}(h:gL p pb σ E)(J:gL p pb E I):gL p pb σ I:=by
 induction J with
 |refl=>exact h
 |root n x D hb _ C=>exact .root n x D hb C
 |bE ns nr hb _ C=>exact .bE ns nr hb C
 |rt n x D _ C=>exact .rt n x D C
def wQ:∀ (xs:aa V) (c:Nat) (σ:S),(∀ n,c <= n -> p n=true/\pb n=true) -> gL p pb σ (iH c σ xs)
 |[],c,σ,h=>.refl σ
 | x :: xs,c,σ,h=>by
  simp[iH];cases D:x.aD with
  |true=>exact wQ xs _ σ (λn C=>h n (by omega))
  |false=>exact .trans (.root c (.sl x) (h c (eK _)).1 (h c (eK _)).2 (.refl σ)) (wQ xs (c+1) _ (λn C=>h n (by omega)))
def BA:∀ (ps:aa Pt) (c:Nat) (σ:S),(∀ n,c<=n->p n=true/\pb n=true)->gL p pb σ (lz c σ ps)
 |[],c,σ,h=>.refl σ
 |q::ps,c,σ,h=>(wQ q.2 c σ h).trans (BA ps _ _ (λn C=>h n (by omega)))
def zv{σ2:S}{ops:Array Oper}(h:∀ g b t,o.guard=some (g,b) -> (ops[g]?).bind (·.dst)=some t -> σ2.t t=σ.t t):fK σ2 ops o=fK σ ops o:=by
 unfold fK
 grind
def mc(p pb:Nat->Bool)(x:A):Prop:=∀r,x = .lf (.own [r])->p r=true/\pb r=true
def mc.drop{p pb:Nat -> Bool}{x:A}(h:mc p pb x)(n:Nat):mc p pb (x.drop n):=by
 intro r C;refine h r ?_;cases x with
 | lf l=>
  cases l with
  | own k=>
   have e:A.drop n (.lf (.own k)) = .lf (bif bK n k then .dead else .own k):=rfl;rw[e]at C;cases hb:bK n k with
   |true=>simp_all
   |false=>simp_all
  |v z=>cases C
  |dead=>cases C
 | aG q j=>
  have e:A.drop n (.aG q j)=(bif Nat.beq q n then .undef else .aG q j):=rfl
  grind
 | ptr k=>
  have e:A.drop n (.ptr k)=(bif bK n k then .undef else .ptr k):=rfl
  grind
 | view k s i j=>
  have e:A.drop n (.view k s i j)=(bif bK n k then .undef else .view k s i j):=rfl;rw[e]at C;cases hb:bK n k<;>rw[hb]at C<;>cases C
 | pk q j=>
  have e:A.drop n (.pk q j)=(bif Nat.beq q n then .undef else .pk q j):=rfl;rw[e]at C;cases hb:Nat.beq q n<;>rw[hb]at C<;>cases C
 | fn f cap=>
  have e:A.drop n (.fn f cap)=(bif cap.any (λp=>Nat.beq p.1 n)then .undef else .fn f cap):=rfl;rw[e]at C;cases hb:(cap.any λp=>Nat.beq p.1 n)<;>rw[hb]at C<;>cases C
 |_=>cases C
def mc.bE{p pb:Nat -> Bool}{x:A}(h:mc p pb x)(ns cn:aa Nat):mc p pb (x.bE ns cn):=by
 intro r C;refine h r ?_;cases x with
 | lf l=>
  have e:A.bE ns cn (.lf l) = .lf _:=rfl;rw[e]at C;unfold Lf.bE at C
  grind
 | aG q j=>
  have e:A.bE ns cn (.aG q j)=(bif cx q cn then .undef else .aG q j):=rfl
  grind
 | ptr k=>
  unfold A.bE at C
  grind
 | view k s i j=>
  have e:A.bE ns cn (.view k s i j)=(bif cF k cn ||cF k ns then .undef else .view k s i j):=rfl;rw[e]at C;cases hb:(cF k cn ||cF k ns)<;>rw[hb]at C<;>cases C
 | pk q j=>
  have e:A.bE ns cn (.pk q j)=(bif cx q cn then .undef else .pk q j):=rfl;rw[e]at C;cases hb:cx q cn<;>rw[hb]at C<;>cases C
 | fn f cap=>
  have e:A.bE ns cn (.fn f cap)=(bif cap.any (λp=>cx p.1 cn)then .undef else .fn f cap):=rfl;rw[e]at C;cases hb:(cap.any λp=>cx p.1 cn)<;>rw[hb]at C<;>cases C
 |_=>cases C
def gL.tg{D E:Nat->Bool}{σ I:S}(h:gL p pb σ I){t:Nat}(J:mc D E (σ.t t)):mc D E (I.t t):=by
 induction h with
 |refl=>exact J
 |root n x L hb _ C=>exact C.drop n
 |bE ns nr hb _ C=>exact C.bE ns []
 |rt n x L _ C=>exact C
structure sF (P:Program) (N:Nat) (Φ:eo) (o:Oper) (p pb:Nat->Bool) (rD τ:S) where
 G:S->S
 u:A
 eq:τ=fX (G rD) o.dst u
 run:∀σ2:S,(∀x∈o.op.operands,aI σ2 x=aI rD x)->σ2.m=rD.m->dn P N Φ σ2 o some=some (fX (G σ2) o.dst u)
 grow:∀σ,gL p pb σ (G σ)
 set:∀(σ:S) d v,(A.jR p pb v)=true->G (σ.set d v)=(G σ).set d v
 bp:isApp o=false->∀(σ:S) t r j,σ.t t = .aG r j->dV o r=false->(G σ).t t = .aG r j
theorem sF.new{E:S}{d:Nat}(I:o.dst=some d)(C:p d=true/\pb d=true)(L:dV o d=true)(x:aY)(u:A){J:S}(e:J=((E.drop d).root d x).set d u)
  (D:∀σ2:S,(∀x∈o.op.operands,aI σ2 x=aI E x)->dn P N Φ σ2 o some=some (((σ2.drop d).root d x).set d u)):Nonempty (sF P N Φ o p pb E J):=
 ⟨{ G:=λσ=>(σ.drop d).root d x,u:=u,eq:=by rw[I];exact e,run:=λσ2 h _=>by rw[D σ2 h,I];rfl,grow:=λσ=>.root d x C.1 C.2 (.refl σ),
    set:=λσ e v O=>by rw[S.drop_set d (A.sE O C.1 C.2)];rfl
    bp:=λ_ σ t r j Q D=>by
     show A.drop d (σ.t t)=_;rw[Q];have:Nat.beq r d=false:=by
      cases hb:Nat.beq r d with
      |false=>rfl
      |true=>rw[cD hb,L]at D;cases D
     simp only[A.drop,this,au] }⟩
theorem ao7[Inhabited Wd](fL:fQ P Φ){τ:S}(Z:NS Φ o.op=true)(hp:∀ n,dV o n=true -> p n=true/\pb n=true)(h:dn P N Φ σ o some=some τ):Nonempty (sF P N Φ o p pb σ τ):=by
 have h0:=h;unfold dn at h;cases Q:fJ o.op with
 | true=>
  rw[Q,ak]at h;obtain⟨v,C,E,_⟩:=HS (w0:=default) (N:=N) h;obtain⟨L,Y⟩:=jT C;injection L with L
  refine⟨{ G:=λσ=>σ,u:=v,eq:=L.symm,run:=λσ2 I T=>?_,grow:=.refl,set:=λ_ _ _ _=>rfl,bp:=λ_ _ _ _ _ h _=>h }⟩
  unfold dn;rw[Q,ak,HT o.op T I];refine(E.at_ _).trans ?_;exact(Y σ2).at_ _
 | false=>
  rw[Q,au]at h;have dZ:∀σ2,dn P N Φ σ2 o some=hJ P N Φ σ2 o some:=λσ2=>by unfold dn;rw[Q,au]
  unfold hJ at h dZ;unfold NS at Z;rw[Q,Bool.false_or]at Z;split at h
  ·rename_i e I;obtain⟨d,E,h⟩:=gk h;obtain⟨x,y,C,_,L⟩:=abP h;injection C with C;have J:dV o d=true:=by unfold dV;rw[E,I];exact Nat.beq_refl d
   refine sF.new E (hp d J) J x y C.symm λσ2 _=>?_
   rw[dZ,I];simp only[eN,E];exact(L σ2).at_ _
  ·rename_i e x I;obtain⟨d,E,h⟩:=gk h;obtain⟨y,u,C,L⟩:=abV h;injection C with C;have J:dV o d=true:=by unfold dV;rw[E,I];exact Nat.beq_refl d
   refine sF.new E (hp d J) J _ _ C.symm λσ2 O=>?_
   rw[dZ,I];simp only[eN,E];rw[O x (by rw[I];simp[Op.operands])];exact(L σ2).at_ _
  ·rename_i t len parts I;obtain⟨d,E,h⟩:=gk h;have J:dV o d=true:=by unfold dV;rw[E,I];exact Nat.beq_refl d
   cases D:oz t with
   | true=>
    rw[D,ak]at h;obtain⟨y,u,C,L⟩:=abY h;injection C with C
    refine sF.new E (hp d J) J _ _ C.symm λσ2 O=>?_
    rw[dZ,I];simp only[eN,E,D,ak]
    refine(L σ2 λq hq=>O _ ?_).at_ _
    rw[I];simp only[Op.operands];exact List.mem_toArray.2 (List.mem_map_of_mem (f:=(·.2)) hq)
   | false=>
    rw[D,au]at h;obtain⟨y,C,L⟩:=VA h;injection C with C
    refine sF.new E (hp d J) J _ _ C.symm λσ2 O=>?_
    rw[dZ,I];simp only[eN,E,D,au]
    refine(L σ2 λq hq=>O _ ?_).at_ _
    rw[I];simp only[Op.operands];exact List.mem_toArray.2 (List.mem_map_of_mem (f:=(·.2)) hq)
  ·simp_all
  ·rename_i t l c I;obtain⟨d,E,h⟩:=gk h;obtain⟨y,C,L⟩:=Vz h;injection C with C;have J:dV o d=true:=by unfold dV;rw[E,I];exact Nat.beq_refl d
   refine sF.new E (hp d J) J _ _ C.symm λσ2 O=>?_
   rw[dZ,I];simp only[eN,E];rw[O l (by rw[I];simp[Op.operands]),O c (by rw[I];simp[Op.operands])];exact(L σ2).at_ _
  ·rename_i f args jq I;split at h
   rotate_left
   ·simp_all
   ·simp_all
   ·simp_all
   ·simp_all
   ·simp_all
   ·rename_i c hc;obtain⟨d,E,h⟩:=gk h;obtain⟨res,oh,C,L,Y⟩:=aog (fL f _ hc).2 h;injection L with L;subst L;have J:∀ n,1000000000100000+1000*d <= n -> dV o n=true:=λn D=>by unfold dV;rw[E,I];exact iD D
    have U:∀n,1000000000100000+1000*d <= n -> p n=true/\pb n=true:=λn D=>hp n (J n D)
    have zw:∀ σ2:S,(∀ x∈o.op.operands,aI σ2 x=aI σ x) -> σ2.m=σ.m -> ∀ (X:Type) (k:aa Pt -> ah X),qg σ2 args.toList k=qg σ args.toList k:=by
     intro σ2 O T X k
     refine acn T _ _ λx hx=>O x ?_
     rw[I];simp only[Op.operands,Call.operands];simp only[Array.mem_append]
     first
      |exact .inr (by simpa using hx)
      |exact .inl _
    unfold pz at C Y;cases res with
    | one q=>
     simp only at C Y;split at C
     ·rename_i y hy;injection C with C
      refine⟨{ G:=λσ=>iH (1000000000100000+1000*d) σ q.2,u:=y,eq:=by rw[E];exact C.symm,run:=λσ2 O T=>?_,grow:=λσ=>wQ q.2 _ σ U,set:=λσ e v Q=>DZ v q.2 _ σ λn D=>A.sE Q (U n D).1 (U n D).2,bp:=λ_ σ t r j Z hr=>(wQ (p:=dV o) (pb:=dV o) q.2 _ σ (λn D=>⟨J n D,J n D⟩)).bp Z hr }⟩
      rw[dZ,I];simp only[eN,E,hc];exact(Y σ2 ((iH (1000000000100000+1000*d) σ2 q.2).set d y) (zw σ2 O T) (by rw[hy])).at_ _
     ·cases C
    | cR ps=>
     injection C with C
     refine⟨{ G:=λσ=>lz (1000000000100000+1000*d) σ ps,u:=_,eq:=by rw[E];exact C.symm,run:=λσ2 O T=>?_,grow:=λσ=>BA ps _ σ U,set:=λσ e v Q=>NG v ps _ σ λn D=>A.sE Q (U n D).1 (U n D).2,bp:=λ_ σ t r j Z hr=>(BA (p:=dV o) (pb:=dV o) ps _ σ (λn D=>⟨J n D,J n D⟩)).bp Z hr }⟩
     rw[dZ,I];simp only[eN,E,hc];exact(Y σ2 _ (zw σ2 O T) rfl).at_ _
   ·simp_all
   ·cases h
   ·rename_i c hc;obtain⟨d,E,h⟩:=gk h;obtain⟨res,oh,C,L,Y⟩:=HG (fL f _ hc).2 h;injection L with L;subst L;have J:∀ n,1000000000100000+1000*d <= n -> dV o n=true:=λn D=>by unfold dV;rw[E,I];exact iD D
    have U:∀n,1000000000100000+1000*d <= n -> p n=true/\pb n=true:=λn D=>hp n (J n D)
    have zw:∀ σ2:S,(∀ x∈o.op.operands,aI σ2 x=aI σ x) -> σ2.m=σ.m -> ∀ (X:Type) (k:aa Pt -> ah X),mK σ2 args.toList k=mK σ args.toList k:=by
     intro σ2 O T X k
     refine acm T _ _ λx hx=>O x ?_
     rw[I];simp only[Op.operands,Call.operands];simp only[Array.mem_append]
     first
      |exact .inr (by simpa using hx)
      |exact .inl _
    unfold pz at C Y;cases res with
    | one q=>
     simp only at C Y;split at C
     ·rename_i y hy;injection C with C
      refine⟨{ G:=λσ=>iH (1000000000100000+1000*d) σ q.2,u:=y,eq:=by rw[E];exact C.symm,run:=λσ2 O T=>?_,grow:=λσ=>wQ q.2 _ σ U,set:=λσ e v Q=>DZ v q.2 _ σ λn D=>A.sE Q (U n D).1 (U n D).2,bp:=λ_ σ t r j Z hr=>(wQ (p:=dV o) (pb:=dV o) q.2 _ σ (λn D=>⟨J n D,J n D⟩)).bp Z hr }⟩
      rw[dZ,I];simp only[eN,E,hc];exact(Y σ2 ((iH (1000000000100000+1000*d) σ2 q.2).set d y) (zw σ2 O T) (by rw[hy])).at_ _
     ·cases C
    | cR ps=>
     injection C with C
     refine⟨{ G:=λσ=>lz (1000000000100000+1000*d) σ ps,u:=_,eq:=by rw[E];exact C.symm,run:=λσ2 O T=>?_,grow:=λσ=>BA ps _ σ U,set:=λσ e v Q=>NG v ps _ σ λn D=>A.sE Q (U n D).1 (U n D).2,bp:=λ_ σ t r j Z hr=>(BA (p:=dV o) (pb:=dV o) ps _ σ (λn D=>⟨J n D,J n D⟩)).bp Z hr }⟩
     rw[dZ,I];simp only[eN,E,hc];exact(Y σ2 _ (zw σ2 O T) rfl).at_ _
  ·simp_all
  ·simp_all
  ·simp_all
  ·simp_all
  ·simp_all
  ·simp_all
  ·simp_all
  ·cases h
theorem NZ[Inhabited Wd](Y:fQ P Φ){k:S->ah X}(h:dn P N Φ σ o k=some r):∃ E,k E=some r/\∀ (Z:Type) (T:S->ah Z),dn P N Φ σ o T=T E:=by
 unfold dn at h ⊢;cases hv:fJ o.op with
 | true=>
  rw[hv,ak]at h;obtain⟨v,C,I,_⟩:=HS (w0:=default) (N:=N) h;obtain⟨D,L⟩:=jT C
  refine⟨_,D,λZ T=>?_⟩
  rw[ak];exact(I.at_ (λv=>iu N σ o.dst v T)).trans ((L σ).at_ _)
 | false=>
  rw[hv,au]at h;show ∃E,k E=some r/\∀(Z:Type) (T:S->ah Z),hJ P N Φ σ o T=T E;unfold hJ at h ⊢;split at h
  ·obtain⟨d,I,h⟩:=gk h;obtain⟨x,y,C,_,D⟩:=abP h;exact⟨_,C,λ_ _=>by simp only[eN,I];exact(D σ).at_ _⟩
  ·obtain⟨d,I,h⟩:=gk h;obtain⟨y,u,C,D⟩:=abV h;exact⟨_,C,λ_ _=>by simp only[eN,I];exact(D σ).at_ _⟩
  ·rename_i t len parts O;obtain⟨d,I,h⟩:=gk h;cases Q:oz t with
   | true=>
    rw[Q,ak]at h;obtain⟨y,u,C,D⟩:=abY h;exact⟨_,C,λ_ _=>by simp only[eN,I,ak];exact(D σ λ_ _=>rfl).at_ _⟩
   | false=>
    rw[Q,au]at h;obtain⟨y,C,D⟩:=VA h;exact⟨_,C,λ_ _=>by simp only[eN,I,au];exact(D σ λ_ _=>rfl).at_ _⟩
  ·split at h
   ·rename_i t x y O _ I;cases Q:uY (aI σ x) (aI σ y)with
    | true=>
     rw[Q,ak]at h;obtain⟨E,C,D⟩:=aop h;exact⟨E,C,λ_ _=>by simp only[ak];exact D.at_ _⟩
    | false=>
     rw[Q,au]at h;obtain⟨E,C,D⟩:=abS h;exact⟨E,C,λ_ _=>by simp only[au];exact D.at_ _⟩
   ·cases h
  ·obtain⟨d,I,h⟩:=gk h;obtain⟨y,C,D⟩:=Vz h;exact⟨_,C,λ_ _=>by simp only[eN,I];exact(D σ).at_ _⟩
  ·rename_i f args jq O;split at h
   next c J=>obtain⟨d,I,h⟩:=gk h;obtain⟨res,E,C,D,L⟩:=HG (Y f _ J).2 h;exact⟨E,D,λ_ _=>by simp only[eN,I];exact(L σ E (λ_ _=>rfl) C).at_ _⟩
   next c J=>obtain⟨E,C,D⟩:=VL h;exact⟨E,C,λ_ _=>D.at_ _⟩
   next c J=>obtain⟨d,I,h⟩:=gk h;obtain⟨E,C,D⟩:=aot h;exact⟨E,C,λ_ _=>by simp only[eN,I];exact D.at_ _⟩
   ·rename_i F J;obtain⟨d,I,h⟩:=gk h;split at h
    next x hx=>obtain⟨E,C,D⟩:=aoq h;exact⟨E,C,λ_ _=>by simp only[eN,I];exact D.at_ _⟩
    ·cases h
   next c J=>obtain⟨E,C,D⟩:=acq (Y f _ J).2 h;exact⟨E,C,λ_ _=>D.at_ _⟩
   next c J=>obtain⟨E,C,D⟩:=anZ (λh=>let ⟨E,g1,g2⟩:=VL h;⟨E,g1,λX k=>g2 X k⟩) h;exact⟨E,C,D⟩
   next c J=>obtain⟨d,I,h⟩:=gk h;obtain⟨E,C,D⟩:=aof (Y f _ J).2 h;exact⟨E,C,λ_ _=>by simp only[eN,I];exact D.at_ _⟩
   next c J=>obtain⟨E,C,D⟩:=aoA h;exact⟨E,C,D⟩
   ·cases h
  ·rename_i x y t t' O;cases lX:Nat.beq t t' with
   |false=>rw[lX]at h;cases h
   | true=>
    rw[lX,ak]at h;obtain⟨d,I,h⟩:=gk h;cases Q:oz t with
    | true=>
     rw[Q,ak]at h;obtain⟨E,C,D⟩:=aon h;exact⟨E,C,λ_ _=>by simp only[ak,eN,I];exact D.at_ _⟩
    | false=>
     rw[Q,au]at h;cases hk:HM t d x with
     | true=>
      rw[hk,ak]at h;obtain⟨E,C,D⟩:=aoN h;exact⟨E,C,λ_ _=>by simp only[ak,au,eN,I,hk];exact D.at_ _⟩
     | false=>
      rw[hk,au]at h;obtain⟨E,C,D⟩:=aod h;exact⟨E,C,λ_ _=>by simp only[ak,au,eN,I,hk];exact D.at_ _⟩
  next t O=>obtain⟨d,I,h⟩:=gk h;obtain⟨E,C,D⟩:=aoG h;exact⟨E,C,λ_ _=>by simp only[eN,I];exact D.at_ _⟩
  next t x i O=>obtain⟨v,C,D,_⟩:=ab9 (w0:=default) (N:=N) h;obtain⟨L,U⟩:=jT C;exact⟨_,L,λ_ _=>(D.at_ _).trans ((U σ).at_ _)⟩
  ·rename_i t x i v O;split at h
   next I=>obtain⟨E,C,D,_⟩:=acd (w0:=default) (N:=N) h;exact⟨E,C,λ_ _=>D.at_ _⟩
   ·cases h
  ·rename_i t args jq O;split at h
   ·rename_i f cap uO;split at h
    next c J=>obtain⟨E,C,D⟩:=acq (Y f _ J).2 h;exact⟨E,C,λ_ _=>D.at_ _⟩
    ·cases h
   ·cases h
  ·rename_i f aci O;split at h
   next ps qh=>obtain⟨L,U⟩:=jT h;exact⟨_,L,λ_ _=>(U σ).at_ _⟩
   ·cases h
  ·obtain⟨rD,C,D⟩:=amZ h;obtain⟨L,U⟩:=jT C;exact⟨_,L,λ_ _=>(D _ _).trans ((U rD).at_ _)⟩
  ·cases h
theorem ao8[Inhabited Wd](D:fQ P Φ){k:S->ah X}(h:dn P N Φ σ o k=some r):∃ C,k C=some r/\dn P N Φ σ o some=some C:=
 let ⟨C,E,I⟩:=NZ D h
 ⟨C,E,I S some⟩
theorem V4[Inhabited Wd](D:fQ P Φ){ops:Array Oper}{k:S->ah X}(h:dw P N Φ ops σ o k=some r):∃ C,k C=some r/\dw P N Φ ops σ o some=some C:=by
 unfold dw at h ⊢;split at h
 ·exact ao8 D h
 ·obtain⟨E,I⟩:=jT h;exact⟨_,E,(I σ).at_ _⟩
 ·cases h
def V5{ops:Array Oper}{b:Bool}(h:fK σ ops o=some b):∀ g c t,o.guard=some (g,c) -> (ops[g]?).bind (·.dst)=some t -> (σ.t t).jR p pb=true:=by
 intro g c t C D;unfold fK at h;rw[C]at h;simp[D]at h;split at h
 next hb=>rw[hb];rfl
 next hb=>rw[hb];rfl
 ·cases h
def D6{ops:Array Oper}{d:Nat}(h:d ∉ o.looksAt ops)(v:A){x:Operand}(C:x∈o.op.operands):aI (σ.set d v) x=aI σ x:=by
 cases x with
 | tmp t=>
  have:t≠d:=by
   rintro rfl;exact h (List.mem_append_left _ (List.mem_filterMap.2 ⟨.tmp t,by simpa using C,rfl⟩))
  exact cB _ _ _ this
 |_=>rfl
def V6{ops:Array Oper}{d:Nat}(h:d ∉ o.looksAt ops)(v:A):∀ g b t,o.guard=some (g,b) -> (ops[g]?).bind (·.dst)=some t -> (σ.set d v).t t=σ.t t:=by
 intro g b t C D;have:t≠d:=by
  rintro rfl;refine h (List.mem_append_right _ ?_);simp_all
 exact cB _ _ _ this
def mT(P:Program)(ops:Array Oper)(C:Oper)(p pb:Nat->Bool)(v:A)(σ:S):Prop:=
 (fK σ ops C=some true/\fJ C.op=true/\cA (λX k=>ep (X:=X) P σ C.op k) v/\(∀y∈C.op.operands,(aI σ y).jR p pb=true)/\v.jR p pb=true/\∀t y r j,C.op = .load t y->aI σ y = .aG r j->p r=false)\/(fK σ ops C=some false/\v = .skip)
def mT.grow{ops:Array Oper}{O:Oper}{v:A}(h:mT P ops O p pb v σ){Q:S}(C:gL p pb σ Q):mT P ops O p pb v Q:=by
 rcases h with ⟨D,I,Z,E,T,U⟩|⟨D,I⟩
 ·refine .inl ⟨?_,I,C.val Z E T U,λy Y=>?_,T,λt y r j e h=>?_⟩
  ·rw[zv λg b t J L=>C.t (V5 D g b t J L)];exact D
  ·rw[C.D5 (E y Y)];exact E y Y
  ·exact U t y r j e (by rw[<-C.D5 (E y (by rw[e];simp[Op.operands]))];exact h)
 ·refine .inr ⟨?_,I⟩;rw[zv λg b t J L=>C.t (V5 D g b t J L)];exact D
def mT.set{ops:Array Oper}{D:Oper}{v u:A}(h:mT P ops D p pb v σ){d:Nat}(C:d ∉ D.looksAt ops):mT P ops D p pb v (σ.set d u):=by
 rcases h with ⟨E,I,L,O,Q,T⟩|⟨E,I⟩
 ·refine .inl ⟨?_,I,λX k=>?_,λy J=>?_,Q,λt y r j e h=>?_⟩
  ·rw[zv (V6 C u)];exact E
  ·exact(HT (σ:=σ) (σ2:=σ.set d u) D.op rfl (λx U=>D6 C u U) k).trans (L.at_ k)
  ·rw[D6 C u J];exact O y J
  ·exact T t y r j e (by rw[<-D6 C u (by rw[e];simp[Op.operands])];exact h)
 ·refine .inr ⟨?_,I⟩;rw[zv (V6 C u)];exact E
def mT.put{ops:Array Oper}{C:Oper}{v u:A}(h:mT P ops C p pb v σ){D:ah Tmp}(E:∀ d,D=some d->d ∉ C.looksAt ops):mT P ops C p pb v (fX σ D u):=by
 cases D with
 |none=>exact h
 |some d=>exact h.set (E d rfl)
def mT.nr{ops:Array Oper}{C:Oper}{v:A}(h:mT P ops C p pb v σ):v.jR p pb=true:=by
 rcases h with ⟨_,_,_,_,D,_⟩|⟨_,E⟩
 ·exact D
 ·rw[E];rfl
def acr{x y:ah Tmp}(v u:A)(h:∀ d,x=some d->y≠some d):fX (fX σ x v) y u=fX (fX σ y u) x v:=by
 cases x with
 |none=>rfl
 | some d=>cases y with
  |none=>rfl
  |some e=>exact S.set_set (λC=>h d rfl (bH some C)) v u
def ao9(x:ah Tmp)(v:A):(fX σ x v).m=σ.m:=by cases x<;>rfl
def N0{ops:Array Oper}{C:ah Tmp}(h:∀ d,C=some d->d ∉ o.looksAt ops)(v:A){x:Operand}(D:x∈o.op.operands):aI (fX σ C v) x=aI σ x:=by
 cases C with
 |none=>rfl
 |some d=>exact D6 (h d rfl) v D
def apa{ops:Array Oper}{C:ah Tmp}(h:∀ d,C=some d->d ∉ o.looksAt ops)(v:A):fK (fX σ C v) ops o=fK σ ops o:=by
 cases C with
 |none=>rfl
 |some d=>exact zv (V6 (h d rfl) v)
/-! Calls that write blocks alone. -/
def acs{σ2:S}(C:σ2.m=σ.m)(ns:aa Nat):∀ (xs:aa Lf) (k:aa V -> ah X),pn σ2 ns xs k=pn σ ns xs k
 |[],k=>rfl
 | x :: xs,k=>by
  simp[pn,D3 C];congr 2;funext y;exact acs C ns xs _
def apb{σ2:S}(C:σ2.m=σ.m)(ns:aa Nat)(x:A)(k:Pt->ah X):ow σ2 ns x k=ow σ ns x k:=by
 unfold ow;split<;>simp only[acs C,C]
def apc{σ2:S}(C:σ2.m=σ.m)(p:PK)(x:A):uU σ2 p x=uU σ p x:=by
 cases p<;>simp only[uU,C]
def acu{σ2:S}(C:σ2.m=σ.m):∀ (ps:aa PK) (xs:aa Operand),(∀ x∈xs,aI σ2 x=aI σ x)->jr σ2 ps xs=jr σ ps xs
 |[],[],_=>rfl
 |[],_::_,_=>rfl
 |_::_,[],_=>rfl
 | p :: ps,x :: xs,h=>by
  simp only[jr];rw[h x (.head _),apc C,acu C ps xs (λy D=>h y (.tail _ D))]
def N1{σ2:S}(E:σ2.m=σ.m)(ns:aa Nat):∀ (ps:aa PK) (xs:aa Operand) (C:aa Mu) (k:kB ps->ah X),(∀ x∈xs,aI σ2 x=aI σ x)->iy σ2 ns ps xs C k=iy σ ns ps xs C k
 |[],[],[],k,_=>rfl
 | .v b t :: ps,x :: xs,C,k,h=>by
  simp only[iy];rw[h x (.head _),apb E];congr 1;funext p;congr 1;split
  ·exact N1 E ns ps xs C _ (λy D=>h y (.tail _ D))
  ·rfl
 | .p t g off :: ps,x :: xs,.aB I cs J :: C,k,h=>by
  simp only[iy];split
  ·exact N1 E ns ps xs C _ (λy D=>h y (.tail _ D))
  ·rfl
 | .s t g :: ps,x :: xs,.sl q L :: C,k,h=>by
  simp only[iy];split
  ·exact N1 E ns ps xs C _ (λy D=>h y (.tail _ D))
  ·rfl
 |[],[],_::_,k,_=>rfl
 |[],_::_,_,k,_=>rfl
 |.v _ _::_,[],_,k,_=>rfl
 |.p _ _ _::_,[],_,k,_=>rfl
 |.s _ _::_,[],_,k,_=>rfl
 |.p _ _ _::_,_::_,[],k,_=>rfl
 |.s _ _::_,_::_,[],k,_=>rfl
 |.p _ _ _::_,_::_,.sl _ _::_,k,_=>rfl
 |.s _ _::_,_::_,.aB _ _ _::_,k,_=>rfl
def apd{m:Nat -> ah aY}{l:Lf}{v:V}{q:Nat}(h:uT m l=some (v,some q)):v.aD=false:=by
 unfold uT at h
 grind
def acv{m:Nat->ah aY}:∀ {cs:aa Lf} {C:aa (V×ah Nat)},rB m cs=some C->(∀ v∈C,v.1.aD=true)->∀ v∈C,v.2=none
 |[],C,h,_=>by injection h with h;subst h;simp
 | c :: cs,C,h,D=>by
  unfold rB at h;split at h
  ·rename_i v L E I;injection h with h;subst h;intro u hu;rcases gf.1 hu with rfl | hu
   ·obtain⟨x,q⟩:=u;cases q with
    |none=>rfl
    |some q=>have:=apd E;rw[D _ (.head _)]at this;cases this
   ·exact acv I (λv J=>D v (.tail _ J)) u hu
  ·cases h
def acw{i:Nat}:∀ (C:aa (V×ah Nat)) (j:Nat),(∀ v∈C,v.2=none) -> DR i j C=[]
 |[],_,_=>rfl
 | (x,q) :: C,j,h=>by
  have:=h _ (.head _);subst this;exact acw C _ (λv D=>h v (.tail _ D))
def V7:∀ (C:aa Nat) (xs:aa V),(∀ x∈xs,x.aD=true)->uW C xs=[]/\tF C xs=[]
 |[],[],_=>⟨rfl,rfl⟩
 |[],_::_,_=>⟨rfl,rfl⟩
 |_::_,[],_=>⟨rfl,rfl⟩
 | n :: C,x :: xs,h=>by
  simp only[uW,tF,h x (.head _),ak];exact V7 C xs (λx D=>h x (.tail _ D))
def D7(ps:aa PK):Bool:=ps.all λp=>match p with
 |.v _ _=>true
 |.p _ g _=>Nat.beq g 0
 |.s _ _=>false
def V8{ns:aa Nat}:∀ (ps:aa PK) (xs:aa Operand) (D:aa Mu) (k:kB ps -> ah X),D7 ps=true -> jr σ ps xs=some D -> iy σ ns ps xs D k=some r -> ∀ (i E c0:Nat) (y:rz (eH ps)),
  (∀p∈kC i D,p.1∈iI σ ps xs)/\nO c0 E D (iR (eH ps) y)=[] /\ ∀(T cn:aa Nat),∀p∈lA T cn c0 E D (iR (eH ps) y),p.1∈iI σ ps xs
 | [],[],D,k,_,C,h=>by
  injection C with C;subst C;intro i E c0 y;exact⟨(λp hp=>by cases hp),by simp[nO],(λ_ _ p hp=>by simp[lA]at hp)⟩
 | .v b t :: ps,x :: xs,D,k,L,C,h=>by
  have sn:jr σ ps xs=some D:=by
   unfold jr at C;split at C
   next mu Q I O=>exact(uV I).elim
   ·grind
   ·cases C
  have sk:D7 ps=true:=by simpa [D7]using L
  unfold iy at h;obtain⟨p,O,_⟩:=ab2 h;cases hb:p.1==b with
  |false=>grind
  | true=>
   rw[hb,ak]at O;split at O
   ·intro i E c0 y;exact V8 ps xs D _ sk sn O i E c0 y
   ·cases O
 | .p t g off :: ps,x :: xs,D,k,L,C,h=>by
  unfold jr at C;split at C
  ·rename_i mu Q I O;injection C with C;subst C;have I:=uV I;cases mu with
   |sl=>exact I.elim
   | aB U cs J=>
    have I:aI σ x = .aG U off/\zd σ (.aB U cs J):=I;have L:Nat.beq g 0=true/\D7 ps=true:=by simpa [D7]using L
    have hg:=cD L.1;subst hg;unfold iy at h;split at h
    ·rename_i z Y;have Y:dec t 0 (J.map (·.1))=some z:=Y;have hw:=lQ t 0 _ z Y;have Z:∀ v∈J,v.1.aD=true:=by
      intro v hv;obtain⟨j,hj⟩:=List.mem_iff_getElem?.1 hv;have N2:(J.map (·.1))[j]?=some v.1:=by rw[dz,hj];rfl
      have v5:j<(enc t 0 z).length:=by rw[<- hw.1];exact(dW.1 N2).1
      have hk:=hw.2 j _ _ N2 (bX v5);have qt:=jB t 0 z (by omega) j _ (bX v5);cases Z:v.1.aD with
      |true=>rfl
      |false=>rw[hk.Vf Z]at qt;cases qt
     have hn:=acv I.2.2.1 Z;intro i E c0 y;obtain⟨k1,k2,k3⟩:=V8 ps xs Q _ L.2 O h (i+1) (E+1+J.length) c0 y.2;have hyf:∀ u∈enc t 0 y.1,u.aD=true:=by
      intro u hu;obtain⟨j,hj⟩:=List.mem_iff_getElem?.1 hu;exact jB t 0 y.1 (by omega) j u hj
     have Bl:iI σ (.p t 0 off::ps) (x::xs)=U::iI σ ps xs:=by simp only[iI,I.1]
     rw[Bl]
     refine⟨λp hp=>?_,?_,λT cn p hp=>?_⟩
     ·simp only[kC,acw J 0 hn,kj]at hp;rcases gf.1 hp with rfl | hp
      ·grind
      ·grind
     ·show uW (mM c0 _ J) _++nO c0 (E+1+J.length) Q _=[]
      rw[(V7 _ _ hyf).1,k2];rfl
     ·have hp:p∈(U,aY.aB (pq T cn (mM c0 (E+1) J) cs (enc t 0 y.1))) :: (tF (mM c0 (E+1) J) (enc t 0 y.1)++lA T cn c0 (E+1+J.length) Q (iR (eH ps) y.2)):=hp;rw[(V7 _ _ hyf).2,kj]at hp;rcases gf.1 hp with rfl | hp
      ·grind
      ·grind
    ·cases h
  next Q I O=>exact(uV I).elim
  ·cases C
 |.s t g::ps,x::xs,D,k,L,C,h=>by simp[D7]at L
 |[],_::_,D,k,_,C,h=>by cases C
 |_::_,[],D,k,_,C,h=>by cases C
def S.N3{ns:aa Nat}{nr:aa (Nat×aY)}(v:A)(h:v.bE ns []=v):(σ.set d v).bE ns [] nr=(σ.bE ns [] nr).set d v:=by
 refine S.ext' (λk=>?_) λ_=>rfl
 show (bW σ.t d v k).bE ns []=bW (λk=>(σ.t k).bE ns []) d v k;by_cases C:k=d
 ·subst C;rw[ck,ck];exact h
 ·rw[cB _ _ _ C,cB _ _ _ C]
def N4{n:Nat}{x:aY}:∀ {l:aa (Nat×aY)},l.lookup n=some x -> (n,x)∈l
 |[],h=>by cases h
 | q :: l,h=>by
  rw[List.lookup_cons]at h;cases hb:n==q.1 with
  |true =>grind
  |false=>rw[hb]at h;exact .tail _ (N4 h)
theorem ape{τ:S}{f:Nat}{args:Array Operand}{jq:Array TypeId}{c:nM}(ho:o.op = .call { callee:=.value (.func f),args,argTypes:=jq })(hc:Φ f=some (.m c))(hfl:NT c=true)(hp:∀ n,dV o n=true -> p n=true/\pb n=true)(Bi:∀ n∈iI σ c.ps args.toList,p n=true)
  (h:dn P N Φ σ o some=some τ):Nonempty (sF P N Φ o p pb σ τ):=by
 have dZ:∀ σ2,dn P N Φ σ2 o some=l6 N σ2 o.dst c args.toList some:=by
  intro σ2;unfold dn;rw[show fJ o.op=false by rw[ho];rfl,au];simp only[hJ,ho,hc]
 rw[dZ]at h;have zw:∀ σ2:S,(∀ x∈o.op.operands,aI σ2 x=aI σ x) -> ∀ x∈args.toList,aI σ2 x=aI σ x:=by
  intro σ2 E x Y;refine E x ?_;rw[ho];simp only[Op.operands,Call.operands];simp only[Array.mem_append]
  first
   |exact .inr (by simpa using Y)
   |exact .inl (by simpa using Y)
 unfold l6 at h;split at h
 ·rename_i Q tG;cases l7:(once (kC 0 Q)&&Nat.ble Q.length 40)with
  |false=>grind
  | true=>
   rw[l7,ak]at h;have apf:=V8 c.ps args.toList Q _ hfl tG h;obtain⟨x,C,hd⟩:=Bp _ _ _ _ h;split at C
   ·rename_i y hy;obtain⟨k1,k2,k3⟩:=apf 0 (fe c.ro y.1).len (iz o.dst) y.2;unfold zf at C;rw[k2]at C;generalize iS:Bd N Q (iR (eH c.ps) y.2) []=ok at C;cases ok with
    |false=>cases C
    | true=>
     rw[ak]at C;generalize AU:(kC 0 Q).map (·.1)=ns at C hd;generalize Hz:lA ns [] (iz o.dst) (fe c.ro y.1).len Q (iR (eH c.ps) y.2)=nr at C;have T:HX p ns nr:=by
      refine⟨λn D=>?_,λn x Y=>?_⟩
      ·rw[<- AU]at D;obtain⟨q,hq,e⟩:=List.mem_map.1 (tE.1 D);rw[<- e]
       grind
      ·rw[<- Hz]at Y;exact Bi _ (k3 ns [] _ (N4 Y))
     have oB:∀ σ2:S,(∀ x∈o.op.operands,aI σ2 x=aI σ x) -> σ2.m=σ.m -> l6 N σ2 o.dst c args.toList some=mN N (σ2.bE ns [] nr) o.dst (fe c.ro y.1) some:=by
      intro σ2 E J;simp only[l6];rw[acu J _ _ (zw σ2 E),tG];simp only[l7,ak];rw[AU,N1 J _ _ _ _ _ (zw σ2 E)];refine(hd S _).trans ?_;simp only[hy,zf,k2,iS,ak,Hz]
     have V9:∀ (σ:S) t r j,σ.t t = .aG r j -> (σ.bE ns [] nr).t t = .aG r j:=by
      intro σ t r j L;show A.bE ns [] _=_;rw[L];rfl
     generalize jO:fe c.ro y.1=res at C oB;cases I:o.dst with
     | none=>
      rw[I]at C;have C:some _=some τ:=C;injection C with C;exact⟨{ G:=λσ=>σ.bE ns [] nr,u:=.undef,eq:=by rw[I];exact C.symm,run:=λσ2 E J=>by rw[dZ,oB σ2 E J,I];rfl,grow:=λσ=>.bE ns nr T (.refl σ),set:=λσ e v O=>S.N3 v (A.D4 O T.ns),bp:=λ_ σ t r j L _=>V9 σ t r j L }⟩
     | some d=>
      rw[I]at C;have Z:∀n,1000000000100000+1000*d <= n -> dV o n=true:=λn D=>by unfold dV;rw[I,ho];exact iD D
      have U:∀n,1000000000100000+1000*d <= n -> p n=true/\pb n=true:=λn D=>hp n (Z n D)
      obtain⟨oh,h3,HD⟩:=ab3 C;injection h3 with h3;subst h3;cases hN:Nat.blt d N with
      |false=>simp only[mN,hN]at C;cases C
      | true=>
       simp only[mN,hN,ak]at C;cases res with
       | one q=>
        simp only at C;split at C
        next u hu=>injection C with C;exact⟨{ G:=λσ=>iH (1000000000100000+1000*d) (σ.bE ns [] nr) q.2,u:=u,eq:=by rw[I];exact C.symm,run:=λσ2 E J=>by rw[dZ,oB σ2 E J,I];simp only[mN,hN,ak,hu];rfl,grow:=λσ=>(gL.bE ns nr T (.refl σ)).trans (wQ q.2 _ _ U),set:=λσ e v O=>by rw[S.N3 v (A.D4 O T.ns),DZ v q.2 _ _ λn D=>A.sE O (U n D).1 (U n D).2],bp:=λ_ σ t r j L hr=>(wQ (p:=dV o) (pb:=dV o) q.2 _ _ (λn D=>⟨Z n D,Z n D⟩)).bp (V9 σ t r j L) hr }⟩
        ·cases C
       | cR ps=>
        injection C with C;exact⟨{ G:=λσ=>lz (1000000000100000+1000*d) (σ.bE ns [] nr) ps,u:=_,eq:=by rw[I];exact C.symm,run:=λσ2 E J=>by rw[dZ,oB σ2 E J,I];simp only[mN,hN,ak];rfl,grow:=λσ=>(gL.bE ns nr T (.refl σ)).trans (BA ps _ _ U),set:=λσ e v O=>by rw[S.N3 v (A.D4 O T.ns),NG v ps _ _ λn D=>A.sE O (U n D).1 (U n D).2],bp:=λ_ σ t r j L hr=>(BA (p:=dV o) (pb:=dV o) ps _ _ (λn D=>⟨Z n D,Z n D⟩)).bp (V9 σ t r j L) hr }⟩
   ·cases C
 ·cases h
def Calm(Φ:eo)(ok:Nat->Nat->Bool)(rG mQ p pb:Nat->Bool)(σ:S)(o:Oper):Prop:=
 NS Φ o.op=true\/(∃f args D c,o.op = .call { callee:=.value (.func f),args:=args,argTypes:=D }/\Φ f=some (.m c)/\NT c=true/\sC ok σ c.ps args.toList=true/\∀n∈iI σ c.ps args.toList,p n=true)\/
 (∃ty t y,o.op = .store ty (.tmp t) y/\o.dst=none/\rG t=true/\iA p (σ.t t))\/
 ∃x y t C,o.op = .call ⟨.builtin .append,⟨[.tmp x,y]⟩,⟨[t,C]⟩⟩/\mQ x=true/\(oz t=false/\Nat.beq t C=true/\Bt o.dst t (.tmp x)=false)/\mc p pb (σ.t x)
theorem apg{T:S}{ty:TypeId}{t:Tmp}{y:Operand}(I:o.op = .store ty (.tmp t) y)(Q:o.dst=none)(C:iA p (σ.t t))(h:dn P N Φ σ o some=some T):Nonempty (sF P N Φ o p pb σ T):=by
 have Hw:∀ (x:A) (z:A),(∀ k,x ≠ .ptr k) -> uY x z=false:=by
  intro x z E;unfold uY;split
  ·grind
  ·rfl
 have U:∀ σ2:S,(∀ k,σ2.t t ≠ .ptr k) -> dn P N Φ σ2 o some=nJ P σ2 ty (σ2.t t) (aI σ2 y) some:=by
  intro σ2 N5;unfold dn;rw[show fJ o.op=false by rw[I];rfl,au];simp only[hJ,I,Q];rw[show uY (aI σ2 (.tmp t)) (aI σ2 y)=false from Hw _ _ N5,au];rfl
 rw[U σ (λk J=>by rw[J]at C;exact C)]at h;cases E:σ.t t with
 | aG D j=>
  rw[E]at h C;have hp:p D=true:=C;have key:∃ x,∀ σ2:S,σ2.m=σ.m -> ∀ v,v=aI σ y -> nJ P σ2 ty (.aG D j) v some=some (σ2.root D x):=by
   unfold nJ at h;split at h
   ·rename_i n xs hn qY;split at h
    ·rename_i hlen;simp only at h;split at h
     ·rename_i cs jN;split at h
      ·rename_i hj;cases hl:xs.all Lf.live with
       |false=>grind
       | true=>
        refine⟨.aB (splice cs j xs),λσ2 L v Y=>?_⟩
        subst Y;simp only[nJ,hn,qY,bA hlen,L,jN,bA hj,hl,ak];simp only[S.root,L]
      ·cases h
     ·cases h
    ·cases h
   ·cases h
  obtain⟨x,Z⟩:=key;have O:=Z σ rfl _ rfl;rw[h]at O;injection O with O
  refine⟨{ G:=λσ=>σ.root D x,u:=.undef,eq:=by rw[Q];exact O,run:=λσ2 vb L=>?_,grow:=λσ=>.rt D x hp (.refl σ),set:=λσ d v Y=>rfl,bp:=λ_ σ t r j ht _=>ht }⟩
  have e1:σ2.t t = .aG D j:=(vb (.tmp t) (by rw[I];simp[Op.operands])).trans E;rw[U σ2 (λk J=>by rw[e1]at J;cases J),e1,Z σ2 L _ (vb y (by rw[I];simp[Op.operands])),Q];rfl
 |ptr k=>rw[E]at C;exact C.elim
 | _=>
  rw[E]at h;exfalso;revert h;unfold nJ;split
  ·grind
  ·grind
def cT(e:Nat)(x:aY)(u:A)(σ:S):S:=((σ.drop e).root e x).set e u
def nS(e:Nat)(u:A):Prop:=u = .aG e 0\/u = .lf (.own [e])
structure pG (x:aY):Prop where
 drop:∀n,x.drop n=x
 bE:∀ns cn,x.bE ns cn=x
def acy(h:va o=true):∃ t,∃ e:Nat,o.op = .alloc t/\o.guard=none/\o.dst=some e/\e<20000:=by
 unfold va at h;rw[aO,aO]at h;obtain⟨⟨C,E⟩,D⟩:=h;split at C
 ·rename_i t I;split at D
  ·simp_all
  ·cases D
 ·cases C
def aph{ops:Array Oper}{t:TypeId}{e:Nat}(C:o.op = .alloc t)(J:o.guard=none)(L:o.dst=some e){D:S}(h:dw P N Φ ops σ o some=some D):∃ x,pG x/\D=cT e x (.aG e 0) σ /\ ∀ σ2,dw P N Φ ops σ2 o some=some (cT e x (.aG e 0) σ2):=by
 have E:∀ σ2,dw P N Φ ops σ2 o some=sq P N σ2 e t some:=by
  intro σ2;unfold dw fK;rw[J];unfold dn;rw[show fJ o.op=false by rw[C];rfl,au];simp[hJ,C,eN,L]
 rw[E]at h;unfold sq at h;split at h
 ·rename_i z O;unfold iw at h;cases I:Nat.blt e N with
  |false=>simp_all
  | true=>
   rw[I,ak]at h;injection h with h;have Q:∀(n:Nat) v,(iG v).drop n=iG v:=λn v=>by unfold iG;split<;>rfl
   have T:∀(ns cn:aa Nat) v,(iG v).bE ns cn=iG v:=λns cn v=>by unfold iG;split<;>rfl
   refine⟨.aB (z.cells.toList.map iG),⟨λn=>?_,λns cn=>?_⟩,h.symm,λσ2=>(E σ2).trans ?_⟩
   ·simp only[aY.drop,List.map_map];simp_all
   ·simp only[aY.bE,List.map_map];simp_all
   ·unfold sq iw;rw[O,I];rfl
 ·cases h
def HY{σ2:S}:∀ (ps:aa PK) (xs:aa Operand),(∀ x∈xs,aI σ2 x=aI σ x) -> iI σ2 ps xs=iI σ ps xs
 |[],[],_=>rfl
 |[],_::_,_=>rfl
 |.v _ _::_,[],_=>rfl
 |.p _ _ _::_,[],_=>rfl
 |.s _ _::_,[],_=>rfl
 |.v _ _::ps,x::xs,h=>by simp[iI];exact HY ps xs (λy C=>h y (.tail _ C))
 |.s _ _::ps,x::xs,h=>by simp only[iI];exact HY ps xs (λy C=>h y (.tail _ C))
 | .p _ _ _ :: ps,x :: xs,h=>by
  simp only[iI];rw[h x (.head _),HY ps xs (λy C=>h y (.tail _ C))]
def Wa{ok:Nat -> Nat -> Bool}{σ2:S}(D:∀ t r j,σ.t t = .aG r j -> ok t r=true -> σ2.t t = .aG r j):∀ (ps:aa PK) (xs:aa Operand),sC ok σ ps xs=true -> sC ok σ2 ps xs=true/\iI σ2 ps xs=iI σ ps xs
 |[],[],_=>⟨rfl,rfl⟩
 | .v _ _ :: ps,x :: xs,h=>by
  exact Wa D ps xs h
 | .p _ _ _ :: ps,x :: xs,h=>by
  cases x with
  | tmp t=>
   simp[sC,aO]at h;obtain⟨C,I⟩:=h;obtain⟨J,L⟩:=Wa D ps xs I;split at C
   ·rename_i O j E;have e:=D t O j E C;refine⟨?_,?_⟩
    ·simp only[sC,aO];exact⟨by rw[e];exact C,J⟩
    ·simp only[iI,aI,e,E,L]
   ·cases C
  |const v=>simp[sC]at h
  |global g=>simp[sC]at h
  |func f=>simp[sC]at h
def Calm.fV{ok:Nat->Nat->Bool}{rG mQ:Nat->Bool}{σ2:S}(h:Calm Φ ok rG mQ p pb σ o)(J:∀ t r j,σ.t t = .aG r j->ok t r=true->σ2.t t = .aG r j)(L:∀ t,rG t=true->iA p (σ.t t)->iA p (σ2.t t))(O:∀ t,mQ t=true->mc p pb (σ.t t)->mc p pb (σ2.t t)):Calm Φ ok rG mQ p pb σ2 o:=by
 rcases h with h|⟨f,args,Q,c,E,C,D,I,T⟩|⟨ty,t,y,E,C,D,I⟩|⟨x,y,t,U,E,C,Y,D⟩
 ·exact .inl h
 ·obtain⟨Z,k2⟩:=Wa J _ _ I;exact .inr (.inl ⟨f,args,Q,c,E,C,D,Z,by rw[k2];exact T⟩)
 ·exact .inr (.inr (.inl ⟨ty,t,y,E,C,D,L t D I⟩))
 ·exact .inr (.inr (.inr ⟨x,y,t,U,E,C,Y,O x C D⟩))
def N6{ops:Array Oper}(Q:oA o=true)(T:fK σ ops o=some true){τ:S}(h:dw P N Φ ops σ o some=some τ):∃ (e:Nat) (x:aY) (u:A),o.dst=some e/\e<20000/\pG x/\nS e u/\τ=cT e x u σ /\
  ∀σ2,fK σ2 ops o=some true -> (∀y∈o.op.operands,aI σ2 y=aI σ y) -> dw P N Φ ops σ2 o some=some (cT e x u σ2):=by
 have U:fJ o.op=false -> ∀ σ2,fK σ2 ops o=some true -> dw P N Φ ops σ2 o some=hJ P N Φ σ2 o some:=by
  intro hv σ2 J;unfold dw;rw[J];unfold dn;simp_all
 have bsl:∀y:V,pG (.sl y):=λy=>⟨λ_=>rfl,λ_ _=>rfl⟩
 unfold oA at Q;rw[aO]at Q;obtain⟨Y,Z⟩:=Q;split at Z
 ·rename_i e D;have ei:e<20000:=cL Z;split at Y
  ·rename_i t C;have E:=U (by rw[C];rfl);rw[E σ T]at h;simp only[hJ,C,eN,D]at h;unfold sq at h;split at h
   ·rename_i z hz;unfold iw at h;cases hN:Nat.blt e N with
    |false=>simp_all
    | true=>
     rw[hN,ak]at h;injection h with h;have I:∀(n:Nat) v,(iG v).drop n=iG v:=λn v=>by unfold iG;split<;>rfl
     have L:∀(ns cn:aa Nat) v,(iG v).bE ns cn=iG v:=λns cn v=>by unfold iG;split<;>rfl
     refine⟨e,.aB (z.cells.toList.map iG),.aG e 0,D,ei,⟨λn=>?_,λns cn=>?_⟩,.inl rfl,h.symm,λσ2 J _=>(E σ2 J).trans ?_⟩
     ·simp only[aY.drop,List.map_map];simp_all
     ·simp only[aY.bE,List.map_map];simp_all
     ·simp[hJ,C,eN,D];unfold sq iw;rw[hz,hN];rfl
   ·cases h
  ·rename_i t len parts C;have E:=U (by rw[C];rfl);rw[E σ T]at h;have hn:oz t=false:=by simpa using Y
   simp only[hJ,C,eN,D,hn,au]at h;obtain⟨y,I,L⟩:=VA h;injection I with I
   refine⟨e,.sl y,.lf (.own [e]),D,ei,bsl y,.inr rfl,I.symm,λσ2 J O=>(E σ2 J).trans ?_⟩
   simp only[hJ,C,eN,D,hn,au]
   refine(L σ2 λq hq=>O _ ?_).at_ _
   rw[C];simp only[Op.operands];exact List.mem_toArray.2 (List.mem_map_of_mem (f:=(·.2)) hq)
  ·rename_i t l c C;have E:=U (by rw[C];rfl);rw[E σ T]at h;simp only[hJ,C,eN,D]at h;obtain⟨y,I,L⟩:=Vz h;injection I with I
   refine⟨e,.sl y,.lf (.own [e]),D,ei,bsl y,.inr rfl,I.symm,λσ2 J O=>(E σ2 J).trans ?_⟩
   simp only[hJ,C,eN,D];rw[O l (by rw[C];simp[Op.operands]),O c (by rw[C];simp[Op.operands])];exact(L σ2).at_ _
  ·cases Y
 ·cases Z
def N7{d:Nat}{t:TypeId}{y z:A}{Q:S}(h:qe P N σ d t y z some=some Q):∃ (r:Nat) (v:V),Q=((σ.drop r).root r (.sl v)).set d (.lf (.own [r]))/\(r=d \/ y = .lf (.own [r])) /\
  ∀σ2:S,(∀(k:V -> ah S),qa σ2 z k=qa σ z k) -> (∀r v,y = .lf (.own [r]) -> σ.m r=some (.sl v) -> σ2.m r=some (.sl v)) -> qe P N σ2 d t y z some=some (((σ2.drop r).root r (.sl v)).set d (.lf (.own [r]))):=by
 unfold qe at h;split at h
 ·rename_i e I T;cases J:(Nat.beq (full I) 0&&(zeroOf P e).any (λz=>Nat.beq z.cells.size (aF I)))with
  |false=>simp_all
  | true=>
   rw[J,ak]at h;obtain⟨yv,C,U⟩:=Vx h;clear h;split at C
   ·cases C
   ·rename_i l2 Y;split at C
    ·cases E:bC l2.length with
     |false=>simp_all
     | true=>
      rw[E,ak]at C;cases L:Nat.blt d N with
      |false=>unfold iw at C;rw[L]at C;cases C
      | true=>
       have D:=C;unfold iw at D;rw[L,ak]at D;injection D with D
       refine⟨d,.sl I 2 false l2,D.symm,.inl rfl,λσ2 O Z=>?_⟩
       simp only[qe,T,J,ak];refine(O _).trans ((U.at_ _).trans ?_);simp only[Y,E,ak];unfold iw;rw[L,ak]
    ·rename_i rr;split at C
     ·rename_i t' o q l hm;split at C
      ·rename_i lX;cases E:(Nat.blt d N&&(Nat.blt rr N || Nat.ble 60000 rr)&&bC (l.length+l2.length))with
       |false=>simp_all
       | true=>
        rw[E,ak]at C;injection C with C
        refine⟨rr,_,C.symm,.inr rfl,λσ2 O Z=>?_⟩
        simp only[qe,T,J,ak];refine(O _).trans ((U.at_ _).trans ?_)
        grind
      ·cases C
     ·cases C
    ·cases C
 ·cases h
def Wb(h:isApp o=true):∃ x y t C,o.op = .call ⟨.builtin .append,⟨[x,y]⟩,⟨[t,C]⟩⟩/\oz t=false/\Nat.beq t C=true/\Bt o.dst t x=false:=by
 unfold isApp at h
 grind
def HZ{x y:Operand}{t D:TypeId}(E:o.op = .call ⟨.builtin .append,⟨[x,y]⟩,⟨[t,D]⟩⟩)(I:oz t=false)(J:Nat.beq t D=true)(C:Bt o.dst t x=false)(σ:S):dn P N Φ σ o some=eN o λd=>qe P N σ d t (aI σ x) (aI σ y) some:=by
 unfold dn;rw[show fJ o.op=false by rw[E];rfl];simp[hJ,E,I,J,ak];unfold eN;cases L:o.dst with
 |none=>rfl
 | some d=>
  rw[L]at C;have C:HM t d x=false:=C;simp_all
theorem api{O:S}{x:Tmp}{y:Operand}{t Q:TypeId}(C:o.op = .call ⟨.builtin .append,⟨[.tmp x,y]⟩,⟨[t,Q]⟩⟩)(E:oz t=false)(I:Nat.beq t Q=true)(J:Bt o.dst t (.tmp x)=false)(Z:∀ n,dV o n=true->p n=true/\pb n=true)(ld:mc p pb (σ.t x))(h:dn P N Φ σ o some=some O):Nonempty (sF P N Φ o p pb σ O):=by
 rw[HZ C E I J]at h;obtain⟨d,L,h⟩:=gk h;obtain⟨r,v,js,hr,oB⟩:=N7 h;have D:p r=true/\pb r=true:=by
  rcases hr with hr|hr
  ·rw[hr];exact Z d (by unfold dV;rw[L,C];exact Nat.beq_refl d)
  ·exact ld r hr
 refine⟨{ G:=λσ=>(σ.drop r).root r (.sl v),u:=.lf (.own [r]),eq:=by rw[L];exact js,run:=λσ2 T U=>?_,grow:=λσ=>.root r _ D.1 D.2 (.refl σ),set:=λσ e v' hv=>(by rw[S.drop_set r (A.sE hv D.1 D.2)];rfl),bp:=λY=>(by rw[isApp,C]at Y;simp[E,I,J]at Y) }⟩
 rw[HZ C E I J];unfold eN;rw[L];simp only;rw[T (.tmp x) (by rw[C];simp[Op.operands,Call.operands]),T y (by rw[C];simp[Op.operands,Call.operands]),oB σ2 (λk=>aoT U _ k) (λr' v' _ h'=>by rw[U];exact h')];rfl
theorem apj[Inhabited Wd](fL:fQ P Φ){ok:Nat -> Nat -> Bool}{rG mQ mR:Nat -> Bool}(hX:∀ x,mR x=true -> iA p (σ.t x)){ops:Array Oper}{oi D:Oper}{v:A}{τ:S}(hF:mT P ops oi p pb v σ)(ha:oi.apart ops D=true)(J:Calm Φ ok rG mQ p pb σ D)(hp:∀ n,dV D n=true -> p n=true/\pb n=true)
  (h:dw P N Φ ops (fX σ oi.dst v) D some=some τ):∃ O,dw P N Φ ops σ D some=some O/\τ=fX O oi.dst v/\mT P ops oi p pb v O/\(isApp D=false -> ∀ t r j,σ.t t = .aG r j -> D.dst≠some t -> dV D r=false -> O.t t = .aG r j) /\
   (∀t,iA p (σ.t t) -> (D.dst≠some t \/ (va D=true/\p t=true) \/ ∃s x f,D.op = .fieldAddr s (.tmp x) f/\mR x=true) -> iA p (O.t t)) /\
   ∀t,mc p pb (σ.t t) -> (D.dst≠some t \/ (oA D=true/\p t=true/\pb t=true) \/ (isApp D=true \/ zo Φ D=true)) -> mc p pb (O.t t):=by
 obtain⟨a1,a2,a3⟩:=Oper.apart_spec ha;have D8:∀ (σ:S) (u:A) t,D.dst≠some t -> (fX σ D.dst u).t t=σ.t t:=by
  intro σ u t J;cases L:D.dst with
  |none=>rfl
  |some d=>exact cB _ _ _ (by rintro rfl;exact J L)
 have D9:∀ O,dw P N Φ ops σ D some=some O -> ∀ t,va D=true -> D.dst=some t -> p t=true -> iA p (O.t t):=by
  intro O C t D9 L VN;obtain⟨ty,e,E,Q,h3,_⟩:=acy D9;rw[h3]at L;injection L with L;subst L;obtain⟨x,_,e1,_⟩:=aph E Q h3 C;rw[e1];show iA p (bW _ e _ e);rw[ck];exact VN
 have fin:∀ O,dw P N Φ ops σ D some=some O -> (∀ t,D.dst≠some t -> iA p (σ.t t) -> iA p (O.t t)) -> ∀ t,iA p (σ.t t) -> (D.dst≠some t \/ (va D=true/\p t=true) \/ ∃ s x f,D.op = .fieldAddr s (.tmp x) f/\mR x=true) -> iA p (O.t t):=by
  intro O C hk t J Wc;rcases Wc with Y|⟨E,Q⟩|⟨s,x,f,E,Q⟩
  ·exact hk t Y J
  ·by_cases L:D.dst=some t
   ·exact D9 O C t E L Q
   ·exact hk t L J
  ·by_cases L:D.dst=some t
   ·unfold dw at C;split at C
    ·unfold dn at C;rw[show fJ D.op=true by rw[E];rfl,ak]at C;rw[E]at C;simp only[ep]at C;have hx:=hX x Q;have hx:iA p (aI σ (.tmp x)):=hx;generalize aI σ (.tmp x)=z at hx C;have key:∀ v,iu N σ D.dst v some=some O -> iA p v -> iA p (O.t t):=by
      intro v hv hA;obtain⟨I,_⟩:=jT hv;injection I with I;rw[<- I,L];show iA p (bW σ.t t v t);rw[ck];exact hA
     unfold uL at C;split at C
     ·cases C
     ·split at C
      ·split at C
       ·exact key _ C hx
       ·exact key _ C trivial
       ·exact hx.elim
       ·cases C
      ·cases C
    ·obtain⟨I,_⟩:=jT C;injection I with I;rw[<- I,L];show iA p (bW σ.t t .skip t);rw[ck];trivial
    ·cases C
   ·exact hk t L J
 have apk:=J;have acz:∀ O,dw P N Φ ops σ D some=some O -> (∀ t,D.dst≠some t -> mc p pb (σ.t t) -> mc p pb (O.t t)) -> ∀ t,mc p pb (σ.t t) -> (D.dst≠some t \/ (oA D=true/\p t=true/\pb t=true) \/ (isApp D=true \/ zo Φ D=true)) -> mc p pb (O.t t):=by
  intro O C hk t J Wc;rcases Wc with Y|⟨E,Q⟩|apl|BB
  ·exact hk t Y J
  ·by_cases L:D.dst=some t
   ·cases Z:fK σ ops D with
    |none=>unfold dw at C;rw[Z]at C;cases C
    | some b=>
     cases b with
     | true=>
      obtain⟨e,x,u,I,g2,g3,g4,g5,_⟩:=N6 E Z C;rw[L]at I;injection I with I;subst I;rw[g5];intro r hr;have hr:bW _ t u t = .lf (.own [r]):=hr;rw[ck]at hr;rcases g4 with g4|g4
      ·rw[g4]at hr;cases hr
      ·rw[g4]at hr;injection hr with hr;injection hr with hr;injection hr with hr
       grind
     | false=>
      unfold dw at C;rw[Z]at C;obtain⟨I,_⟩:=jT C;injection I with I;rw[<- I,L];intro r hr;have hr:bW σ.t t .skip t = .lf _:=hr;rw[ck]at hr;cases hr
   ·exact hk t L J
  ·by_cases L:D.dst=some t
   ·obtain⟨x,y,t1,t2,I,g2,g3,g4⟩:=Wb apl;have hT:mc p pb (aI σ x):=by
     rcases apk with q|⟨f,args,jq,c,T,_⟩|⟨ty,tt,yy,T,_⟩|⟨x',y',t1',t2',T,q2,q3,q4⟩
     ·rw[I]at q;cases q
     ·rw[I]at T;cases T
     ·rw[I]at T;cases T
     ·rw[I]at T;injection T with T;injection T with _ T _;injection T with T;injection T with T _;subst T;exact q4
    cases Z:fK σ ops D with
    |none=>unfold dw at C;rw[Z]at C;cases C
    | some b=>
     cases b with
     | true=>
      unfold dw at C;rw[Z]at C;have C:dn P N Φ σ D some=some O:=C;rw[HZ I g2 g3 g4]at C;obtain⟨d,tL,C⟩:=gk C;rw[L]at tL;injection tL with tL;subst tL;obtain⟨r,v,js,hr,_⟩:=N7 C;rw[js];intro r' gY;have gY:bW ((σ.drop r).root r (.sl v)).t t (.lf (.own [r])) t = .lf (.own [r']):=gY;rw[ck]at gY;injection gY with gY;injection gY with gY;injection gY with gY;subst gY;rcases hr with hr|hr
      ·rw[hr];exact hp t (by unfold dV;rw[L,I];exact Nat.beq_refl t)
      ·exact hT r hr
     | false=>
      unfold dw at C;rw[Z]at C;obtain⟨I,_⟩:=jT C;injection I with I;rw[<- I,L];intro r hr;have hr:bW σ.t t .skip t = .lf _:=hr;rw[ck]at hr;cases hr
   ·exact hk t L J
  ·by_cases L:D.dst=some t
   ·cases Z:fK σ ops D with
    |none=>unfold dw at C;rw[Z]at C;cases C
    | some b=>
     cases b with
     | true=>
      unfold dw at C;rw[Z]at C;have C:dn P N Φ σ D some=some O:=C;unfold zo at BB;split at BB
      ·rename_i f args jq ho;split at BB
       ·rename_i c hc;unfold dn at C;rw[show fJ D.op=false by rw[ho];rfl,au]at C;simp only[hJ,ho,hc]at C;obtain⟨d,tL,C⟩:=gk C;rw[L]at tL;injection tL with tL;subst tL;obtain⟨res,oh,E,Q,_⟩:=HG (fL f _ hc).2 C;injection Q with Q;subst Q;have qj:∀ n,1000000000100000+1000*t <= n -> p n=true/\pb n=true:=λn hn=>hp n (by unfold dV;rw[L,ho];exact iD hn)
        intro r hr;unfold pz at E;cases res with
        | one q=>
         simp only at E;split at E
         ·rename_i y U;injection E with E;rw[<- E]at hr;have hr:bW _ t y t=A.lf (Lf.own [r]):=hr;rw[ck]at hr;subst hr;obtain⟨b,vs⟩:=q;cases b with
          |true=>cases U
          | false=>
           match vs,U with
           | [v],U=>
            have U:some (A.lf (bif v.aD then Lf.v v else Lf.own [1000000000100000+1000*t]))=some (A.lf (Lf.own [r])):=U;injection U with U;injection U with U;cases hf:v.aD with
            |true=>rw[hf]at U;cases U
            | false=>
             rw[hf]at U;injection U with U;injection U with U
             grind
         ·cases E
        | cR ps=>
         injection E with E;rw[<- E]at hr;have hr:bW _ t _ t=A.lf (Lf.own [r]):=hr;rw[ck]at hr;cases hr
       ·cases BB
      ·cases BB
     | false=>
      unfold dw at C;rw[Z]at C;obtain⟨I,_⟩:=jT C;injection I with I;rw[<- I,L];intro r hr;have hr:bW σ.t t .skip t = .lf _:=hr;rw[ck]at hr;cases hr
   ·exact hk t L J
 unfold dw at h;rw[apa a1]at h;split at h
 ·rename_i Z;have apm:Nonempty (sF P N Φ D p pb (fX σ oi.dst v) τ):=by
   rcases J with J|⟨f,args,jq,c,E,Q,h3,h4,h5⟩|⟨ty,t,y,E,Q,h3,h4⟩|⟨x,y,t1,t2,E,Q,hn,h3⟩
   ·exact ao7 fL J hp h
   ·refine ape E Q h3 hp ?_ h;rw[HY]
    ·exact h5
    ·intro x hx;refine N0 a1 v ?_;rw[E];simp only[Op.operands,Call.operands];simp only[Array.mem_append]
     first
      |exact .inr (by simpa using hx)
      |exact .inl (by simpa using hx)
   ·refine apg E Q ?_ h;have e1:aI (fX σ oi.dst v) (.tmp t)=aI σ (.tmp t):=N0 a1 v (by rw[E];simp[Op.operands]);have e1:(fX σ oi.dst v).t t=σ.t t:=e1;rw[e1];exact h4
   ·refine api E hn.1 hn.2.1 hn.2.2 hp ?_ h;have e1:aI _ (.tmp x)=aI σ _:=N0 a1 v (by rw[E];simp[Op.operands,Call.operands]);have e1:(fX σ _ v).t x=σ.t x:=e1;simp_all
  obtain⟨G,u,e,hr,hg,hs,hbp⟩:=apm;have rH:dw P N Φ ops σ D some=some (fX (G σ) D.dst u):=by
   unfold dw;rw[Z];exact hr σ (λx hx=>(N0 a1 v hx).symm) (ao9 _ _).symm
  refine⟨fX (G σ) D.dst u,rH,?_,(hF.grow (hg σ)).put a3,λBE t r j J Y qj=>?_,fin _ rH λt Y J=>?_,acz _ rH λt Y J=>?_⟩
  ·refine e.trans ?_;have:∀ dst,G (fX σ dst v)=fX (G σ) dst v:=by
    intro dst;cases dst with
    |none=>rfl
    |some d=>exact hs σ d v hF.nr
   rw[this];exact acr _ _ a2
  ·rw[D8 _ _ t Y];exact hbp BE σ t r j J qj
  ·rw[D8 _ _ t Y];exact(hg σ).st J
  ·rw[D8 _ _ t Y];exact(hg σ).tg J
 ·rename_i Z;obtain⟨E,Q⟩:=jT h;injection E with E;have rH:dw P N Φ ops σ D some=some (fX σ D.dst .skip):=by
   unfold dw;rw[Z];exact(Q σ).at_ _
  exact⟨fX σ D.dst .skip,rH,by rw[<- E];exact acr _ _ a2,hF.put a3,λ_ t r j J Y _=>(by rw[D8 _ _ t Y];exact J),fin _ rH λt Y J=>(by rw[D8 _ _ t Y];exact J),acz _ rH λt Y J=>(by rw[D8 _ _ t Y];exact J)⟩
 ·cases h
def Any(P:Program)(N:Nat)(Φ:eo)(ops:Array Oper)(K:S->Prop):Nat->Nat->S->Prop
 |0,L,σ=>(∀j,l9 ops L j=false)/\K σ
 |f+1,L,σ=>((∀j,l9 ops L j=false)->K σ)/\∀j,l9 ops L j=true->∃o C,ops[j]?=some o/\dw P N Φ ops σ o some=some C/\Any P N Φ ops K f (L |||2 ^ j) C
def zx(L i j:Nat):(L ||| 2 ^ i).testBit j=(L.testBit j || decide (i=j)):=by
 rw[Nat.testBit_or,Nat.testBit_two_pow]
def H6{ops:Array Oper}{L j:Nat}:l9 ops L j=true ↔ L.testBit j=false /\ ∃ o,ops[j]?=some o /\ ∀ e∈o.after,Region.binds .any e=true -> L.testBit e.on=true:=by
 unfold l9
 grind
def We{ops:Array Oper}{L i j:Nat}(h:l9 ops L j=true)(C:j≠i):l9 ops (L ||| 2 ^ i) j=true:=by
 rw[H6]at h ⊢
 grind
def mT.step{ops:Array Oper}{C:Oper}{v:A}(I:mT P ops C p pb v σ)(J:∀ σ:S,iu N σ C.dst v some=some (fX σ C.dst v)):dw P N Φ ops σ C some=some (fX σ C.dst v):=by
 unfold dw;rcases I with ⟨D,E,L,_,_,_⟩|⟨D,E⟩
 ·rw[D];unfold dn;rw[E,ak];exact(L.at_ _).trans (J σ)
 ·simp_all
def Wf{K:S -> Prop}{ops:Array Oper}{i W:Nat}{Q:Oper}(hi:ops[i]?=some Q)(hW:∀ j C,ops[j]?=some C -> W.testBit j=true -> ∃ e∈C.after,Region.binds .any e=true/\(e.on=i \/ W.testBit e.on=true))(E:S -> S)(I:Nat -> S -> Prop)
  (r1:∀L σ,I L σ -> dw P N Φ ops σ Q some=some (E σ))
  (r2:∀L σ j C T,I L σ -> ops[j]?=some C -> j≠i -> L.testBit j=false -> W.testBit j=false -> dw P N Φ ops (E σ) C some=some T -> ∃J,dw P N Φ ops σ C some=some J/\T=E J/\I (L |||2 ^ j) J):
  ∀(f L:Nat) (σ:S),(∀j,W.testBit j=true -> L.testBit j=false) -> l9 ops L i=true -> I L σ -> Any P N Φ ops K f (L |||2 ^ i) (E σ) -> Any P N Φ ops K (f+1) L σ:=by
 intro f
 induction f with
 | zero=>
  intro L σ vc O U H
  refine⟨λh=>absurd (h i) (by rw[O];simp),λj Y=>?_⟩
  by_cases D:j=i
  ·subst D;exact⟨Q,_,hi,r1 L σ U,H⟩
  ·have:=We Y D;rw[H.1]at this;cases this
 | succ f ih=>
  intro L σ vc O U H
  refine⟨λh=>absurd (h i) (by rw[O];simp),λj Y=>?_⟩
  by_cases D:j=i
  ·subst D;exact⟨Q,_,hi,r1 L σ U,H⟩
  ·obtain⟨C,T,Z,js,H'⟩:=H.2 j (We Y D);obtain⟨Ea,oj',N8,oB⟩:=H6.1 Y;rw[Z]at N8;injection N8 with N8;subst N8;have zy:W.testBit j=false:=by
    cases zy:W.testBit j with
    |false=>rfl
    | true=>
     obtain⟨e,he,hb,l7⟩:=hW j C Z zy;have h1:=oB e he hb;rcases l7 with l7|l7
     ·rw[l7,(H6.1 O).1]at h1;cases h1
     ·rw[vc _ l7]at h1;cases h1
   obtain⟨J,hs,zz,hI'⟩:=r2 L σ j C T U Z D Ea zy js
   refine⟨C,J,Z,hs,ih (L |||2 ^ j) J (λk hk=>?_) (We O (Ne.symm D)) hI' ?_⟩
   ·grind
   ·rw[<- zz]
    grind
theorem apn[Inhabited Wd](fL:fQ P Φ){ok:Nat -> Nat -> Bool}{rG mQ mR:Nat -> Bool}{K:S -> Prop}{ops:Array Oper}{i W:Nat}{I:Oper}{v:A}(hi:ops[i]?=some I)(hN:∀ σ:S,iu N σ I.dst v some=some (fX σ I.dst v))
  (hW:∀j C,ops[j]?=some C -> W.testBit j=true -> ∃e∈C.after,Region.binds .any e=true/\(e.on=i \/ W.testBit e.on=true)) (f L:Nat) (σ:S)
  (iS:∀t r,ok t r=true -> ∀j C,ops[j]?=some C -> j≠i -> L.testBit j=false -> W.testBit j=false -> C.dst≠some t/\dV C r=false/\isApp C=false)
  (Y:∀x,mR x=true -> ∀j C,ops[j]?=some C -> j≠i -> L.testBit j=false -> W.testBit j=false -> C.dst≠some x) (Z:∀x,mR x=true -> iA p (σ.t x))
  (N9:∀t,rG t=true -> ∀j C,ops[j]?=some C -> j≠i -> L.testBit j=false -> W.testBit j=false -> C.dst≠some t \/ (va C=true/\p t=true) \/ ∃s x f,C.op = .fieldAddr s (.tmp x) f/\mR x=true)
  (Oa:∀t,mQ t=true -> ∀j C,ops[j]?=some C -> j≠i -> L.testBit j=false -> W.testBit j=false -> C.dst≠some t \/ (oA C=true/\p t=true/\pb t=true) \/ (isApp C=true \/ zo Φ C=true))
  (BF:∀j C,ops[j]?=some C -> j≠i -> L.testBit j=false -> W.testBit j=false -> I.apart ops C=true/\Calm Φ ok rG mQ p pb σ C /\ ∀n,dV C n=true -> p n=true/\pb n=true)
  (vc:∀j,W.testBit j=true -> L.testBit j=false) (hr:l9 ops L i=true) (hF:mT P ops I p pb v σ) (H:Any P N Φ ops K f (L |||2 ^ i) (fX σ I.dst v)):Any P N Φ ops K (f+1) L σ:=by
 refine Wf hi hW (λσ=>fX σ I.dst v)
  (λL σ=>mT P ops I p pb v σ/\(∀ t r,ok t r=true -> ∀ j C,ops[j]?=some C -> j≠i -> L.testBit j=false -> W.testBit j=false -> C.dst≠some t/\dV C r=false/\isApp C=false) /\
   ((∀x,mR x=true -> ∀j C,ops[j]?=some C -> j≠i -> L.testBit j=false -> W.testBit j=false -> C.dst≠some x) /\ ∀x,mR x=true -> iA p (σ.t x)) /\
   (∀t,rG t=true -> ∀j C,ops[j]?=some C -> j≠i -> L.testBit j=false -> W.testBit j=false -> C.dst≠some t \/ (va C=true/\p t=true) \/ ∃s x f,C.op = .fieldAddr s (.tmp x) f/\mR x=true) /\
   (∀t,mQ t=true -> ∀j C,ops[j]?=some C -> j≠i -> L.testBit j=false -> W.testBit j=false -> C.dst≠some t \/ (oA C=true/\p t=true/\pb t=true) \/ (isApp C=true \/ zo Φ C=true)) /\
   ∀j C,ops[j]?=some C -> j≠i -> L.testBit j=false -> W.testBit j=false -> I.apart ops C=true/\Calm Φ ok rG mQ p pb σ C /\ ∀n,dV C n=true -> p n=true/\pb n=true)
  (λL σ h=>h.1.step hN) (λL σ j C τ h Ob Oc Ea zy js=>?_) f L σ vc hr ⟨hF,iS,⟨Y,Z⟩,N9,Oa,BF⟩ H
 obtain⟨hF,iS,⟨Y,Z⟩,N9,Oa,BF⟩:=h;obtain⟨c1,c2,c3⟩:=BF j C Ob Oc Ea zy;obtain⟨dR,hs,zz,hF',VI,ld,hta⟩:=apj (mR:=mR) fL Z hF c1 c2 c3 js;have U:∀ k,(L ||| 2 ^ j).testBit k=false -> L.testBit k=false:=by
  intro k D;rw[zx,oS]at D;exact D.1
 refine⟨dR,hs,zz,hF',λt r E k J D O Q T=>iS t r E k J D O (U k Q) T,⟨λx hx k J D O Q T=>Y x hx k J D O (U k Q) T,λx hx=>ld x (Z x hx) (.inl (Y x hx j C Ob Oc Ea zy))⟩,λt E k J D O Q T=>N9 t E k J D O (U k Q) T,λt E k J D O Q T=>Oa t E k J D O (U k Q) T,λk J D O Q T=>?_⟩
 obtain⟨d1,d2,d3⟩:=BF k J D O (U k Q) T
 refine⟨d1,d2.fV (λt r j' E h=>?_) (λt h E=>ld t E (N9 t h j C Ob Oc Ea zy)) (λt h E=>hta t E (Oa t h j C Ob Oc Ea zy)),d3⟩
 grind
def Lf.rI(l:Lf)(a b:Nat):(l.drop a).drop b=(l.drop b).drop a:=by
 cases l with
 | own k=>
  have D:∀n,Lf.drop n (.own k)=(bif bK n k then .dead else .own k):=λ_=>rfl
  cases C:bK a k<;>cases hb:bK b k<;>simp[Lf.drop,C,hb]
 |v x=>rfl
 |dead=>rfl
def mO.rI(l:aa Lf)(a b:Nat):(l.map (Lf.drop a)).map (Lf.drop b)=(l.map (Lf.drop b)).map (Lf.drop a):=by
 rw[List.map_map,List.map_map];exact lN λx _=>Lf.rI x a b
def A.rI(y:A)(a b:Nat):(y.drop a).drop b=(y.drop b).drop a:=by
 cases y with
 |lf x=>exact bH A.lf (Lf.rI x a b)
 |agg cs=>exact bH A.agg (mO.rI cs a b)
 | cR xs=>
  refine bH A.cR ?_;rw[List.map_map,List.map_map]
  refine lN λq _=>?_
  simp only[Function.comp];rw[mO.rI]
 | ptr k=>
  have C:∀n,A.drop n (.ptr k)=(bif bK n k then .undef else .ptr k):=λ_=>rfl
  rw[C a,C b];cases D:bK a k<;>cases hb:bK b k<;>simp[A.drop,D,hb]
 | view k s i j=>
  have C:∀n,A.drop n (.view k s i j)=(bif bK n k then .undef else .view k s i j):=λ_=>rfl
  rw[C a,C b];cases D:bK a k<;>cases hb:bK b k<;>simp[A.drop,D,hb]
 | pk r j=>
  have C:∀n,A.drop n (.pk r j)=(bif Nat.beq r n then .undef else .pk r j):=λ_=>rfl
  rw[C a,C b];cases D:Nat.beq r a<;>cases hb:Nat.beq r b<;>simp only[ak,au,A.drop,D,hb]
 | aG r j=>
  have C:∀n,A.drop n (.aG r j)=(bif Nat.beq r n then .undef else .aG r j):=λ_=>rfl
  rw[C a,C b];cases D:Nat.beq r a<;>cases hb:Nat.beq r b<;>simp only[ak,au,A.drop,D,hb]
 | fn f cap=>
  have C:∀n,A.drop n (.fn f cap)=(bif cap.any (λp=>Nat.beq p.1 n)then .undef else .fn f cap):=λ_=>rfl
  rw[C a,C b];cases D:cap.any (λp=>Nat.beq p.1 a)<;>cases hb:cap.any (λp=>Nat.beq p.1 b)<;>simp only[ak,au,A.drop,D,hb]
 |_=>rfl
def aY.rI(y:aY)(a b:Nat):(y.drop a).drop b=(y.drop b).drop a:=by
 cases y with
 |aB cs=>exact bH _ (mO.rI cs a b)
 |sl y=>rfl
 |mp l=>rfl
 | gh xs=>
  refine bH aY.gh ?_;rw[List.map_map,List.map_map];exact lN λx _=>A.rI x a b
def Lf.tM(l:Lf)(a:Nat)(ns cn:aa Nat):(l.drop a).bE ns cn=(l.bE ns cn).drop a:=by
 cases l with
 | own k=>
  have D:Lf.drop a (.own k)=(bif bK a k then .dead else .own k):=rfl;have E:Lf.bE ns cn (.own k)=(bif cF k cn ||(cF k ns && !(Nat.beq _ 1))then .dead else .own k):=rfl;cases C:bK a k<;>cases hb:(cF k cn ||(cF k ns && !(Nat.beq k.length 1)))<;>simp[ak,au,Lf.drop,Lf.bE,C,hb]
 |v x=>rfl
 |dead=>rfl
def mO.tM(l:aa Lf)(a:Nat)(ns cn:aa Nat):(l.map (Lf.drop a)).map (Lf.bE ns cn)=(l.map (Lf.bE ns cn)).map (Lf.drop a):=by
 rw[List.map_map,List.map_map];exact lN λx _=>Lf.tM x a ns cn
def A.tM(y:A)(a:Nat)(ns cn:aa Nat):(y.drop a).bE ns cn=(y.bE ns cn).drop a:=by
 cases y with
 |lf x=>exact bH A.lf (Lf.tM x a ns cn)
 |agg cs=>exact bH A.agg (mO.tM cs a ns cn)
 | cR xs=>
  refine bH A.cR ?_;rw[List.map_map,List.map_map]
  refine lN λq _=>?_
  simp only[Function.comp];rw[mO.tM]
 | ptr k=>
  have C:A.drop a (.ptr k)=(bif bK a k then .undef else .ptr k):=rfl;have D:A.bE ns cn (.ptr k)=(bif cF k cn ||cF k ns then .undef else .ptr k):=rfl;rw[C,D];cases E:bK a k<;>cases hb:(cF k cn ||cF k ns)<;>simp only[ak,au,A.drop,A.bE,E,hb]
 | view k s i j=>
  have C:A.drop a (.view k s i j)=(bif bK a k then .undef else .view k s i j):=rfl;have D:A.bE ns cn (.view k s i j)=(bif cF k cn ||cF k ns then .undef else .view k s i j):=rfl;rw[C,D];cases E:bK a k<;>cases hb:(cF k cn ||cF k ns)<;>simp only[ak,au,A.drop,A.bE,E,hb]
 | pk r j=>
  have C:A.drop a (.pk r j)=(bif Nat.beq r a then .undef else .pk r j):=rfl;have D:A.bE ns cn (.pk r j)=(bif cx r cn then .undef else .pk r j):=rfl;rw[C,D];cases E:Nat.beq r a<;>cases hb:cx r cn<;>simp only[ak,au,A.drop,A.bE,E,hb]
 | aG r j=>
  have C:A.drop a (.aG r j)=(bif Nat.beq r a then .undef else .aG r j):=rfl;have D:A.bE ns cn (.aG r j)=(bif cx r cn then .undef else .aG r j):=rfl;rw[C,D];cases E:Nat.beq r a<;>cases hb:cx r cn<;>simp only[ak,au,A.drop,A.bE,E,hb]
 | fn f cap=>
  have C:A.drop a (.fn f cap)=(bif cap.any (λp=>Nat.beq p.1 a)then .undef else .fn f cap):=rfl;have D:A.bE ns cn (.fn f cap)=(bif cap.any (λp=>cx p.1 cn)then .undef else .fn f cap):=rfl;rw[C,D];cases E:cap.any (λp=>Nat.beq p.1 a)<;>cases hb:cap.any (λp=>cx p.1 cn)<;>simp only[ak,au,A.drop,A.bE,E,hb]
 |_=>rfl
def aY.tM(y:aY)(a:Nat)(ns cn:aa Nat):(y.drop a).bE ns cn=(y.bE ns cn).drop a:=by
 cases y with
 |aB cs=>exact bH _ (mO.tM cs a ns cn)
 |sl y=>rfl
 |mp l=>rfl
 | gh xs=>
  refine bH aY.gh ?_;rw[List.map_map,List.map_map];exact lN λx _=>A.tM x a ns cn
def Wg{a b:Nat}(h:a≠b):Nat.beq a b=false:=by
 cases hb:Nat.beq a b with
 |false=>rfl
 |true=>simp_all
def nS.drop(h:nS e u){n:Nat}(C:e≠n):u.drop n=u:=by
 rcases h with rfl|rfl
 ·simp[A.drop,Wg C,au]
 ·have:bK n [e]=false:=by simp[bK,C]
  simp[A.drop,Lf.drop,this,au]
def nS.bE(h:nS e u){ns cn:aa Nat}(D:cx e ns=false)(C:cx e cn=false):u.bE ns cn=u:=by
 rcases h with rfl|rfl
 ·simp[A.bE,C,au]
 ·have E:cF [e] ns=false:=D;have I:cF [e] cn=false:=C;simp only[A.bE,Lf.bE,E,I];rfl
def tN(k:Nat):(cT e x u σ).t k=if k=e then u else (σ.t k).drop e:=by
 by_cases C:k=e
 ·subst C;rw[bA rfl];exact ck _ _ _
 ·rw[bM C];exact cB _ _ _ C
def pH(n:Nat):(cT e x u σ).m n=if n=e then some x else (σ.m n).map (aY.drop e):=by
 show bW (λr=>bif Nat.beq r e then none else (σ.m r).map _) e _ n=_;by_cases C:n=e
 ·subst C;rw[bA rfl,ck]
 ·rw[bM C,cB _ _ _ C,Wg C];rfl
def acA(c:Nat)(y:aY)(k:Nat):((σ.drop c).root c y).t k=(σ.t k).drop c:=rfl
def acB(c:Nat)(y:aY)(n:Nat):((σ.drop c).root c y).m n=if n=c then some y else (σ.m n).map (aY.drop c):=by
 show bW (λr=>bif Nat.beq r c then none else (σ.m r).map _) c _ n=_;by_cases C:n=c
 ·subst C;rw[bA rfl,ck]
 ·rw[bM C,cB _ _ _ C,Wg C];rfl
def acC{c:Nat}(z:V)(I:pG x)(J:nS e u)(L:e≠c):((cT e x u σ).drop c).root c (.sl z)=cT e x u ((σ.drop c).root c (.sl z)):=by
 refine S.ext' (λk=>?_) λn=>?_
 ·rw[acA,tN,tN];by_cases C:k=e
  ·rw[bA C,bA C];exact J.drop L
  ·rw[bM C,bM C];exact A.rI _ _ _
 ·rw[acB,pH,pH,acB];by_cases D:n=c
  ·rw[bA D,bM,bA D];rfl
  ·rw[bM D];by_cases E:n=e
   ·rw[bA E,bA E];simp[kP,I.drop]
   ·rw[bM E,bM E,bM D,Option.map_map,Option.map_map];congr 1;funext y;exact aY.rI y e c
def H7(C:pG x)(D:nS e u):∀ (xs:aa V) (c:Nat) (σ:S),e<c -> iH c (cT e x u σ) xs=cT e x u (iH c σ xs)
 |[],c,σ,_=>rfl
 | y :: xs,c,σ,h=>by
  simp[iH];cases E:y.aD with
  |true=>exact H7 C D xs _ σ (by omega)
  | false=>
   rw[acC y C D (by omega)];exact H7 C D xs _ _ (by omega)
def Wh(C:pG x)(D:nS e u):∀ (ps:aa Pt) (c:Nat) (σ:S),e<c -> lz c (cT e x u σ) ps=cT e x u (lz c σ ps)
 |[],c,σ,_=>rfl
 | q :: ps,c,σ,h=>by
  simp[lz];rw[H7 C D _ _ _ h];exact Wh C D ps _ _ (by omega)
def Eb{v:A}(D:d≠e)(E:v.drop e=v):(cT e x u σ).set d v=cT e x u (σ.set d v):=by
 refine S.ext' (λk=>?_) λn=>?_
 ·show bW (cT e x u σ).t d v k=_;rw[tN];show _=if k=e then u else (bW σ.t d v k).drop e;by_cases C:k=d
  ·subst C;rw[ck,bM D,ck,E]
  ·rw[cB _ _ _ C,cB _ _ _ C,tN]
 ·rfl
def apo{v:A}{C:ah Tmp}(D:C≠some e)(E:v.drop e=v):fX (cT e x u σ) C v=cT e x u (fX σ C v):=by
 cases C with
 |none=>rfl
 |some d=>exact Eb (by rintro rfl;exact D rfl) E
def apq{ns cn:aa Nat}{nr:aa (Nat×aY)}(L:pG x)(O:nS e u)(E:cx e ns=false)(I:cx e cn=false)(J:∀ q∈nr,q.1≠e/\q.2.drop e=q.2):(cT e x u σ).bE ns cn nr=cT e x u (σ.bE ns cn nr):=by
 have hl:nr.lookup e=none:=by
  cases hl:nr.lookup e with
  |none=>rfl
  |some y=>exact absurd rfl (J _ (N4 hl)).1
 refine S.ext' (λk=>?_) λn=>?_
 ·show ((cT e x u σ).t k).bE ns cn=_;rw[tN,tN];by_cases C:k=e
  ·rw[bA C,bA C];exact O.bE E I
  ·rw[bM C,bM C];exact A.tM _ _ _ _
 ·rw[pH];show (match nr.lookup n with | some x=>some x | none=>bif cx n ns || cx n cn then none else ((cT e x u σ).m n).map (aY.bE ns cn))=if n=e then some x else (match nr.lookup n with | some x=>some x | none=>bif cx n ns || cx n cn then none else (σ.m n).map (aY.bE ns cn)).map (aY.drop e);by_cases D:n=e
  ·subst D;rw[ hl,E,I];simp[Bool.or_false,au,pH,if_true,kP,L.bE]
  ·rw[bM D];cases Q:nr.lookup n with
   |some y=>simp;rw[(J _ (N4 Q)).2]
   | none=>
    simp only;cases (cx n ns ||cx n cn)with
    |true=>rfl
    | false=>
     simp only[au];rw[pH,bM D,Option.map_map,Option.map_map];congr 1;funext y;exact aY.tM y e ns cn
/-! What a call reads. -/
def acD{q:aa Nat}{k:V->ah X}(h:bK e q=false):gz (cT e x u σ).m q k=gz σ.m q k:=wP q k h
def wR{y:Operand}(h:(aI σ y).nr p=true)(C:p e=true)(D:y ≠ .tmp e):aI (cT e x u σ) y=aI σ y:=by
 cases y with
 | tmp t=>
  show (cT e x u σ).t t=σ.t t;rw[tN,bM (by rintro rfl;exact D rfl)];exact A.l8 h C
 |_=>rfl
def Wi{l:Lf}{k:V->ah X}(h:l.nr p=true)(C:p e=true):iF (cT e x u σ) l k=iF σ l k:=by
 cases l with
 |own q=>exact acD (sB h C)
 |_=>rfl
def acE{q:aa Nat}{s i j:Nat}{k:V->ah X}(h:fC p q=true)(C:p e=true):tq (cT e x u σ) q s i j k=tq σ q s i j k:=by
 unfold tq;exact acD (sB h C)
def apr{y:A}{k:V->ah X}(h:y.nr p=true)(C:p e=true):qa (cT e x u σ) y k=qa σ y k:=by
 cases y with
 |lf l=>exact Wi h C
 |view q s i j=>exact acE h C
 |_=>rfl
def Wj(C:p e=true):∀ (xs:aa Lf) (k:aa V -> ah X),xs.all (Lf.nr p)=true -> qf (cT e x u σ) xs k=qf σ xs k
 |[],k,_=>rfl
 | y :: xs,k,h=>by
  rw[List.all_cons,aO]at h;simp[qf,Wi h.1 C];congr 1;funext z;exact Wj C xs _ h.2
def aps{y:A}{k:Pt -> ah X}(h:y.nr p=true)(C:p e=true):ou (cT e x u σ) y k=ou σ y k:=by
 cases y with
 |lf l=>simp[ou];exact Wj C _ _ (by simpa [A.nr]using h)
 |agg cs=>simp[ou];exact Wj C _ _ h
 |view q s i j=>simp[ou];exact acE h C
 |gW cs=>cases cs<;>rfl
 |_=>rfl
def acF(C:p e=true):∀ (xs:aa Operand) (k:aa Pt -> ah X),(∀ y∈xs,(aI σ y).nr p=true/\y ≠ .tmp e) -> mK (cT e x u σ) xs k=mK σ xs k
 |[],k,_=>rfl
 | y :: xs,k,h=>by
  obtain⟨D,E⟩:=h y (.head _);simp[mK];rw[wR D C E,aps D C];congr 1;funext z;exact acF C xs _ (λy I=>h y (.tail _ I))
def Wl{ns:aa Nat}(C:p e=true):∀ (xs:aa Lf) (k:aa V -> ah X),xs.all (Lf.nr p)=true -> pn (cT e x u σ) ns xs k=pn σ ns xs k
 |[],k,_=>rfl
 | y :: xs,k,h=>by
  rw[List.all_cons,aO]at h;simp[pn,Wi h.1 C];congr 2;funext z;exact Wl C xs _ h.2
def acG{d:Nat}:∀ (xs:aa Lf),qX (xs.map (Lf.drop d))=qX xs
 |[]=>rfl
 | x :: xs=>by
  have C:(x.drop d).pl=x.pl:=by
   cases x with
   | own k=>
    show (bif bK d k then _ else Lf.own k).pl=_;cases bK d k<;>rfl
   |_=>rfl
  simp[List.map_cons,qX,C,acG]
def apt{ns:aa Nat}{y:A}{k:Pt -> ah X}(h:y.nr p=true)(C:p e=true):ow (cT e x u σ) ns y k=ow σ ns y k:=by
 cases y with
 |lf l=>simp[ow];exact Wl C _ _ (by simpa [A.nr]using h)
 |agg cs=>simp[ow];exact Wl C _ _ h
 |kA f cs=>cases cs<;>rfl
 | fn f cap=>
  match cap,h with
  |[],_=>rfl
  |_::_::_,_=>rfl
  | [(D,j)],h=>
   have E:p D=false:=by simpa [A.nr]using h
   have I:D≠e:=by rintro rfl;rw[C]at E;cases E
   simp only[ow,pH,bM I];cases σ.m D with
   |none=>rfl
   | some z=>
    cases z with
    |aB cs=>simp[kP,aY.drop,<- List.map_drop,acG]
    |_=>rfl
 |_=>rfl
def apu{l:Lf}(h:l.nr p=true)(D:p e=true):uT (cT e x u σ).m l=uT σ.m l:=by
 cases l with
 | own k=>
  match k with
  |[]=>rfl
  | [q]=>
   have C:q≠e:=by
    have h:(!p q)=true:=by simpa [Lf.nr,fC]using h
    grind
   simp[uT];rw[pH,bM C];cases σ.m q with
   |none=>rfl
   |some y=>cases y<;>rfl
  |_::_::_=>rfl
 |v x=>rfl
 |dead=>rfl
def acH(D:p e=true):∀ (C:aa Lf),C.all (Lf.nr p)=true -> rB (cT e x u σ).m C=rB σ.m C
 |[],_=>rfl
 | l :: C,h=>by
  rw[List.all_cons,aO]at h;simp[rB,apu h.1 D,acH D C h.2]
def acI{m:Nat -> ah aY}:∀ {cs:aa Lf} {E:aa (V×ah Nat)},rB m cs=some E -> cs.all (Lf.nr p)=true -> ∀ v∈E,∀ q,v.2=some q -> p q=false
 |[],E,h,_=>by injection h with h;subst h;simp
 | c :: cs,E,h,I=>by
  rw[List.all_cons,aO]at I;unfold rB at h;split at h
  ·rename_i v Q C J;injection h with h;subst h;intro u hu q D;rcases gf.1 hu with rfl | hu
   ·unfold uT at C;split at C
    ·grind
    ·rename_i T;split at C
     ·rename_i y _;cases L:y.aD with
      |true=>grind
      | false=>
       rw[L]at C;injection C with C;rw[<- C]at D;injection D with D;subst D;have O:=I.1
       simpa [Lf.nr,fC]using O
     ·cases C
    ·cases C
   ·exact acI J I.2 u hu q D
  ·cases h
def Od(p:Nat->Bool):Mu->Prop
 |.aB r cs C=>p r=false/\cs.all (Lf.nr p)=true/\∀v∈C,∀q,v.2=some q->p q=false
 |.sl q _=>p q=false
def Wm(I:p e=true):∀ (ps:aa PK) (xs:aa Operand) (J:aa Mu),(∀ y∈xs,(aI σ y).nr p=true/\y ≠ .tmp e) -> (∀ n∈iI σ ps xs,wO σ p n=true) -> jr σ ps xs=some J -> jr (cT e x u σ) ps xs=some J /\ ∀ C∈J,Od p C
 |[],[],J,_,_,h=>⟨h,by injection h with h;subst h;simp⟩
 |[],_::_,J,_,_,h=>by cases h
 |_::_,[],J,_,_,h=>by cases h
 | q :: ps,y :: xs,J,U,hl,h=>by
  obtain⟨E,h2⟩:=U y (.head _);have Ni:∀ n∈iI σ ps xs,wO σ p n=true:=by
   intro n Y;refine hl n ?_;cases q with
   |v=>exact Y
   |s=>exact Y
   | p t g off=>
    simp only[iI];split
    ·grind
    ·exact Y
  unfold jr at h;have D:∀ z,uU σ q (aI σ y)=some z -> uU (cT e x u σ) q (aI (cT e x u σ) y)=some z /\ ∀ C,z=some C -> Od p C:=by
   intro z hz;rw[wR E I h2];have L:=uV hz;cases q with
   | v=>
    cases z with
    |some C=>exact L.elim
    |none=>exact⟨hz,by simp⟩
   | p t g off=>
    cases z with
    |none=>exact L.elim
    | some C=>
     cases C with
     |sl=>exact L.elim
     | aB Q cs vs=>
      obtain⟨O,hm,hg,hlen⟩:=L;have Z:p Q=false:=by
       rw[O]at E;have E:(!p Q)=true:=E
       simpa using E
      have eI:Q≠e:=by rintro rfl;rw[I]at Z;cases Z
      have T:cs.all (Lf.nr p)=true:=by
       have:=hl Q (by simp only[iI,O];exact .head _);unfold wO at this;rw[hm]at this;exact this
      have sn:(cT e x u σ).m Q=some (.aB cs):=by
       rw[pH,bM eI,hm];simp[kP,aY.drop,mO.l8 T I]
      refine⟨?_,λC D=>?_⟩
      ·rw[O];simp[uU,Nat.beq_refl,ak,sn,acH I cs T,hg];have:Nat.blt _ 999=true:=iD hlen
       grind
      ·injection D with D;subst D;exact⟨Z,T,acI hg T⟩
   | s t g=>
    cases z with
    |none=>exact L.elim
    | some C=>
     cases C with
     |aB=>exact L.elim
     | sl q y0=>
      obtain⟨O,hm,hf⟩:=L;have hq:p q=false:=by
       rw[O]at E;have E:(!p q)=true:=by simpa [A.nr,Lf.nr,fC]using E
       simpa using E
      have eI:q≠e:=by rintro rfl;rw[I]at hq;cases hq
      refine⟨?_,λC D=>?_⟩
      ·rw[O];simp only[uU];rw[pH,bM eI,hm];simp[kP,aY.drop,hf,au]
      ·injection D with D;subst D;exact hq
  split at h
  ·rename_i C NO k1 k2;injection h with h;subst h;obtain⟨g1,g2⟩:=D _ k1;obtain⟨f1,f2⟩:=Wm I ps xs NO (λy h=>U y (.tail _ h)) Ni k2
   refine⟨by simp only[jr,g1,f1],λm hm=>?_⟩
   rcases gf.1 hm with rfl|hm
   ·exact g2 _ rfl
   ·grind
  next NO k1 k2=>injection h with h;subst h;obtain⟨g1,g2⟩:=D _ k1;obtain⟨f1,f2⟩:=Wm I ps xs NO (λy h=>U y (.tail _ h)) Ni k2;exact⟨by simp only[jr,g1,f1],f2⟩
  ·cases h
def Oe(D:p e=true)(ns:aa Nat):∀ (ps:aa PK) (xs:aa Operand) (C:aa Mu) (k:kB ps->ah X),(∀ y∈xs,(aI σ y).nr p=true/\y ≠ .tmp e)->iy (cT e x u σ) ns ps xs C k=iy σ ns ps xs C k
 |[],[],[],k,_=>rfl
 | .v b t :: ps,y :: xs,C,k,h=>by
  obtain⟨I,J⟩:=h y (.head _);simp only[iy];rw[wR I D J,apt I D];congr 1;funext z;congr 1;split
  ·exact Oe D ns ps xs C _ (λy E=>h y (.tail _ E))
  ·rfl
 | .p t g off :: ps,y :: xs,.aB L cs O :: C,k,h=>by
  simp only[iy];split
  ·exact Oe D ns ps xs C _ (λy E=>h y (.tail _ E))
  ·rfl
 | .s t g :: ps,y :: xs,.sl q Q :: C,k,h=>by
  simp only[iy];split
  ·exact Oe D ns ps xs C _ (λy E=>h y (.tail _ E))
  ·rfl
 |[],[],_::_,k,_=>rfl
 |[],_::_,_,k,_=>rfl
 |.v _ _::_,[],_,k,_=>rfl
 |.p _ _ _::_,[],_,k,_=>rfl
 |.s _ _::_,[],_,k,_=>rfl
 |.p _ _ _::_,_::_,[],k,_=>rfl
 |.s _ _::_,_::_,[],k,_=>rfl
 |.p _ _ _::_,_::_,.sl _ _::_,k,_=>rfl
 |.s _ _::_,_::_,.aB _ _ _::_,k,_=>rfl
def Wn{i:Nat}:∀ (C:aa (V×ah Nat)) (j:Nat),(∀ v∈C,∀ q,v.2=some q -> p q=false) -> ∀ u∈DR i j C,p u.1=false
 |[],_,_,u,hu=>by cases hu
 |(y,none)::C,j,h,u,hu=>Wn C (j+1) (λv D=>h v (.tail _ D)) u hu
 | (y,some q) :: C,j,h,u,hu=>by
  rcases gf.1 hu with rfl|hu
  ·simp_all
  ·exact Wn C (j+1) (λv D=>h v (.tail _ D)) u hu
def Wo:∀ (C:aa Mu) (i:Nat),(∀ E∈C,Od p E) -> ∀ u∈kC i C,p u.1=false
 |[],_,_,u,hu=>by cases hu
 | .aB O cs I :: C,i,h,u,hu=>by
  obtain⟨J,Q,L⟩:=h _ (.head _);rcases gf.1 hu with rfl|hu
  ·exact J
  ·rcases List.mem_append.1 hu with hu | hu
   ·exact Wn I 0 L u hu
   ·exact Wo C _ (λm D=>h m (.tail _ D)) u hu
 | .sl q y :: C,i,h,u,hu=>by
  rcases gf.1 hu with rfl|hu
  ·exact h _ (.head _)
  ·exact Wo C (i+1) (λm D=>h m (.tail _ D)) u hu
def Wp{c0:Nat}(E:∀ n,c0 <= n -> p n=false):∀ (C:aa (V×ah Nat)) (n:Nat),(∀ v∈C,∀ q,v.2=some q -> p q=false) -> ∀ u∈mM c0 n C,p u=false
 |[],_,_,u,hu=>by cases hu
 | (y,none) :: C,n,h,u,hu=>by
  rcases gf.1 hu with rfl|hu
  ·simp_all
  ·exact Wp E C (n+1) (λv D=>h v (.tail _ D)) u hu
 | (y,some q) :: C,n,h,u,hu=>by
  rcases gf.1 hu with rfl|hu
  ·simp_all
  ·exact Wp E C (n+1) (λv D=>h v (.tail _ D)) u hu
def Wq:∀ (C:aa Nat) (xs:aa V),∀ u∈uW C xs,u∈C
 |[],[],u,hu=>by cases hu
 | n :: C,y :: xs,u,hu=>by
  simp[uW]at hu;cases D:y.aD with
  |true=>rw[D]at hu;exact .tail _ (Wq C xs u hu)
  | false=>
   rw[D]at hu;rcases gf.1 hu with rfl|hu
   ·simp_all
   ·exact .tail _ (Wq C xs u hu)
def acJ{ns cn:aa Nat}:∀ (C:aa Nat) (D:aa Lf) (xs:aa V),(∀ n∈C,p n=false) -> D.all (Lf.nr p)=true -> (pq ns cn C D xs).all (Lf.nr p)=true
 |[],_,_,_,_=>by simp[pq]
 |_::_,[],_,_,_=>by simp[pq]
 |_::_,_::_,[],_,_=>by simp[pq]
 | n :: C,l :: D,y :: xs,I,E=>by
  rw[List.all_cons,aO]at E;simp only[pq,List.all_cons,aO]
  refine⟨?_,acJ C D xs (λn J=>I n (.tail _ J)) E.2⟩
  cases y.plain with
  |true=>rfl
  | false=>
   simp only[au];cases y.aD with
   | true=>
    simp only[ak];cases l with
    | own k=>
     have L:Lf.bE ns cn (.own k)=(bif cF k cn ||(cF k ns && !(Nat.beq k.length 1))then .dead else .own k):=rfl;rw[L];cases (cF k cn ||(cF k ns && !(Nat.beq k.length 1)))with
     |true=>rfl
     |false=>exact E.1
    |v x=>rfl
    |dead=>rfl
   | false=>
    simp only[au,Lf.nr,fC,List.getLast?_singleton];simp_all
def Wr:∀ (C:aa Nat) (xs:aa V),∀ u∈tF C xs,u.1∈C /\ ∃ y,u.2 = .sl y
 |[],[],u,hu=>by cases hu
 |[],_::_,u,hu=>by cases hu
 | n :: C,y :: xs,u,hu=>by
  simp[tF]at hu;cases I:y.aD with
  |true=>rw[I]at hu;obtain⟨D,E⟩:=Wr C xs u hu;exact⟨.tail _ D,E⟩
  | false=>
   rw[I]at hu;rcases gf.1 hu with rfl|hu
   ·simp_all
   ·obtain⟨D,E⟩:=Wr C xs u hu;exact⟨.tail _ D,E⟩
def Ws{c0:Nat}{ns cn:aa Nat}(E:p e=true)(J:∀ n,c0 <= n -> p n=false):∀ (D:aa Mu) (outs:aa In) (C:Nat),(∀ Z∈D,Od p Z) -> (∀ u∈nO c0 C D outs,p u=false) /\ ∀ u∈lA ns cn c0 C D outs,u.1≠e/\u.2.drop e=u.2
 |[],outs,C,_=>⟨(λu hu=>by simp[nO]at hu),(λu hu=>by simp[lA]at hu)⟩
 |.aB _ _ _::_,[],C,_=>⟨(λu hu=>by cases hu),(λu hu=>by cases hu)⟩
 |.sl _ _::_,[],C,_=>⟨(λu hu=>by cases hu),(λu hu=>by cases hu)⟩
 |.aB _ _ _::_,.sl _::_,C,_=>⟨(λu hu=>by cases hu),(λu hu=>by cases hu)⟩
 |.sl _ _::_,.aB _::_,C,_=>⟨(λu hu=>by cases hu),(λu hu=>by cases hu)⟩
 | .aB r' cs Q :: D,.aB xs :: outs,C,h=>by
  obtain⟨I,h2,h3⟩:=h _ (.head _);obtain⟨T,k2⟩:=Ws (ns:=ns) (cn:=cn) E J D outs (C+1+Q.length) (λm L=>h m (.tail _ L));have U:∀n,p n=false -> n≠e:=by rintro n Y rfl;rw[E]at Y;cases Y
  have O:=Wp J Q (C+1) h3
  refine⟨λu hu=>?_,λu hu=>?_⟩
  ·simp only[nO]at hu;rcases List.mem_append.1 hu with hu | hu
   ·exact O u (Wq _ _ u hu)
   ·grind
  ·simp only[lA]at hu;rcases gf.1 hu with rfl | hu
   ·refine⟨U _ I,?_⟩;simp only[aY.drop];rw[mO.l8 (acJ _ _ _ O h2) E]
   ·rcases List.mem_append.1 hu with hu | hu
    ·obtain⟨g1,y,g2⟩:=Wr _ _ u hu;exact⟨U _ (O _ g1),by rw[g2];rfl⟩
    ·grind
 | .sl q y :: D,.sl y' :: outs,C,h=>by
  have I:p q=false:=h _ (.head _);obtain⟨T,k2⟩:=Ws (ns:=ns) (cn:=cn) E J D outs (C+1) (λm L=>h m (.tail _ L))
  refine⟨λu hu=>T u (by simpa [nO]using hu),λu hu=>?_⟩
  simp only[lA]at hu;cases hy:y'.jM with
  |false=>grind
  |true=>
  rw[hy]at hu;rcases gf.1 hu with rfl|hu
  ·exact⟨(by rintro rfl;rw[E]at I;cases I),rfl⟩
  ·grind
def Of:∀ (xs:aa V) (c:Nat),e<c -> (lu c xs).map (Lf.drop e)=lu c xs
 |[],_,_=>rfl
 | y :: xs,c,h=>by
  simp only[lu,List.map_cons];rw[Of xs _ (by omega)];cases y.aD with
  |true=>rfl
  | false=>
   have:bK e [c]=false:=by simp[bK];omega
   simp[au,Lf.drop,this]
def acK{b:Bool}{xs:aa Lf}{y:A}(h:so (b,xs)=some y)(C:xs.map (Lf.drop e)=xs):y.drop e=y:=by
 unfold so at h;split at h
 next D=>injection h with h;subst h;obtain⟨_,rfl⟩:=D;exact bH A.agg C
 next z D=>injection h with h;subst h;obtain⟨_,rfl⟩:=D;simp at C;exact bH A.lf C
 ·cases h
def acL:∀ (ps:aa Pt) (c:Nat),e<c->(ov c ps).map (λq=>(q.1,q.2.map (Lf.drop e)))=ov c ps
 |[],_,_=>rfl
 | q :: ps,c,h=>by
  simp only[ov,List.map_cons];rw[Of _ _ h,acL ps _ (by omega)]
def acM(ps:aa Pt)(c:Nat)(h:e<c):A.drop e (.cR (ov c ps)) = .cR (ov c ps):=bH A.cR (acL ps c h)
def apv(E:pG x)(I:nS e u)(U:e<20000){C:ah Tmp}(O:C≠some e){D:fW}{J:S}(h:mN N σ C D some=some J):mN N (cT e x u σ) C D some=some (cT e x u J):=by
 cases C with
 | none=>
  injection h with h;rw[<- h];rfl
 | some d=>
  have L:d≠e:=by rintro rfl;exact O rfl
  unfold mN at h ⊢;cases Q:Nat.blt d N with
  |false=>simp_all
  | true=>
   simp only[Q,ak]at h ⊢;cases D with
   | one q=>
    simp only at h ⊢;split at h
    next y T=>injection h with h;subst h;rw[H7 E I _ _ _ (by omega),Eb L (acK T (Of _ _ (by omega)))]
    ·cases h
   | cR ps=>
    injection h with h;subst h;simp only;rw[Wh E I _ _ _ (by omega),Eb L (acM _ _ (by omega))]
def apw(fL:fQ P Φ)(Z:pG x)(O:nS e u)(he:e<20000)(T:p e=true)(BG:∀ n,20000 <= n -> p n=false)(C:nR Φ o=true)(hd:o.dst≠some e)(vb:∀ y∈o.op.operands,(aI σ y).nr p=true/\y ≠ .tmp e)(hl:∀ n∈qq Φ σ o,wO σ p n=true){τ:S}
  (h:dn P N Φ σ o some=some τ):dn P N Φ (cT e x u σ) o some=some (cT e x u τ):=by
 have zB:∃ f args jq,o.op = .call { callee:=.value (.func f),args:=args,argTypes:=jq }:=by
  unfold nR at C;split at C
  ·grind
  ·cases C
 obtain⟨f,args,jq,D⟩:=zB;have mL:∀ y∈args.toList,(aI σ y).nr p=true/\y ≠ .tmp e:=by
  intro y U;refine vb y ?_;rw[D];simp only[Op.operands,Call.operands];simp only[Array.mem_append]
  first
   |exact .inr (by simpa using U)
   |exact .inl (by simpa using U)
 have dZ:∀ σ2,dn P N Φ σ2 o some=hJ P N Φ σ2 o some:=by
  intro σ2;unfold dn;rw[show fJ o.op=false by rw[D];rfl,au]
 rw[dZ]at h ⊢;cases I:Φ f with
 |none=>simp only[hJ,D,I]at h;cases h
 | some c=>
  cases c with
  |n F=>rw[nR,D]at C;simp[I]at C
  |v c=>rw[nR,D]at C;simp[I]at C
  |i c=>rw[nR,D]at C;simp[I]at C
  |d c=>rw[nR,D]at C;simp[I]at C
  |q c=>rw[nR,D]at C;simp[I]at C
  |c c=>rw[nR,D]at C;simp[I]at C
  | p c=>
   simp only[hJ,D,I]at h ⊢;obtain⟨d,Y,h⟩:=gk h;have Og:d≠e:=by rintro rfl;exact hd Y
   obtain⟨res,oh,J,E,h3⟩:=HG (fL f _ I).2 h;injection E with E;subst E;simp only[eN,Y]
   refine(h3 (cT e x u σ) (cT e x u oh) (λX k=>acF T _ k mL) ?_).at_ _
   unfold pz at J ⊢;cases res with
   | one q=>
    simp only at J ⊢;split at J
    next y U=>injection J with J;subst J;rw[H7 Z O _ _ _ (by omega),Eb Og (acK U (Of _ _ (by omega)))]
    ·cases J
   | cR ps=>
    injection J with J;subst J;simp only;rw[Wh Z O _ _ _ (by omega),Eb Og (acM _ _ (by omega))]
  | m c=>
   simp only[hJ,D,I]at h ⊢;have Bi:∀ n∈iI σ c.ps args.toList,wO σ p n=true:=by
    intro n Q;refine hl n ?_;simp[qq,D,I];exact Q
   unfold l6 at h;split at h
   ·rename_i L tG;obtain⟨g1,g2⟩:=Wm (x:=x) (u:=u) T c.ps args.toList L mL Bi tG;cases l7:(once (kC 0 L)&&Nat.ble L.length 40)with
    |false=>grind
    | true=>
     rw[l7,ak]at h;obtain⟨z,E,acN⟩:=Bp _ _ _ _ h;simp only[l6,g1,l7,ak];rw[Oe T _ _ _ _ _ mL];refine(acN S _).trans ?_;split at E
     ·rename_i y U;unfold zf at E ⊢;generalize o9:nO (iz o.dst) (fe c.ro y.1).len L (iR (eH c.ps) y.2)=cn at E;generalize iS:Bd N L (iR (eH c.ps) y.2) cn=ok at E;cases ok with
      |false=>cases E
      | true=>
       rw[ak]at E;have tD:∀ n,iz o.dst <= n -> p n=false:=by
        intro n Q;refine BG n ?_;cases Y:o.dst with
        |none=>rw[Y]at Q;simp only[iz]at Q;omega
        |some d=>rw[Y]at Q;simp only[iz]at Q;omega
       obtain⟨k1,k2⟩:=Ws (ns:=(kC 0 L).map (·.1)) (cn:=cn) T tD L (iR (eH c.ps) y.2) (fe c.ro y.1).len g2;rw[o9]at k1;rw[ak,apq Z O ?_ ?_ k2]
       ·exact apv Z O he hd E
       ·cases hm:cx e ((kC 0 L).map (·.1))with
        |false=>rfl
        | true=>
         obtain⟨u,O,e1⟩:=List.mem_map.1 (tE.1 hm);have:=Wo L 0 g2 u O
         grind
       ·cases hm:cx e cn with
        |false=>rfl
        |true=>have:=k1 e (tE.1 hm);rw[T]at this;cases this
     ·cases E
   ·cases h
def A.Oh{y:A}(h:y.fJ=true)(n:Nat):y.drop n=y:=by
 cases y with
 |lf l=>cases l<;>first|rfl|cases h
 | agg cs=>
  refine bH A.agg ?_
  conv=>rhs;rw[<-List.map_id cs]
  refine lN λl hl=>?_
  have:=cI.1 h l hl;cases l<;>first|rfl|cases this
 |_=>cases h
def A.apx{y:A}(h:y.fJ=true)(ns cn:aa Nat):y.bE ns cn=y:=by
 cases y with
 |lf l=>cases l<;>first|rfl|cases h
 | agg cs=>
  refine bH A.agg ?_
  conv=>rhs;rw[<-List.map_id cs]
  refine lN λl hl=>?_
  have:=cI.1 h l hl;cases l<;>first|rfl|cases this
 |_=>cases h
def H8:∀ (xs:aa V) (c:Nat) (σ:S) {t:Nat},(σ.t t).fJ=true -> (iH c σ xs).t t=σ.t t
 |[],c,σ,t,h=>rfl
 | y :: xs,c,σ,t,h=>by
  simp[iH];cases y.aD with
  |true=>exact H8 xs _ σ h
  | false=>
   simp;have C:(((σ.drop c).root c (.sl y)).t t)=σ.t t:=by rw[acA];exact A.Oh h c
   rw[H8 xs _ _ (by rw[C];exact h),C]
def Wt:∀ (ps:aa Pt) (c:Nat) (σ:S) {t:Nat},(σ.t t).fJ=true -> (lz c σ ps).t t=σ.t t
 |[],c,σ,t,h=>rfl
 | q :: ps,c,σ,t,h=>by
  simp[lz];have C:=H8 q.2 c σ h;rw[Wt ps _ _ (by rw[C];exact h),C]
def apy{C:ah Tmp}{D:fW}{E:S}(h:mN N σ C D some=some E){t:Nat}(I:(σ.t t).fJ=true)(L:C≠some t):E.t t=σ.t t:=by
 cases C with
 | none=>
  injection h with h;rw[<- h]
 | some d=>
  have J:t≠d:=by rintro rfl;exact L rfl
  unfold mN at h;cases O:Nat.blt d N with
  |false=>simp_all
  | true=>
   simp[O]at h;cases D with
   | one q=>
    simp only at h;split at h
    next y Q=>injection h with h;subst h;exact(cB _ _ _ J).trans (H8 _ _ _ I)
    ·cases h
   | cR ps=>
    injection h with h;subst h;exact(cB _ _ _ J).trans (Wt _ _ _ I)
def apz(fL:fQ P Φ)(C:nR Φ o=true){Q:S}(h:dn P N Φ σ o some=some Q){t:Nat}(L:(σ.t t).fJ=true)(T:o.dst≠some t):Q.t t=σ.t t:=by
 have zB:∃ f args U,o.op = .call { callee:=.value (.func f),args:=args,argTypes:=U }:=by
  unfold nR at C;split at C
  ·grind
  ·cases C
 obtain⟨f,args,U,E⟩:=zB;have dZ:dn P N Φ σ o some=hJ P N Φ σ o some:=by
  unfold dn;rw[show fJ o.op=false by rw[E];rfl,au]
 rw[dZ]at h;cases I:Φ f with
 |none=>simp only[hJ,E,I]at h;cases h
 | some c=>
  cases c with
  |n F=>rw[nR,E]at C;simp[I]at C
  |v c=>rw[nR,E]at C;simp[I]at C
  |i c=>rw[nR,E]at C;simp[I]at C
  |d c=>rw[nR,E]at C;simp[I]at C
  |q c=>rw[nR,E]at C;simp[I]at C
  |c c=>rw[nR,E]at C;simp[I]at C
  | p c=>
   simp only[hJ,E,I]at h;obtain⟨d,tL,h⟩:=gk h;obtain⟨res,oh,J,D,h3⟩:=HG (fL f _ I).2 h;injection D with D;subst D;have Y:t≠d:=by rintro rfl;exact T tL
   unfold pz at J;cases res with
   | one q=>
    simp only at J;split at J
    next y hy=>injection J with J;subst J;exact(cB _ _ _ Y).trans (H8 _ _ _ L)
    ·cases J
   | cR ps=>
    injection J with J;subst J;exact(cB _ _ _ Y).trans (Wt _ _ _ L)
  | m c=>
   simp only[hJ,E,I]at h;unfold l6 at h;split at h
   ·rename_i O tG;cases l7:(once (kC 0 O)&&Nat.ble O.length 40)with
    |false=>grind
    | true=>
     rw[l7,ak]at h;obtain⟨z,D,acN⟩:=Bp _ _ _ _ h;split at D
     ·rename_i y hy;unfold zf at D;generalize Bd N O (iR (eH c.ps) y.2) (nO (iz o.dst) (fe c.ro y.1).len O (iR (eH c.ps) y.2))=ok at D;cases ok with
      |false=>cases D
      | true=>
       rw[ak]at D;have Z:∀ns cn nr,(σ.bE ns cn nr).t t=σ.t t:=λns cn nr=>A.apx L ns cn
       have:=apy (t:=t) D (by rw[Z];exact L) T;rw[this,Z]
     ·cases D
   ·cases h
def apA{E:Nat}{I:aY}{J:A}(L:pG x)(O:nS e u)(Q:pG I)(T:nS E J)(h:e≠E):cT E I J (cT e x u σ)=cT e x u (cT E I J σ):=by
 refine S.ext' (λk=>?_) λn=>?_
 ·simp only[tN];by_cases C:k=E
  ·subst C;rw[bA rfl,bM (Ne.symm h),bA rfl,T.drop (Ne.symm h)]
  ·rw[bM C];by_cases D:k=e
   ·subst D;rw[bA rfl,bA rfl,O.drop h]
   ·rw[bM D,bM D,bM C,A.rI]
 ·simp only[pH];by_cases C:n=E
  ·subst C;rw[bA rfl,bM (Ne.symm h),bA rfl,kP,Q.1]
  ·rw[bM C];by_cases D:n=e
   ·subst D;rw[bA rfl,bA rfl,kP,L.1]
   ·rw[bM D,bM D,bM C];cases σ.m n with
    |none=>rfl
    |some y=>simp[kP,aY.rI]
def apB(J:pG x)(L:nS e u)(O:p e=true)(Q:oA o=true)(T:o.dst≠some e)(C:∀ y∈o.op.operands,(aI σ y).nr p=true/\y ≠ .tmp e){D:S}
  (h:dn P N Φ σ o some=some D):dn P N Φ (cT e x u σ) o some=some (cT e x u D):=by
 obtain⟨U,x',u',Y,Np,Z,uK,js,oB⟩:=N6 (o:={ o with guard:=none }) (ops:=#[]) Q rfl h;have eI:e≠U:=by rintro rfl;exact T Y
 have E:=oB (cT e x u σ) rfl λy I=>wR (C y I).1 O (C y I).2
 rw[apA J L Z uK eI,<- js]at E;exact E
def apC(D:oA o=true){C:S}(h:dn P N Φ σ o some=some C){t:Nat}(E:(σ.t t).fJ=true)(I:o.dst≠some t):C.t t=σ.t t:=by
 obtain⟨J,T,U,L,Y,Z,uK,O,oB⟩:=N6 (o:={ o with guard:=none }) (ops:=#[]) D rfl h;have Q:t≠J:=by rintro rfl;exact I L
 rw[O,tN,bM Q,A.Oh E]
def apD(T:pG x)(U:nS e u)(C:p e=true)(Y:isApp o=true)(Z:o.dst≠some e)(J:∀ y∈o.op.operands,(aI σ y).nr p=true/\y ≠ .tmp e){L:S}
  (h:dn P N Φ σ o some=some L):dn P N Φ (cT e x u σ) o some=some (cT e x u L):=by
 obtain⟨a,b,t,t',I,hn,lX,hk⟩:=Wb Y;have E:=J a (by rw[I];simp[Op.operands,Call.operands]);have hb:=J b (by rw[I];simp[Op.operands,Call.operands]);rw[HZ I hn lX hk]at h ⊢;obtain⟨d,O,h⟩:=gk h;obtain⟨r,v,js,hr,oB⟩:=N7 h;have Og:d≠e:=by rintro rfl;exact Z O
 have Q:r≠e:=by
  rcases hr with h1|h1
  ·simp_all
  ·rintro rfl;have D:=E.1;rw[h1]at D;simp[A.nr,Lf.nr,fC,C]at D
 unfold eN;rw[O];simp only;rw[wR E.1 C E.2,wR hb.1 C hb.2,oB (cT e x u σ) (λk=>apr hb.1 C) (λr' v' gY sn=>?_)]
 ·rw[acC v T U (Ne.symm Q),Eb Og,js];have:bK e [r]=false:=by simp[bK,Q]
  simp[A.drop,Lf.drop,this,au]
 ·have eI:r'≠e:=by
   rintro rfl;have D:=E.1;rw[gY]at D;simp[A.nr,Lf.nr,fC,C]at D
  rw[pH,bM eI,sn];rfl
def apE(D:isApp o=true){C:S}(h:dn P N Φ σ o some=some C){t:Nat}(E:(σ.t t).fJ=true)(I:o.dst≠some t):C.t t=σ.t t:=by
 obtain⟨a,b,Z,t2,J,L,O,Q⟩:=Wb D;rw[HZ J L O Q]at h;obtain⟨d,T,h⟩:=gk h;obtain⟨r,v,U,hr,oB⟩:=N7 h;have Y:t≠d:=by rintro rfl;exact I T
 rw[U];show bW ((σ.drop r).root r _).t d _ t=_;rw[cB _ _ _ Y];exact A.Oh E r
def acO(C:∃ ty t y,o.op = .store ty (.tmp t) y/\o.dst=none /\ ∃ r j,σ.t t = .aG r j){I:S}(h:dn P N Φ σ o some=some I):∃ t y r j cs xs,o.op.operands = #[.tmp t,y]/\σ.t t = .aG r j/\(aI σ y).yL=some xs/\σ.m r=some (.aB cs)/\I=σ.root r (.aB (splice cs j xs)) /\
  ∀(σ2:S) (D:aa Lf),σ2.t t = .aG r j -> aI σ2 y=aI σ y -> σ2.m r=some (.aB D) -> D.length=cs.length -> dn P N Φ σ2 o some=some (σ2.root r (.aB (splice D j xs))):=by
 obtain⟨ty,t,y,C,Q,r,j,J⟩:=C;have L:∀ σ2:S,σ2.t t = .aG r j -> dn P N Φ σ2 o some=nJ P σ2 ty (.aG r j) (aI σ2 y) some:=by
  intro σ2 E;unfold dn;rw[show fJ o.op=false by rw[C];rfl,au];simp[hJ,C,Q];have T:aI σ2 (.tmp t) = .aG r j:=E;rw[T,show uY _ _=false from rfl,au]
 rw[L σ J]at h;unfold nJ at h;split at h
 ·rename_i n xs U O;split at h
  ·rename_i hlen;simp only at h;split at h
   ·rename_i cs Y;split at h
    ·rename_i Z;cases hl:xs.all Lf.live with
     |false=>simp_all
     | true=>
      rw[hl,ak]at h;injection h with h
      refine⟨t,y,r,j,cs,xs,by rw[C];rfl,J,O,Y,h.symm,λσ2 D h1 E h3 h4=>?_⟩
      rw[L σ2 h1,E];simp only[nJ,U,O,bA hlen,h3];rw[bA (by rw[h4];exact Z),hl];rfl
    ·cases h
   ·cases h
  ·cases h
 ·cases h
def acP(C:HQ o=true)(E:wN σ o=true):∃ ty t y,o.op = .store ty (.tmp t) y/\o.dst=none /\ ∃ r j,σ.t t = .aG r j:=by
 unfold HQ at C;rw[aO]at C;obtain⟨D,I⟩:=C;split at D
 ·rename_i ty t y J;refine⟨ty,t,y,J,Option.isNone_iff_eq_none.1 I,?_⟩;unfold wN at E
  grind
 ·cases D
def apF{y:A}{xs:aa Lf}(h:y.yL=some xs)(C:y.nr p=true):xs.all (Lf.nr p)=true:=by
 cases y with
 |lf l=>injection h with h;subst h;simpa [A.nr]using C
 |agg cs=>injection h with h;subst h;exact C
 |_=>cases h
def apG(hx:pG x)(hu:nS e u)(C:p e=true)(Y:HQ o=true)(Z:wN σ o=true)(J:∀ y∈o.op.operands,(aI σ y).nr p=true/\y ≠ .tmp e){L:S}
  (h:dn P N Φ σ o some=some L):dn P N Φ (cT e x u σ) o some=some (cT e x u L):=by
 obtain⟨t,y,r,j,cs,xs,O,Q,g3,g4,g5,g6⟩:=acO (acP Y Z) h;have D:=J (.tmp t) (by rw[O];simp);have E:=J y (by rw[O];simp);have e1:(cT e x u σ).t t = .aG r j:=(wR D.1 C D.2).trans Q;have T:r≠e:=by
  have U:=D.1;have h3:aI σ (.tmp t) = .aG r j:=Q;rw[h3]at U;exact ao2 U C
 have e3:(cT e x u σ).m r=some (.aB (cs.map (Lf.drop e))):=by
  rw[pH,bM T,g4];rfl
 have qY:=mO.l8 (apF g3 E.1) C;rw[g6 (cT e x u σ) _ e1 (wR E.1 C E.2) e3 (by rw[dB]),g5];congr 1
 refine S.ext' (λk=>?_) λn=>?_
 ·rfl
 ·show bW (cT e x u σ).m r (some (.aB (splice (cs.map (Lf.drop e)) j xs))) n=(cT e x u (σ.root r (.aB (splice cs j xs)))).m n;rw[pH];by_cases I:n=r
  ·subst I;rw[ck,bM T];show _=(bW σ.m n (some _) n).map _;rw[ck];simp[kP,aY.drop,splice,List.map_append,List.map_take,List.map_drop,qY]
  ·rw[cB _ _ _ I,pH];have:(σ.root r (.aB (splice cs j xs))).m n=σ.m n:=cB _ _ _ I;rw[this]
def apH(D:HQ o=true)(E:wN σ o=true){C:S}(h:dn P N Φ σ o some=some C)(t:Nat):C.t t=σ.t t:=by
 obtain⟨_,_,r,j,cs,xs,_,_,_,_,I,_⟩:=acO (acP D E) h;rw[I];rfl
def apI(Q:fQ P Φ)(C:pG x)(D:nS e u)(T:e<20000)(E:p e=true)(U:∀ n,20000<=n->p n=false)(J:HR Φ o=true)(Y:wN σ o=true)(L:o.dst≠some e)(I:∀ y∈o.op.operands,(aI σ y).nr p=true/\y ≠ .tmp e)(hl:∀ n∈qq Φ σ o,wO σ p n=true){O:S}
  (h:dn P N Φ σ o some=some O):dn P N Φ (cT e x u σ) o some=some (cT e x u O):=by
 unfold HR at J;rw[eB,eB,eB]at J;rcases J with ((hc|hc)|hc)|hc
 ·exact apw Q C D T E U hc L I hl h
 ·exact apB C D E hc L I h
 ·exact apD C D E hc L I h
 ·exact apG C D E hc Y I h
def apJ(J:fQ P Φ)(C:HR Φ o=true)(L:wN σ o=true){I:S}(h:dn P N Φ σ o some=some I){t:Nat}(D:(σ.t t).fJ=true)(E:o.dst≠some t):I.t t=σ.t t:=by
 unfold HR at C;rw[eB,eB,eB]at C;rcases C with ((hc|hc)|hc)|hc
 ·exact apz J hc h D E
 ·exact apC hc h D E
 ·exact apE hc h D E
 ·exact apH hc L h t
end
end Go.Proofs.YtglnbhiaknohlaaGreat
