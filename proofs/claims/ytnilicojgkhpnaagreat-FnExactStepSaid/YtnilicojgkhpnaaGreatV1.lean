/-
  Running the program over pure contents, and that it follows (part 1). Nothing here is a claim.
-/
import Derived.Test.YtnilicojgkhpnaaGreatAppend
import Derived.Test.YtnilicojgkhpnaaGreatLaws
import Derived.Handy
import Derived.Great.BuildSlice
import Derived.ArgAppend
set_option linter.unusedSimpArgs false
namespace Go.Proofs.YtnilicojgkhpnaaGreat
open Go.RowKit
set_option linter.defProp false
abbrev aa:=List
abbrev ah:=Option
abbrev af:=Unit
set_option linter.unusedVariables false
set_option linter.unusedSimpArgs false
structure aP where
 cg:Int
 ay:Int
 rows:Int
 aO:Int
structure aF where
 au:Int
 row:Int
 bG:Int
structure iF where
 order:Int
 hash:Bool
structure aD where
 kind:Int
 au:Int
 row:Int
 bG:Int
structure cI where
 iG:Int
 rp:Int
 fO:Int
 kS:Int
 iH:Int
 iI:Int
 kT:Int
 kU:Int
 hD:Int
 wr:Int
 kV:Int
 kW:Int
 n6:Int
 kX:Int
 lY:Int
 xp:Int
 xs:Int
structure cC where
 open_:Bool
 row:Int
structure bV where
 ay:List cC
 aS:Int
structure cz where
 at_:Int
 cmd:aD
structure cP where
 last:List Int
 bg:List Int
structure bC where
 symbols:List Int
 gx:Bool
structure cF where
 cells:List bC
 bh:List Int
 aZ:List Int
structure gR where
 bh:Int
 aZ:Int
structure bI where
 rows:List Int
 counts:List Int
 cE:Int
structure eg where
 bT:Int
 map:List Int
structure cK where
 aE:List Int
 wait:Int
 dj:Bool
structure bk where
 id:Int
 de:Int
 line:Int
 write:Bool
 data:Int
 at_:Int
structure bM where
 weight:Int
 dU:Int
structure fI where
 on:Bool
 low:Int
 high:Int
structure dL where
 state:Int
 since:Int
 idle:Int
structure jw where
 down:Int
 sleep:Int
structure bK where
 line:Int
 code:Int
 times:Int
structure jJ where
 next:Int
 every:Int
 wait:Int
structure eE where
 dR:Int
 cap:Int
 eI:Int
 low:Int
 high:Int
 weights:List Int
 dO:jw
structure fP where
 bz:eE
 next:eE
 waits:Bool
structure gp where
 aB:aP
 bQ:cI
 mapping:iF
 bT:Int
 interval:Int
 gy:Int
 dg:gR
structure cG where
 id:Int
 at_:Int
 data:Int
 code:Int
structure av where
 config:gp
 box:fP
 now:Int
 aX:bV
 ready:cP
 array:cF
 spare:eg
 aL:cK
 bx:List bI
 guard:List Int
 pending:List aF
 queue:List bk
 shares:List bM
 drain:fI
 aS:dL
 cu:jJ
 errors:List bK
 trace:List cz
 cA:List cG
structure amg where
 kind:Int
 request:bk
 n:Int
 amh:Int
 addr:aF
 xl:eE
inductive TC where
 |int|u8|bool|str
 |en
 |Addr
 |lZ
 |Command
 |iJ
 |eX
 |gG
 |Event
 |je
 |Cell
 |Array
 |kY
 |dV
 |jf
 |jx
 |cQ
 |dz
 |jy
 |Power
 |mb
 |dG
 |mc
 |kj
 |iK
 |Config
 |fo
 |cx
 |Act
 |sl (t:TC)
 |jK
 |zY (g:Nat)
 |FA (g:Nat)
 |zZ (g:Nat)
 |fnCommand (g:Nat)
deriving DecidableEq
def T:TC->Type
 |.int=>Int
 |.u8=>Int
 |.bool=>Bool
 |.str=>ByteArray
 |.en=>aP
 |.Addr=>aF
 |.lZ=>iF
 |.Command=>aD
 |.iJ=>cI
 |.eX=>cC
 |.gG=>bV
 |.Event=>cz
 |.je=>cP
 |.Cell=>bC
 |.Array=>cF
 |.kY=>gR
 |.dV=>bI
 |.jf=>eg
 |.jx=>cK
 |.cQ=>bk
 |.dz=>bM
 |.jy=>fI
 |.Power=>dL
 |.mb=>jw
 |.dG=>bK
 |.mc=>jJ
 |.kj=>eE
 |.iK=>fP
 |.Config=>gp
 |.fo=>cG
 |.cx=>av
 |.Act=>amg
 |.sl t=>aa (T t)
 |.jK=>av
 |.zY _=>Int
 |.FA _=>bk
 |.zZ _=>aF
 |.fnCommand _=>aD
def aA:TC->Nat
 |.jK=>76
 |.zY _=>3
 |.FA _=>8
 |.zZ _=>5
 |.fnCommand _=>6
 |.en=>4
 |.Addr=>3
 |.lZ=>2
 |.Command=>4
 |.iJ=>17
 |.eX=>2
 |.gG=>2
 |.Event=>5
 |.je=>2
 |.Cell=>2
 |.Array=>3
 |.kY=>2
 |.dV=>3
 |.jf=>2
 |.jx=>3
 |.cQ=>6
 |.dz=>2
 |.jy=>3
 |.Power=>3
 |.mb=>2
 |.dG=>3
 |.mc=>3
 |.kj=>8
 |.iK=>17
 |.Config=>28
 |.fo=>4
 |.cx=>75
 |.Act=>20
 |_=>1
def full:TC->Nat
 |.int|.u8|.bool|.str=>0
 |.en=>0
 |.Addr=>0
 |.lZ=>0
 |.Command=>0
 |.iJ=>0
 |.eX=>0
 |.gG=>2
 |.Event=>0
 |.je=>2
 |.Cell=>2
 |.Array=>4
 |.kY=>0
 |.dV=>2
 |.jf=>2
 |.jx=>2
 |.cQ=>0
 |.dz=>0
 |.jy=>0
 |.Power=>0
 |.mb=>0
 |.dG=>0
 |.mc=>0
 |.kj=>2
 |.iK=>2
 |.Config=>0
 |.fo=>0
 |.cx=>4
 |.Act=>2
 |.sl t=>full t+2
 |.jK=>4
 |.zY _=>0
 |.FA _=>0
 |.zZ _=>0
 |.fnCommand _=>0
def tid:TC->TypeId
 |.int=>3
 |.u8=>5
 |.bool=>4
 |.str=>9
 |.en=>67
 |.Addr=>130
 |.lZ=>69
 |.Command=>188
 |.iJ=>68
 |.eX=>356
 |.gG=>80
 |.Event=>287
 |.je=>81
 |.Cell=>306
 |.Array=>84
 |.kY=>70
 |.dV=>255
 |.jf=>85
 |.jx=>86
 |.cQ=>129
 |.dz=>279
 |.jy=>91
 |.Power=>92
 |.mb=>73
 |.dG=>283
 |.mc=>93
 |.kj=>75
 |.iK=>77
 |.Config=>72
 |.fo=>293
 |.cx=>98
 |.Act=>132
 |.sl .int=>32
 |.sl .bool=>422
 |.sl .str=>0
 |_=>0
inductive V where
 |int (k:IntKind) (n:Int)
 |bool (b:Bool)
 |str (s:ByteArray)
 |nil
 |sl (t:TC) (o:Nat) (q:Bool) (l:List (T t))
def V.aV:V->ah Int|.int .i64 n=>some n|_=>none
def V.S0:V->ah Int|.int .u8 n=>some n|_=>none
def V.me:V->ah Bool|.bool b=>some b|_=>none
def V.S1:V->ah ByteArray|.str s=>some s|_=>none
def V.eo(t:TC)(o:Nat):V->ah (aa (T t))
 |.sl D C _ l=>bif Nat.beq C o ||(Nat.ble (full t+2) C&&Nat.ble (full t+2) o)then (if h:D=t then some (h ▸ l)else none)else none
 |.nil=>some []
 |_=>none
inductive Wk:V->V->Prop
 |same (x:V):Wk x x
 |nil (t:TC) (o:Nat):Wk .nil (.sl t o false [])
 |q (t:TC) (o:Nat) (l:List (T t)):Wk (.sl t o true l) (.sl t o false l)
 |gr (t:TC) (o o':Nat) (qn:Bool) (l:List (T t)) (h:full t+2<=o) (h':full t+2<=o'):Wk (.sl t o' qn l) (.sl t o false l)
def jz(xs ys:aa V):Prop:=xs.length=ys.length/\∀(j:Nat) (x y:V),xs[j]?=some x->ys[j]?=some y->Wk x y
def jz.nil:jz [] []:=⟨rfl,by simp⟩
def jz.cons{x y:V}{xs ys:aa V}(h:Wk x y)(k:jz xs ys):jz (x :: xs) (y :: ys):=by
 refine⟨by simp[k.1],λj a b C D=>?_⟩
 cases j with
 |zero=>simp_all
 |succ j=>simp at C D;exact k.2 j a b C D
def V.ami{x:V}{n:Int}(h:x.aV=some n):Wk x (.int .i64 n):=by
 unfold V.aV at h;split at h<;>first|(injection h with h;subst h;exact .same _)|cases h
def V.amj{x:V}{n:Int}(h:x.S0=some n):Wk x (.int .u8 n):=by
 unfold V.S0 at h;split at h<;>first|(injection h with h;subst h;exact .same _)|cases h
def V.amk{x:V}{n:Bool}(h:x.me=some n):Wk x (.bool n):=by
 unfold V.me at h;split at h<;>first|(injection h with h;subst h;exact .same _)|cases h
def V.aml{x:V}{n:ByteArray}(h:x.S1=some n):Wk x (.str n):=by
 unfold V.S1 at h;split at h<;>first|(injection h with h;subst h;exact .same _)|cases h
def V.FB{x:V}{t:TC}{o:Nat}{l:aa (T t)}(h:x.eo t o=some l):Wk x (.sl t o false l):=by
 unfold V.eo at h;split at h
 ·rename_i E C q L;cases hc:(Nat.beq C o || (Nat.ble (full t+2) C&&Nat.ble (full t+2) o))with
  |false=>simp_all
  | true=>
   rw[hc,cond_true]at h;split at h
   ·rename_i D;subst D;injection h with h;subst h;rw[Bool.or_eq_true,Bool.and_eq_true]at hc;rcases hc with hc | hc
    ·obtain rfl:=Nat.eq_of_beq_eq_true hc;cases q
     ·exact .same _
     ·exact .q _ _ _
    ·exact .gr _ _ _ _ _ (Nat.le_of_ble_eq_true hc.2) (Nat.le_of_ble_eq_true hc.1)
   ·cases h
 ·injection h with h;subst h;exact .nil _ _
 ·cases h
def CL(x:aF)(o:Nat):aa V:=[.int .i64 x.au,.int .i64 x.row,.int .i64 x.bG]
def CM(x:aD)(o:Nat):aa V:=[.int .i64 x.kind,.int .i64 x.au,.int .i64 x.row,.int .i64 x.bG]
def CN(x:bk)(o:Nat):aa V:=[.int .i64 x.id,.int .i64 x.de,.int .i64 x.line,.bool x.write,.int .i64 x.data,.int .i64 x.at_]
def CO(x:av)(o:Nat):aa V:=[.int .i64 x.config.aB.cg,.int .i64 x.config.aB.ay,.int .i64 x.config.aB.rows,.int .i64 x.config.aB.aO,.int .i64 x.config.bQ.iG,.int .i64 x.config.bQ.rp,.int .i64 x.config.bQ.fO,.int .i64 x.config.bQ.kS,.int .i64 x.config.bQ.iH,.int .i64 x.config.bQ.iI,.int .i64 x.config.bQ.kT,.int .i64 x.config.bQ.kU,.int .i64 x.config.bQ.hD,.int .i64 x.config.bQ.wr,.int .i64 x.config.bQ.kV,.int .i64 x.config.bQ.kW,.int .i64 x.config.bQ.n6,.int .i64 x.config.bQ.kX,.int .i64 x.config.bQ.lY,.int .i64 x.config.bQ.xp,.int .i64 x.config.bQ.xs,.int .i64 x.config.mapping.order,.bool x.config.mapping.hash,.int .i64 x.config.bT,.int .i64 x.config.interval,.int .i64 x.config.gy,.int .i64 x.config.dg.bh,.int .i64 x.config.dg.aZ,.int .i64 x.box.bz.dR,.int .i64 x.box.bz.cap,.int .i64 x.box.bz.eI,.int .i64 x.box.bz.low,.int .i64 x.box.bz.high,.sl .int o false x.box.bz.weights,.int .i64 x.box.bz.dO.down,.int .i64 x.box.bz.dO.sleep,.int .i64 x.box.next.dR,.int .i64 x.box.next.cap,.int .i64 x.box.next.eI,.int .i64 x.box.next.low,.int .i64 x.box.next.high,.sl .int o false x.box.next.weights,.int .i64 x.box.next.dO.down,.int .i64 x.box.next.dO.sleep,.bool x.box.waits,.int .i64 x.now,.sl .eX o false x.aX.ay,.int .i64 x.aX.aS,.sl .int o false x.ready.last,.sl .int o false x.ready.bg,.sl .Cell o false x.array.cells,.sl .int o false x.array.bh,.sl .int o false x.array.aZ,.int .i64 x.spare.bT,.sl .int o false x.spare.map,.sl .int o false x.aL.aE,.int .i64 x.aL.wait,.bool x.aL.dj,.sl .dV o false x.bx,.sl .int o false x.guard,.sl .Addr o false x.pending,.sl .cQ o false x.queue,.sl .dz o false x.shares,.bool x.drain.on,.int .i64 x.drain.low,.int .i64 x.drain.high,.int .i64 x.aS.state,.int .i64 x.aS.since,.int .i64 x.aS.idle,.int .i64 x.cu.next,.int .i64 x.cu.every,.int .i64 x.cu.wait,.sl .dG o false x.errors,.sl .Event o false x.trace,.sl .fo o false x.cA]
def enc:(t:TC)->(o:Nat)->T t->aa V
 |.int,_,x=>[.int .i64 x]
 |.u8,_,x=>[.int .u8 x]
 |.bool,_,x=>[.bool x]
 |.str,_,x=>[.str x]
 |.en,o,x=>[.int .i64 x.cg,.int .i64 x.ay,.int .i64 x.rows,.int .i64 x.aO]
 |.Addr,o,x=>CL x o
 |.lZ,o,x=>[.int .i64 x.order,.bool x.hash]
 |.Command,o,x=>CM x o
 |.iJ,o,x=>[.int .i64 x.iG,.int .i64 x.rp,.int .i64 x.fO,.int .i64 x.kS,.int .i64 x.iH,.int .i64 x.iI,.int .i64 x.kT,.int .i64 x.kU,.int .i64 x.hD,.int .i64 x.wr,.int .i64 x.kV,.int .i64 x.kW,.int .i64 x.n6,.int .i64 x.kX,.int .i64 x.lY,.int .i64 x.xp,.int .i64 x.xs]
 |.eX,o,x=>[.bool x.open_,.int .i64 x.row]
 |.gG,o,x=>[.sl .eX o false x.ay,.int .i64 x.aS]
 |.Event,o,x=>[.int .i64 x.at_,.int .i64 x.cmd.kind,.int .i64 x.cmd.au,.int .i64 x.cmd.row,.int .i64 x.cmd.bG]
 |.je,o,x=>[.sl .int o false x.last,.sl .int o false x.bg]
 |.Cell,o,x=>[.sl .int o false x.symbols,.bool x.gx]
 |.Array,o,x=>[.sl .Cell o false x.cells,.sl .int o false x.bh,.sl .int o false x.aZ]
 |.kY,o,x=>[.int .i64 x.bh,.int .i64 x.aZ]
 |.dV,o,x=>[.sl .int o false x.rows,.sl .int o false x.counts,.int .i64 x.cE]
 |.jf,o,x=>[.int .i64 x.bT,.sl .int o false x.map]
 |.jx,o,x=>[.sl .int o false x.aE,.int .i64 x.wait,.bool x.dj]
 |.cQ,o,x=>CN x o
 |.dz,o,x=>[.int .i64 x.weight,.int .i64 x.dU]
 |.jy,o,x=>[.bool x.on,.int .i64 x.low,.int .i64 x.high]
 |.Power,o,x=>[.int .i64 x.state,.int .i64 x.since,.int .i64 x.idle]
 |.mb,o,x=>[.int .i64 x.down,.int .i64 x.sleep]
 |.dG,o,x=>[.int .i64 x.line,.int .i64 x.code,.int .i64 x.times]
 |.mc,o,x=>[.int .i64 x.next,.int .i64 x.every,.int .i64 x.wait]
 |.kj,o,x=>[.int .i64 x.dR,.int .i64 x.cap,.int .i64 x.eI,.int .i64 x.low,.int .i64 x.high,.sl .int o false x.weights,.int .i64 x.dO.down,.int .i64 x.dO.sleep]
 |.iK,o,x=>[.int .i64 x.bz.dR,.int .i64 x.bz.cap,.int .i64 x.bz.eI,.int .i64 x.bz.low,.int .i64 x.bz.high,.sl .int o false x.bz.weights,.int .i64 x.bz.dO.down,.int .i64 x.bz.dO.sleep,.int .i64 x.next.dR,.int .i64 x.next.cap,.int .i64 x.next.eI,.int .i64 x.next.low,.int .i64 x.next.high,.sl .int o false x.next.weights,.int .i64 x.next.dO.down,.int .i64 x.next.dO.sleep,.bool x.waits]
 |.Config,o,x=>[.int .i64 x.aB.cg,.int .i64 x.aB.ay,.int .i64 x.aB.rows,.int .i64 x.aB.aO,.int .i64 x.bQ.iG,.int .i64 x.bQ.rp,.int .i64 x.bQ.fO,.int .i64 x.bQ.kS,.int .i64 x.bQ.iH,.int .i64 x.bQ.iI,.int .i64 x.bQ.kT,.int .i64 x.bQ.kU,.int .i64 x.bQ.hD,.int .i64 x.bQ.wr,.int .i64 x.bQ.kV,.int .i64 x.bQ.kW,.int .i64 x.bQ.n6,.int .i64 x.bQ.kX,.int .i64 x.bQ.lY,.int .i64 x.bQ.xp,.int .i64 x.bQ.xs,.int .i64 x.mapping.order,.bool x.mapping.hash,.int .i64 x.bT,.int .i64 x.interval,.int .i64 x.gy,.int .i64 x.dg.bh,.int .i64 x.dg.aZ]
 |.fo,o,x=>[.int .i64 x.id,.int .i64 x.at_,.int .i64 x.data,.int .i64 x.code]
 |.cx,o,x=>CO x o
 |.Act,o,x=>[.int .i64 x.kind,.int .i64 x.request.id,.int .i64 x.request.de,.int .i64 x.request.line,.bool x.request.write,.int .i64 x.request.data,.int .i64 x.request.at_,.int .i64 x.n,.int .i64 x.amh,.int .i64 x.addr.au,.int .i64 x.addr.row,.int .i64 x.addr.bG,.int .i64 x.xl.dR,.int .i64 x.xl.cap,.int .i64 x.xl.eI,.int .i64 x.xl.low,.int .i64 x.xl.high,.sl .int o false x.xl.weights,.int .i64 x.xl.dO.down,.int .i64 x.xl.dO.sleep]
 |.sl t,o,x=>[.sl t o false x]
 |.jK,o,x=>.bool true::CO x o
 |.zY g,o,x=>.bool false::.int .i64 (g:Int)::[.int .i64 x]
 |.FA g,o,x=>.bool false::.int .i64 (g:Int)::CN x o
 |.zZ g,o,x=>.bool false::.int .i64 (g:Int)::CL x o
 |.fnCommand g,o,x=>.bool false::.int .i64 (g:Int)::CM x o
def dF{α β:Type}(g:V->ah β)(f:β->aa V->ah α):aa V->ah α
 |x::cs=>(g x).bind λy=>f y cs
 |[]=>none
def dE{α:Type}(x:α):aa V->ah α
 |[]=>some x
 |_=>none
def V.dn(b:Bool):V->ah Bool|.bool c=>bif c==b then some c else none|_=>none
def V.CP(n:Int):V->ah Int|.int .i64 m=>if m=n then some m else none|_=>none
def DQ{α:Type}(e:α->aa V)(p:aa V->aa V)(d:aa V->ah α):Prop:=∀cs x,d cs=some x->∃L,e x=p L/\jz cs L
def amm{α:Type}{e:α->aa V}{p:aa V->aa V}{x:α}(h:e x=p []):DQ e p (dE x):=λcs y C=>by
 cases cs with
 |nil=>injection C with C;subst C;exact⟨[],h,.nil⟩
 |cons=>cases C
def bind_some{α β:Type}{a:ah α}{f:α -> ah β}{b:β}(h:a.bind f=some b):∃ x,a=some x/\f x=some b:=by
 cases a with
 |none=>cases h
 |some x=>simp_all
def z0{α β:Type}{e:α->aa V}{p:aa V->aa V}{g:V->ah β}{k:β->V}(D:∀ {x y},g x=some y->Wk x (k y)){f:β->aa V->ah α}(E:∀ y,DQ e (λL=>p (k y :: L)) (f y)):DQ e p (dF g f):=λcs x C=>by
 cases cs with
 |nil=>cases C
 | cons c cs=>
  obtain⟨y,O,T⟩:=bind_some C;obtain⟨L,U,Y⟩:=E y cs x T;exact⟨k y::L,U,.cons (D O) Y⟩
def V.amn{b:Bool}{x:V}{c:Bool}(h:x.dn b=some c):Wk x (.bool b):=by
 unfold V.dn at h;split at h
 next C=>cases C<;>cases b<;>first|exact .same _|cases h
 ·cases h
def V.amo{n:Int}{x:V}{c:Int}(h:x.CP n=some c):Wk x (.int .i64 n):=by
 unfold V.CP at h;split at h
 ·split at h
  next C=>subst C;exact .same _
  ·cases h
 ·cases h
abbrev aai (o:Nat):aa V->ah aF:=dF V.aV λC=>dF V.aV λD=>dF V.aV λE=>dE ⟨C,D,E⟩
abbrev aaj (o:Nat):aa V->ah aD:=dF V.aV λC=>dF V.aV λD=>dF V.aV λE=>dF V.aV λL=>dE ⟨C,D,E,L⟩
abbrev aak (o:Nat):aa V->ah bk:=dF V.aV λC=>dF V.aV λD=>dF V.aV λE=>dF V.me λL=>dF V.aV λO=>dF V.aV λT=>dE ⟨C,D,E,L,O,T⟩
abbrev aal (o:Nat):aa V->ah av:=dF V.aV λC=>dF V.aV λD=>dF V.aV λE=>dF V.aV λL=>dF V.aV λO=>dF V.aV λT=>dF V.aV λU=>dF V.aV λY=>dF V.aV λZ=>dF V.aV λx9=>dF V.aV λvc=>dF V.aV λve=>dF V.aV λvf=>dF V.aV λvg=>dF V.aV λvh=>dF V.aV λvi=>dF V.aV λvj=>dF V.aV λFC=>dF V.aV λFD=>dF V.aV λFE=>dF V.aV λS2=>dF V.aV λS3=>dF V.me λS4=>dF V.aV λS5=>dF V.aV λS6=>dF V.aV λS7=>dF V.aV λS8=>dF V.aV λS9=>dF V.aV λx28=>dF V.aV λx29=>dF V.aV λx30=>dF V.aV λx31=>dF V.aV λx32=>dF (V.eo .int o) λx33=>dF V.aV λx34=>dF V.aV λx35=>dF V.aV λx36=>dF V.aV λx37=>dF V.aV λx38=>dF V.aV λx39=>dF V.aV λx40=>dF (V.eo .int o) λx41=>dF V.aV λx42=>dF V.aV λx43=>dF V.me λx44=>dF V.aV λx45=>dF (V.eo .eX o) λx46=>dF V.aV λx47=>dF (V.eo .int o) λx48=>dF (V.eo .int o) λx49=>dF (V.eo .Cell o) λx50=>dF (V.eo .int o) λx51=>dF (V.eo .int o) λx52=>dF V.aV λx53=>dF (V.eo .int o) λx54=>dF (V.eo .int o) λx55=>dF V.aV λx56=>dF V.me λx57=>dF (V.eo .dV o) λx58=>dF (V.eo .int o) λx59=>dF (V.eo .Addr o) λx60=>dF (V.eo .cQ o) λx61=>dF (V.eo .dz o) λx62=>dF V.me λx63=>dF V.aV λx64=>dF V.aV λx65=>dF V.aV λx66=>dF V.aV λx67=>dF V.aV λx68=>dF V.aV λx69=>dF V.aV λx70=>dF V.aV λx71=>dF (V.eo .dG o) λx72=>dF (V.eo .Event o) λx73=>dF (V.eo .fo o) λx74=>dE ⟨⟨⟨C,D,E,L⟩,⟨O,T,U,Y,Z,x9,vc,ve,vf,vg,vh,vi,vj,FC,FD,FE,S2⟩,⟨S3,S4⟩,S5,S6,S7,⟨S8,S9⟩⟩,⟨⟨x28,x29,x30,x31,x32,x33,⟨x34,x35⟩⟩,⟨x36,x37,x38,x39,x40,x41,⟨x42,x43⟩⟩,x44⟩,x45,⟨x46,x47⟩,⟨x48,x49⟩,⟨x50,x51,x52⟩,⟨x53,x54⟩,⟨x55,x56,x57⟩,x58,x59,x60,x61,x62,⟨x63,x64,x65⟩,⟨x66,x67,x68⟩,⟨x69,x70,x71⟩,x72,x73,x74⟩
def dec:(t:TC)->(o:Nat)->aa V->ah (T t)
 |.int,_=>dF V.aV dE
 |.u8,_=>dF V.S0 dE
 |.bool,_=>dF V.me dE
 |.str,_=>dF V.S1 dE
 |.en,o=>dF V.aV λC=>dF V.aV λD=>dF V.aV λE=>dF V.aV λL=>dE ⟨C,D,E,L⟩
 |.Addr,o=>aai o
 |.lZ,o=>dF V.aV λC=>dF V.me λD=>dE ⟨C,D⟩
 |.Command,o=>aaj o
 |.iJ,o=>dF V.aV λC=>dF V.aV λD=>dF V.aV λE=>dF V.aV λL=>dF V.aV λO=>dF V.aV λU=>dF V.aV λY=>dF V.aV λZ=>dF V.aV λx8=>dF V.aV λx9=>dF V.aV λvc=>dF V.aV λve=>dF V.aV λvf=>dF V.aV λvg=>dF V.aV λvh=>dF V.aV λvi=>dF V.aV λvj=>dE ⟨C,D,E,L,O,U,Y,Z,x8,x9,vc,ve,vf,vg,vh,vi,vj⟩
 |.eX,o=>dF V.me λC=>dF V.aV λD=>dE ⟨C,D⟩
 |.gG,o=>dF (V.eo .eX o) λC=>dF V.aV λD=>dE ⟨C,D⟩
 |.Event,o=>dF V.aV λC=>dF V.aV λD=>dF V.aV λE=>dF V.aV λL=>dF V.aV λO=>dE ⟨C,⟨D,E,L,O⟩⟩
 |.je,o=>dF (V.eo .int o) λC=>dF (V.eo .int o) λD=>dE ⟨C,D⟩
 |.Cell,o=>dF (V.eo .int o) λC=>dF V.me λD=>dE ⟨C,D⟩
 |.Array,o=>dF (V.eo .Cell o) λC=>dF (V.eo .int o) λD=>dF (V.eo .int o) λE=>dE ⟨C,D,E⟩
 |.kY,o=>dF V.aV λC=>dF V.aV λD=>dE ⟨C,D⟩
 |.dV,o=>dF (V.eo .int o) λC=>dF (V.eo .int o) λD=>dF V.aV λE=>dE ⟨C,D,E⟩
 |.jf,o=>dF V.aV λC=>dF (V.eo .int o) λD=>dE ⟨C,D⟩
 |.jx,o=>dF (V.eo .int o) λC=>dF V.aV λD=>dF V.me λE=>dE ⟨C,D,E⟩
 |.cQ,o=>aak o
 |.dz,o=>dF V.aV λC=>dF V.aV λD=>dE ⟨C,D⟩
 |.jy,o=>dF V.me λC=>dF V.aV λD=>dF V.aV λE=>dE ⟨C,D,E⟩
 |.Power,o=>dF V.aV λC=>dF V.aV λD=>dF V.aV λE=>dE ⟨C,D,E⟩
 |.mb,o=>dF V.aV λC=>dF V.aV λD=>dE ⟨C,D⟩
 |.dG,o=>dF V.aV λC=>dF V.aV λD=>dF V.aV λE=>dE ⟨C,D,E⟩
 |.mc,o=>dF V.aV λC=>dF V.aV λD=>dF V.aV λE=>dE ⟨C,D,E⟩
 |.kj,o=>dF V.aV λC=>dF V.aV λD=>dF V.aV λE=>dF V.aV λL=>dF V.aV λO=>dF (V.eo .int o) λU=>dF V.aV λY=>dF V.aV λZ=>dE ⟨C,D,E,L,O,U,⟨Y,Z⟩⟩
 |.iK,o=>dF V.aV λC=>dF V.aV λD=>dF V.aV λE=>dF V.aV λL=>dF V.aV λO=>dF (V.eo .int o) λU=>dF V.aV λY=>dF V.aV λZ=>dF V.aV λx8=>dF V.aV λx9=>dF V.aV λvc=>dF V.aV λve=>dF V.aV λvf=>dF (V.eo .int o) λvg=>dF V.aV λvh=>dF V.aV λvi=>dF V.me λvj=>dE ⟨⟨C,D,E,L,O,U,⟨Y,Z⟩⟩,⟨x8,x9,vc,ve,vf,vg,⟨vh,vi⟩⟩,vj⟩
 |.Config,o=>dF V.aV λC=>dF V.aV λD=>dF V.aV λE=>dF V.aV λL=>dF V.aV λO=>dF V.aV λU=>dF V.aV λY=>dF V.aV λZ=>dF V.aV λx8=>dF V.aV λx9=>dF V.aV λvc=>dF V.aV λve=>dF V.aV λvf=>dF V.aV λvg=>dF V.aV λvh=>dF V.aV λvi=>dF V.aV λvj=>dF V.aV λFC=>dF V.aV λFD=>dF V.aV λFE=>dF V.aV λS2=>dF V.aV λS3=>dF V.me λS4=>dF V.aV λS5=>dF V.aV λS6=>dF V.aV λS7=>dF V.aV λS8=>dF V.aV λS9=>dE ⟨⟨C,D,E,L⟩,⟨O,U,Y,Z,x8,x9,vc,ve,vf,vg,vh,vi,vj,FC,FD,FE,S2⟩,⟨S3,S4⟩,S5,S6,S7,⟨S8,S9⟩⟩
 |.fo,o=>dF V.aV λC=>dF V.aV λD=>dF V.aV λE=>dF V.aV λL=>dE ⟨C,D,E,L⟩
 |.cx,o=>aal o
 |.Act,o=>dF V.aV λC=>dF V.aV λD=>dF V.aV λE=>dF V.aV λL=>dF V.me λO=>dF V.aV λU=>dF V.aV λY=>dF V.aV λZ=>dF V.aV λx8=>dF V.aV λx9=>dF V.aV λvc=>dF V.aV λve=>dF V.aV λvf=>dF V.aV λvg=>dF V.aV λvh=>dF V.aV λvi=>dF V.aV λvj=>dF (V.eo .int o) λFC=>dF V.aV λFD=>dF V.aV λFE=>dE ⟨C,⟨D,E,L,O,U,Y⟩,Z,x8,⟨x9,vc,ve⟩,⟨vf,vg,vh,vi,vj,FC,⟨FD,FE⟩⟩⟩
 |.sl t,o=>dF (V.eo t o) dE
 |.jK,o=>dF (V.dn true) λ_=>aal o
 |.zY g,o=>dF (V.dn false) λ_=>dF (V.CP g) λ_=>dF V.aV dE
 |.FA g,o=>dF (V.dn false) λ_=>dF (V.CP g) λ_=>aak o
 |.zZ g,o=>dF (V.dn false) λ_=>dF (V.CP g) λ_=>aai o
 |.fnCommand g,o=>dF (V.dn false) λ_=>dF (V.CP g) λ_=>aaj o
def shp:TC->Nat->aa V
 |.cx,o=>CO ⟨⟨⟨0,0,0,0⟩,⟨0,0,0,0,0,0,0,0,0,0,0,0,0,0,0,0,0⟩,⟨0,false⟩,0,0,0,⟨0,0⟩⟩,⟨⟨0,0,0,0,0,[],⟨0,0⟩⟩,⟨0,0,0,0,0,[],⟨0,0⟩⟩,false⟩,0,⟨[],0⟩,⟨[],[]⟩,⟨[],[],[]⟩,⟨0,[]⟩,⟨[],0,false⟩,[],[],[],[],[],⟨false,0,0⟩,⟨0,0,0⟩,⟨0,0,0⟩,[],[],[]⟩ o
 |_,_=>[]
def jg(t:TC)(o:Nat)(x:T t):(enc t o x).length=aA t:=by cases t<;>rfl
def mY(t:TC):0<aA t:=by cases t<;>simp[aA]
def amp(t:TC)(o:Nat):DQ (enc t o) id (dec t o):=by
 cases t<;>dsimp only[dec]<;>(repeat' first|exact amm rfl|refine z0 V.ami λ_=>?_|refine z0 V.amk λ_=>?_|refine z0 V.FB λ_=>?_|refine z0 V.aml λ_=>?_|refine z0 V.amj λ_=>?_|refine z0 V.amn λ_=>?_|refine z0 V.amo λ_=>?_)
def ko(t:TC)(o:Nat)(cs:aa V)(x:T t)(h:dec t o cs=some x):jz cs (enc t o x):=by
 obtain⟨L,C,D⟩:=amp t o cs x h;rw[C];exact D
def V.low(n:Nat):V->Bool
 |.sl t _ _ _=>Nat.ble (full t+2) n
 |_=>true
def L8(t:TC)(o:Nat)(x:T t):∀ y∈enc t o x,y.low (full t)=true:=by
 cases t<;>simp[enc,V.low,full,CL,CM,CN,CO]
def V.plain:V->Bool
 |.int _ _|.bool _|.str _=>true
 |_=>false
def xm(t:TC)(o:Nat)(x:T t)(h:full t=0):∀ y∈enc t o x,y.plain=true:=by
 cases t<;>first|(simp[full]at h;done)|simp[enc,V.plain,CL,CM,CN]
def V.iL:V->Bool
 |.nil=>false
 |_=>true
def Ta(t:TC)(o:Nat)(x:T t):∀ y∈enc t o x,y.iL=true:=by
 cases t<;>simp[enc,V.iL,CL,CM,CN,CO]
def tcs:aa TC:=[.int,.u8,.bool,.str,.sl .int,.sl .bool,.sl .str,.en,.Addr,.lZ,.Command,.iJ,.eX,.gG,.Event,.je,.Cell,.Array,.kY,.dV,.jf,.jx,.cQ,.dz,.jy,.Power,.mb,.dG,.mc,.kj,.iK,.Config,.fo,.cx,.Act]
def aam(e:TypeId):ah TC:=tcs.find? λt=>Nat.beq (tid t) e
def amq{e:TypeId}{t:TC}(h:aam e=some t):tid t=e:=Nat.eq_of_beq_eq_true (List.find?_some (p:=λt=>Nat.beq (tid t) e) h)
def V.gr(o:Nat):V->Bool
 |.sl _ C _ _=>C==o
 |_=>true
def xo(t:TC)(o:Nat)(x:T t):∀ y∈enc t o x,y.gr o=true:=by
 cases t<;>simp[enc,V.gr,CL,CM,CN,CO]
def V.aC:V->Bool
 |.sl _ o _ _=>decide (o<2)
 |_=>true
def V.fA:V->V
 |.sl t _ q l=>.sl t 0 q l
 |x=>x
def amr(t:TC)(o:Nat)(x y:T t):(enc t o x).map (λv=>(v.plain,v.aC))=(enc t o y).map (λv=>(v.plain,v.aC)):=by cases t<;>rfl
def V.ams(x:V):x.fA.aC=true:=by cases x<;>simp[V.fA,V.aC]
def qi(t:TC)(o:Nat)(x:T t)(C:o<2)(j:Nat)(y:V)(h:(enc t o x)[j]?=some y):y.aC=true:=by
 have:=xo t o x y (List.mem_of_getElem? h);cases y<;>simp_all [V.gr,V.aC]
def aan(t:TC)(o:Nat)(x:T t):enc t 0 x=(enc t o x).map V.fA:=by cases t<;>rfl
def vk(t:TC)(o:Nat)(x:T t)(j:Nat)(y:V)(h:(enc t 0 x)[j]?=some y):∃ z,(enc t o x)[j]?=some z/\y=z.fA:=by
 rw[aan t o x,List.getElem?_map]at h
 grind
def inner:Nat->Nat
 |0=>0
 |1=>1
 |n+2=>n
abbrev bw:=Nat->ah (aa Nat)
inductive RV (w:World) (B:Nat) (aj:bw):List Nat->V->Value->Prop
 |int (q:List Nat) (k:IntKind) (n:Int):RV w B aj q (.int k n) (.int k n)
 |bool (q:List Nat) (b:Bool):RV w B aj q (.bool b) (.bool b)
 |str (q:List Nat) (s:ByteArray):RV w B aj q (.str s) (.string s)
 |nil (q:List Nat):RV w B aj q .nil (.slice none 0 0)
 |dH (q:List Nat) (t:TC) (o:Nat):RV w B aj q (.sl t o false []) (.slice none 0 0)
 |eF (q:List Nat) (t:TC) (o:Nat) (A:Addr) (c:Nat) (ho:o<2):RV w B aj q (.sl t o false []) (.slice (some A) 0 c)
 |eP (q:List Nat) (t:TC) (o:Nat) (A:Addr) (c:Nat) (ho:o<2):RV w B aj q (.sl t o true []) (.slice (some A) 0 c)
 | aC (q:List Nat) (t:TC) (o:Nat) (qn:Bool) (l:List (T t)) (b off cap:Nat) (u:Nat->Nat->Value) (ho:o<2) (hl:aj b=none) (hb:b<w.heap.size) (h1:o=1->B<=b) (gH:l.length<=cap)
   (hc:∀i (h:i<l.length) j x,(enc t o l[i])[j]?=some x->w.cell? ⟨b,off+(i*aA t+j),none⟩=some (u i j))
   (hr:∀i (h:i<l.length) j x,(enc t o l[i])[j]?=some x->RV w B aj [] x (u i j)):RV w B aj q (.sl t o qn l) (.slice (some ⟨b,off,none⟩) l.length cap)
 | own (q:List Nat) (t:TC) (o:Nat) (qn:Bool) (l:List (T t)) (b cap:Nat) (cs:Array Value) (u:Nat->Nat->Value) (hl:aj b=some q) (hh:w.heap[b]?=some (.cells cs (tid t) (0,0)))
   (hs:cs.size=cap*aA t) (hn:l.length<=cap) (hm:cap<=maxLen/\(qn=true->cap=l.length))
   (hc:∀i (h:i<l.length) j x,(enc t o l[i])[j]?=some x->cs[i*aA t+j]?=some (u i j))
   (hr:∀i (h:i<l.length) j x,(enc t o l[i])[j]?=some x->RV w B aj (j::i::aA t::q) x (u i j)):RV w B aj q (.sl t (o+2) qn l) (.slice (some ⟨b,0,none⟩) l.length cap)
section
variable {w w':World} {B:Nat} {aj ax:bw}
def V.FF(n:Nat):V->V
 |.sl t _ q l=>.sl t n q l
 |x=>x
def amt(t:TC)(o n:Nat)(x:T t):enc t n x=(enc t o x).map (V.FF n):=by cases t<;>rfl
def V.fu(n:Nat):V->Prop
 |.sl t o _ _=>full t+2<=o/\full t+2<=n
 |_=>True
def RV.FF{q:aa Nat}{x:V}{v:Value}(h:RV w B aj q x v):∀ n,x.fu n -> RV w B aj q (x.FF n) v:=by
 induction h with
 |int=>exact λ_ _=>.int _ _ _
 |bool=>exact λ_ _=>.bool _ _
 |str=>exact λ_ _=>.str _ _
 |nil=>exact λ_ _=>.nil _
 |dH=>exact λ_ _=>.dH _ _ _
 |eF q t o A c L=>exact λn C=>by have:=C.1;omega
 |eP q t o A c L=>exact λn C=>by have:=C.1;omega
 |aC q t o T l b off cap u L O hb U gH Y Z ih=>exact λn C=>by have:=C.1;omega
 | own q t o T l b cap cs u O hh hs C hm Y Z ih=>
  intro n hf;obtain⟨U,h2⟩:=hf;obtain⟨m,rfl⟩:∃m,n=m+2:=⟨n-2,by omega⟩
  have key:∀ (i:Nat) (h:i<l.length) (j:Nat) (x:V),(enc t m l[i])[j]?=some x -> ∃ y:V,(enc t o l[i])[j]?=some y/\y.FF m=x/\y.fu m:=by
   intro i h j x D;rw[amt t o m l[i],List.getElem?_map]at D;cases E:(enc t o l[i])[j]? with
   |none=>simp_all
   | some y=>
    rw[E]at D;injection D with D;refine⟨y,rfl,D,?_⟩;have g1:=xo t o l[i] y (List.mem_of_getElem? E);have g2:=L8 t o l[i] y (List.mem_of_getElem? E);cases y with
    | sl t' o' q' l'=>
     have e:o'=o:=by simpa [V.gr]using g1
     have:=Nat.le_of_ble_eq_true (show Nat.ble _ _=true from g2);exact⟨by omega,by omega⟩
    |_=>trivial
  refine .own _ _ _ _ _ _ _ cs u O hh hs C hm (λi h j x D=>?_) (λi h j x D=>?_)
  ·grind
  ·grind
def RV.wk{q:aa Nat}{x y:V}{v:Value}(h:RV w B aj q x v)(k:Wk x y):RV w B aj q y v:=by
 cases k with
 |same=>exact h
 |nil t o=>cases h;exact .dH _ _ _
 | gr t o o' O l T h2=>
  have h:=h.FF o ⟨h2,T⟩;cases h with
  |dH=>exact .dH _ _ _
  |eF q t o A c C=>grind
  |eP q t o A c C=>grind
  |aC q t o O l b off cap u C D hb T gH E L=>grind
  |own q t o O l b cap cs u D U Y Z hm E L=>exact .own _ _ _ _ _ _ _ cs u D U Y Z ⟨hm.1,λh=>by cases h⟩ E L
 | q t o l=>
  cases h with
  |eP q t o A c C=>exact .eF _ _ _ _ _ C
  |aC q t o O l b off cap u C D hb T gH E L=>exact .aC _ _ _ _ _ _ _ _ u C D hb T gH E L
  |own q t o O l b cap cs u D U Y Z hm E L=>exact .own _ _ _ _ _ _ _ cs u D U Y Z ⟨hm.1,λh=>by cases h⟩ E L
def RV.map{Q:aa Nat->aa Nat->Prop}(hz:w.heap.size<=w'.heap.size)(h0:∀ b,b<w.heap.size->aj b=none->w'.heap[b]?=w.heap[b]?/\ax b=none)
  (h1:∀b q C,b<w.heap.size->aj b=some q->Q q C->w'.heap[b]?=w.heap[b]?/\ax b=some C/\∀j i s,Q (j::i::s::q) (j::i::s::C)) {q C:aa Nat} {x:V} {v:Value} (h:RV w B aj q x v) (hq:x.aC=true\/Q q C):RV w' B ax C x v:=by
 induction h generalizing C with
 |int=>exact .int _ _ _
 |bool=>exact .bool _ _
 |str=>exact .str _ _
 |nil=>exact .nil _
 |dH=>exact .dH _ _ _
 |eF _ _ _ _ _ D=>exact .eF _ _ _ _ _ D
 |eP _ _ _ _ _ D=>exact .eP _ _ _ _ _ D
 | aC q t o qn l b off cap u D L Z h1' gH O hr T=>
  obtain⟨U,Y⟩:=h0 b Z L;exact .aC _ _ _ _ _ _ _ _ u D Y (Nat.lt_of_lt_of_le Z hz) h1' gH (λi h j x E=>(World.cell?_of_block (a:=⟨b,_,none⟩) U).trans (O i h j x E)) (λi h j x E=>T i h j x E (.inl (qi t o l[i] D j x E)))
 | own q t o qn l b cap cs u L hh hs hn hm O hr T=>
  obtain⟨U,Y,e3⟩:=h1 b q C (Array.getElem?_eq_some_iff.1 hh).1 L (hq.resolve_left (by simp[V.aC]));exact .own _ _ _ _ _ _ _ cs u Y (U.trans hh) hs hn hm O (λi h j x E=>T i h j x E (.inr (e3 _ _ _)))
def RV.aao{q C:aa Nat}{x:V}{v:Value}(h:RV w B aj q x v)(D:x.aC=true)(E:∀ b,aj b=none->ax b=none):RV w B ax C x v:=
 h.map (Q:=λ_ _=>False) (Nat.le_refl _) (λb _ h=>⟨rfl,E b h⟩) (λ_ _ _ _ _ h=>h.elim) (.inl D)
def RV.L9{q:aa Nat}{x:V}{v:Value}(h:RV w B aj q x v)(C:x.aC=true)(D:∀b,aj b=none->ax b=none):RV w B ax q x v:=h.aao C D
def RV.key{q C:aa Nat}{x:V}{v:Value}(h:RV w B aj q x v)(D:x.aC=true):RV w B aj C x v:=h.aao D λ_ h=>h
def kZ:Value->Bool
 |.slice ..=>true
 |_=>false
def RV.Tb{q:aa Nat}{x:V}{u:Value}(h:RV w B aj q x u)(C:x.aC=false):kZ u=true:=by
 cases h<;>first|rfl|cases C
def RV.one{q:aa Nat}{x:V}{u:Value}(h:RV w B aj q x u):u.oneCell'=true:=by
 cases h<;>rfl
def RV.jL{q:aa Nat}{x:V}{v:Value}(h:RV w B aj q x v)(L:w.heap.size<=w'.heap.size)(D:∀ b,b<w.heap.size->w'.heap[b]?=w.heap[b]?/\ax b=aj b):RV w' B ax q x v:=
 h.map (Q:=Eq) L (λb C E=>⟨(D b C).1,(D b C).2.trans E⟩) (λb q O C E e=>by subst e;exact⟨(D b C).1,(D b C).2.trans E,λ_ _ _=>rfl⟩) (.inr rfl)
def RV.apart{q kt:aa Nat}{x:V}{v:Value}{bt:Nat}(h:RV w B aj q x v)(C:aj bt=some kt)(O:¬ q <:+ kt\/x.aC=true)(T:w.heap.size<=w'.heap.size)(E:∀ b,b≠bt->w'.heap[b]?=w.heap[b]?):RV w' B aj q x v:=
 h.map (Q:=λq L=>q=L/\¬ q <:+ kt) T (λb _ D=>⟨E b (by rintro rfl;rw[D]at C;cases C),D⟩) (λb q L _ D e=>by
  obtain⟨rfl,e⟩:=e;exact⟨E b (by rintro rfl;rw[D]at C;injection C with C;subst C;exact e (List.suffix_refl _)),D,λj i s=>⟨rfl,λU=>e (List.IsSuffix.trans ⟨[j,i,s],rfl⟩ U)⟩⟩) (O.symm.imp_right λh=>⟨rfl,h⟩)
def RV.fA{q E:aa Nat}{x:V}{v:Value}(h:RV w B aj q x v){B':Nat}:RV w B' (λ_=>none) E x.fA v:=by
 induction h generalizing E with
 |int=>exact .int _ _ _
 |bool=>exact .bool _ _
 |str=>exact .str _ _
 |nil=>exact .nil _
 |dH=>exact .dH _ _ _
 |eF=>exact .eF _ _ _ _ _ (by first|assumption|omega)
 |eP=>exact .eP _ _ _ _ _ (by first|assumption|omega)
 | aC q t o T l b off cap u ho U Y h1 Z L hr ih=>
  refine .aC _ _ _ _ _ _ _ _ u (by omega) rfl Y (by omega) Z (λi h j x C=>?_) (λi h j x C=>?_)
  ·obtain⟨y,D,_⟩:=vk t o l[i] j x C;simp_all
  ·obtain⟨y,D,rfl⟩:=vk t o l[i] j x C;simp_all
 | own q t o T l b cap cs u U O hs hn hm L hr ih=>
  refine .aC _ _ _ _ _ _ _ _ u (by omega) rfl (Array.getElem?_eq_some_iff.1 O).1 (by omega) hn (λi h j x C=>?_) (λi h j x C=>?_)
  ·obtain⟨y,D,_⟩:=vk t o l[i] j x C;have:=L i h j y D;rw[Nat.zero_add,cell_of_row w b _ cs _ _ O];exact this
  ·obtain⟨y,D,rfl⟩:=vk t o l[i] j x C;simp_all
end
set_option linter.unusedVariables false
inductive Lf where
 |v (x:V)
 |own (k:List Nat)
 |dead
inductive A where
 |undef
 |skip
 |lf (x:Lf)
 |agg (cs:List Lf)
 |dW (xs:List (Bool×List Lf))
 |ptr (k:List Nat)
 |aG (r j:Nat)
 |gS (cs:List V)
 |ld (f:Nat) (cs:List V)
 |pk (r n:Nat)
 |view (k:List Nat) (s i j:Nat)
 |fn (f:Nat) (cap:List (Nat×Nat))
inductive aU where
 |az (cs:List Lf)
 |sl (y:V)
 |mp (l:List (Int×Bool))
 |gh (xs:List A)
structure S where
 t:Nat->A
 m:Nat->Option aU
inductive Loc where
 |az (b off:Nat)
 |dw (v:Value)
 |bN (us:List Value)
def addrAt(w:World)(aj:bw)(ρ:Nat->Loc):aa Nat->ah Addr
 | j :: i :: s :: [r]=>match ρ r with
  |.dw (.slice (some ⟨b,0,none⟩) _ _)=>if aj b=some [r]then some ⟨b,i*s+j,none⟩else none
  |_=>none
 | j :: i :: s :: q=>match (addrAt w aj ρ q).bind w.cell? with
  |some (.slice (some ⟨b,0,none⟩) _ _)=>if aj b=some q then some ⟨b,i*s+j,none⟩else none
  |_=>none
 |_=>none
def cH(w:World)(aj:bw)(ρ:Nat->Loc):aa Nat->ah Value
 | [r]=>match ρ r with
  |.dw v=>some v
  |_=>none
 |q=>(addrAt w aj ρ q).bind w.cell?
def dm(w:World)(B:Nat)(aj:bw)(ρ:Nat->Loc):Lf->Value->Prop
 |.v x,u=>x.aC=true/\RV w B aj [] x u
 |.own k,u=>kZ u=true/\cH w aj ρ k=some u
 |.dead,_=>True
def dM(w:World)(B:Nat)(aj:bw)(ρ:Nat->Loc)(cs:aa Lf)(us:Array Value):Prop:=
 us.size=cs.length/\∀(j:Nat) x,cs[j]?=some x->∃u,us[j]?=some u/\dm w B aj ρ x u
def RP(w:World)(B:Nat)(aj:bw)(ρ:Nat->Loc)(p:Bool×aa Lf)(u:Value):Prop:=
 match p with
 |(true,cs)=>∃us,u = .agg us/\dM w B aj ρ cs us
 |(false,cs)=>dM w B aj ρ cs #[u]
def oT:Nat:=4294967296
def Ma(b n:Nat):Value:=bif Nat.beq n oT then .map (some b)else .slice (some ⟨b,0,none⟩) n n
def Tc{b n:Nat}(h:n<oT):Ma b n = .slice (some ⟨b,0,none⟩) n n:=by
 unfold Ma;cases C:Nat.beq n oT with
 |true=>simp_all
 |false=>rfl
def Td(b:Nat):Ma b oT = .map (some b):=rfl
def RF(w:World)(B:Nat)(aj:bw)(cs:aa V)(u:Value):Prop:=
 ∃b off,u = .pointer (some ⟨b,off,none⟩)/\b<w.heap.size/\aj b=none/\∀(j:Nat) x,cs[j]?=some x->x.aC=true/\∃v,w.cell? ⟨b,off+j,none⟩=some v/\RV w B aj [] x v
def RA(w:World)(B:Nat)(aj:bw)(ρ:Nat->Loc):A->Value->Prop
 |.undef,_=>True
 |.skip,u=>u=Go.undef
 |.lf x,u=>dm w B aj ρ x u
 |.agg cs,u=>RP w B aj ρ (true,cs) u
 |.dW xs,u=>∃us:Array Value,u = .tuple us/\us.size=xs.length/\∀(j:Nat) p,xs[j]?=some p->∃v,us[j]?=some v/\RP w B aj ρ p v
 |.ptr k,u=>∃ad,u = .pointer (some ad)/\addrAt w aj ρ k=some ad
 |.aG r j,u=>∃b off,ρ r = .az b off/\u = .pointer (some ⟨b,off+j,none⟩)
 |.gS cs,u=>RF w B aj cs u
 |.ld f cs,u=>∃pv,u = .func (.func f) #[] #[pv]/\RF w B aj cs pv
 |.pk r n,u=>∃b,ρ r = .az b 0/\u=Ma b n
 |.view k s i j,u=>∃A n c,cH w aj ρ k=some (.slice A n c)/\i<=j/\j<=n/\u=sliced A i j c s
 |.fn f cap,u=>∃C:Array Value,u = .func (.func f) #[] C/\C.size=cap.length/\∀(j:Nat) p,cap[j]?=some p->∃b off,ρ p.1 = .az b off/\C[j]?=some (.pointer (some ⟨b,off+p.2,none⟩))
inductive dx (w:World) (B:Nat) (aj:bw) (ρ:Nat->Loc) (r:Nat):aU->Prop
 | az (b off:Nat) (cells:Array Value) (e:TypeId) (cs:List Lf) (us:Nat->Value) (bW:ρ r = .az b off) (hl:aj b=some [r]) (hh:w.heap[b]?=some (.cells cells e (0,0))) (hs:off+cs.length<=cells.size)
   (hc:∀(j:Nat) x,cs[j]?=some x->cells[off+j]?=some (us j)/\dm w B aj ρ x (us j)):dx w B aj ρ r (.az cs)
 |sl (v:Value) (y:V) (bW:ρ r = .dw v) (hr:RV w B aj [r] y v):dx w B aj ρ r (.sl y)
 |mp (b clock:Nat) (es:Array MapEntry) (l:List (Int×Bool)) (bW:ρ r = .az b 0) (hl:aj b=some [r]) (hh:w.heap[b]?=some (.map es clock)) (he:es.toList.map (λe=>(e.key,e.val))=l.map λp=>(.int .i64 p.1,.bool p.2)):dx w B aj ρ r (.mp l)
 |gh (us:List Value) (xs:List A) (bW:ρ r = .bN us) (hx:∀(j:Nat) x,xs[j]?=some x->RA w B aj ρ x (us.getD j undef)):dx w B aj ρ r (.gh xs)
def Qw(_:World):Prop:=True
structure amu (n:Nat) (L:bw) (w w':World):Prop where
 os:w'.os=w.os
 tape:w'.tape=w.tape
 output:w'.output=w.output
 size:w.heap.size<=w'.heap.size
 block:∀k,k<n->L k=none->w'.heap[k]?=w.heap[k]?
def Hd(w:World)(L:bw):Prop:=∀w',amu w.heap.size L w w'->Qw w'
def amv(w:World)(L:bw):Hd w L:=λ_ _=>trivial
structure Wd where
 w:World
 L:bw
 F:Nat->Option Loc
 held:Hd w L
 low:∀r,r<20000->F r=none
def Wd.heap(d:Wd):Array Obj:=d.w.heap
def Wd.of(w:World)(h:Hd w λ_=>none):Wd:=⟨w,λ_=>none,λ_=>none,h,λ_ _=>rfl⟩
structure gT (d:Wd) (w w':World):Prop where
 os:w'.os=w.os
 tape:w'.tape=w.tape
 output:w'.output=w.output
 size:w.heap.size<=w'.heap.size
 block:∀k,k<d.heap.size->d.L k=none->w'.heap[k]?=w.heap[k]?
def gT.trans{d:Wd}{a b c:World}(h:gT d a b)(k:gT d b c):gT d a c:=
 ⟨k.os.trans h.os,k.tape.trans h.tape,k.output.trans h.output,Nat.le_trans h.size k.size,λi hi C=>(k.block i hi C).trans (h.block i hi C)⟩
def Wd.on(d:Wd){w:World}(h:gT d d.w w){L:bw}(O:∀ b k,L b=some k->d.heap.size<=b\/d.L b≠none):Hd w L:=λw' C=>
 d.held w' ⟨C.os.trans h.os,C.tape.trans h.tape,C.output.trans h.output,Nat.le_trans h.size C.size,λk D E=>by
  have e:L k=none:=by
   cases e:L k with
   |none=>rfl
   | some q=>
    rcases O k q e with h1|h1
    ·exact absurd D (Nat.not_lt.2 h1)
    ·exact absurd E h1
  exact(C.block k (Nat.lt_of_lt_of_le D h.size) e).trans (h.block k D E)⟩
def gT.of{d:Wd}{a b:World}{B:Nat}(h:Below B a b)(hB:d.heap.size<=B):gT d a b:=
 ⟨h.os,h.tape,h.output,h.size,λi hi _=>h.block i (Nat.lt_of_lt_of_le hi hB)⟩
structure Rl (w0:Wd) (N:Nat) (aj:bw) (ρ:Nat->Loc) (σ:S) (a:Act) (w:World):Prop where
 below:gT w0 w0.w w
 cL:∀b k,aj b=some k->(w0.heap.size<=b\/w0.L b≠none)/\b<w.heap.size/\k≠[]
 root:∀r x,σ.m r=some x->dx w w0.heap.size aj ρ r x
 tmp:∀k,RA w w0.heap.size aj ρ (σ.t k) (a.tmps.getD k undef)
 size:a.tmps.size=N
 defers:a.defers=[]
 fix:∀r l,w0.F r=some l->ρ r=l
 cT:∀r,(r<N\/60000<=r)->w0.F r=none
def R(w0:Wd)(N:Nat)(σ:S)(a:Act)(w:World):Prop:=∃aj ρ,Rl w0 N aj ρ σ a w
/-! Reading along a key. -/
inductive vm (m:Nat->Option aU):List Nat->V->Prop
 |root (r:Nat) (y:V) (h:m r=some (.sl y)):vm m [r] y
 |elem (j i:Nat) (q:List Nat) (t:TC) (o:Nat) (qn:Bool) (l:List (T t)) (y:V) (h:vm m q (.sl t (o+2) qn l)) (hi:i<l.length) (hy:(enc t o l[i])[j]?=some y):vm m (j::i::aA t::q) y
section
variable {w w':World} {w0:Wd} {B N:Nat} {aj ax:bw} {ρ ρ':Nat->Loc} {m:Nat->ah aU} {σ:S} {a:Act}
def Aa{q:aa Nat}(j i s:Nat){b n c:Nat}(h:cH w aj ρ q=some (.slice (some ⟨b,0,none⟩) n c))(C:aj b=some q):addrAt w aj ρ (j :: i :: s :: q)=some ⟨b,i*s+j,none⟩:=by
 match q,h,C with
 | [r],h,C=>
  simp[cH]at h;simp[addrAt]
  grind
 | x :: y :: q,h,C=>
  simp[cH]at h;simp[addrAt,h,C,if_true]
def Mb{j i s:Nat}{q:aa Nat}:cH w aj ρ (j::i::s::q)=(addrAt w aj ρ (j::i::s::q)).bind w.cell?:=rfl
def vm.ok{k:aa Nat}{y:V}(h:vm m k y)(D:∀ r x,m r=some x -> dx w B aj ρ r x):∃ u,cH w aj ρ k=some u/\RV w B aj k y u:=by
 induction h with
 | root r y h=>
  cases D _ _ h with
  |sl v y E C=>exact⟨v,by simp[cH,E],C⟩
 | elem j i q t o Z l y h hi L O=>
  obtain⟨u,T,C⟩:=O;cases C with
  |dH=>simp at hi
  |eF=>simp at hi
  |eP=>simp at hi
  |aC _ _ _ _ _ _ _ _ _ ho=>omega
  | own _ _ _ _ _ b cap cs us U Y hs hn D hc C=>
   refine⟨us i j,?_,C i hi j y L⟩;rw[Mb,Aa j i _ T U];show w.cell? _=_;rw[cell_of_row w b _ cs _ _ Y];simp_all
def Ab:∀ (k:aa Nat) (ad:Addr),addrAt w aj ρ k=some ad -> ∃ j i s q,k=j :: i :: s :: q/\aj ad.block=some q/\ad.off=i*s+j/\ad.spot=none/\(∀ r,q=[r] -> ∃ v,ρ r = .dw v)
 |[],_,h=>by simp[addrAt]at h
 | [j,i,s,r],ad,h=>by
  simp only[addrAt]at h
  grind
 | j :: i :: s :: x :: y :: q,ad,h=>by
  simp only[addrAt]at h
  grind
/-! What is forgotten: keys of leaves,of addresses,roots. -/
structure lu where
 l:List Nat->Bool
 p:List Nat->Bool
 r:Nat->Bool
def Lf.cc(f:aa Nat->Bool):Lf->Lf
 |.own k=>bif f k then .dead else .own k
 |x=>x
def A.cc(K:lu):A->A
 |.lf x=>.lf (x.cc K.l)
 |.agg cs=>.agg (cs.map (Lf.cc K.l))
 |.dW xs=>.dW (xs.map λp=>(p.1,p.2.map (Lf.cc K.l)))
 |.ptr k=>bif K.p k then .undef else .ptr k
 |.aG r j=>bif K.r r then .undef else .aG r j
 |.pk r n=>bif K.r r then .undef else .pk r n
 |.view k s i j=>bif K.p k then .undef else .view k s i j
 |.fn f cap=>bif cap.any (λp=>K.r p.1)then .undef else .fn f cap
 |x=>x
def aU.cc(K:lu):aU->aU
 |.az cs=>.az (cs.map (Lf.cc K.l))
 |.gh xs=>.gh (xs.map (A.cc K))
 |x=>x
/-! What names nothing that is forgotten. -/
def Lf.fr(f:aa Nat->Bool):Lf->Bool
 |.own k=>!f k
 |_=>true
def A.fr(K:lu):A->Bool
 |.lf x=>x.fr K.l
 |.agg cs=>cs.all (Lf.fr K.l)
 |.dW xs=>xs.all λq=>q.2.all (Lf.fr K.l)
 |.ptr k=>!K.p k
 |.aG r _=>!K.r r
 |.pk r _=>!K.r r
 |.view k _ _ _=>!K.p k
 |.fn _ cap=>cap.all λq=>!K.r q.1
 |_=>true
def Lf.oU{f:aa Nat->Bool}{x:Lf}(h:x.fr f=true):x.cc f=x:=by
 cases x with
 |own k=>simp only[Lf.cc,show f k=false by simpa [Lf.fr]using h,cond_false]
 |_=>rfl
def oV.oU{f:aa Nat->Bool}{cs:aa Lf}(h:cs.all (Lf.fr f)=true):cs.map (Lf.cc f)=cs:=
 (List.map_congr_left λx C=>Lf.oU (List.all_eq_true.1 h x C)).trans (List.map_id cs)
def A.oU{K:lu}{x:A}(h:x.fr K=true):x.cc K=x:=by
 cases x with
 |lf x=>exact congrArg A.lf (Lf.oU h)
 |agg cs=>exact congrArg A.agg (oV.oU h)
 |dW xs=>exact congrArg A.dW ((List.map_congr_left λq C=>by rw[oV.oU (List.all_eq_true.1 h q C)];rfl).trans (List.map_id xs))
 |ptr k=>simp only[A.cc,show K.p k=false by simpa [A.fr]using h,cond_false]
 |view k=>simp only[A.cc,show K.p k=false by simpa [A.fr]using h,cond_false]
 |aG r=>simp only[A.cc,show K.r r=false by simpa [A.fr]using h,cond_false]
 |pk r=>simp only[A.cc,show K.r r=false by simpa [A.fr]using h,cond_false]
 |fn f cap=>simp only[A.cc,show (cap.any λp=>K.r p.1)=false from List.any_eq_false.2 λp D=>by simpa using List.all_eq_true.1 h p D,cond_false]
 |_=>rfl
def Lf.tE{f g:aa Nat->Bool}(C:∀ k,f k=true->g k=true){x:Lf}(h:x.fr g=true):x.fr f=true:=by
 cases x with
 | own k=>
  have h:(!g k)=true:=h;show (!f k)=true;cases D:f k with
  |false=>rfl
  |true=>rw[C k D]at h;cases h
 |_=>rfl
def A.tE{K J:lu}(C:∀ k,K.l k=true->J.l k=true)(O:∀ k,K.p k=true->J.p k=true)(T:∀ r,K.r r=true->J.r r=true){x:A}(h:x.fr J=true):x.fr K=true:=by
 have D:∀r,(!J.r r)=true->(!K.r r)=true:=λr h=>Lf.tE (x:=.own []) (f:=λ_=>K.r r) (λ_=>T r) h
 cases x with
 |lf x=>exact Lf.tE C h
 |agg cs=>exact List.all_eq_true.2 λc E=>Lf.tE C (List.all_eq_true.1 h c E)
 |dW xs=>exact List.all_eq_true.2 λq L=>List.all_eq_true.2 λc E=>Lf.tE C (List.all_eq_true.1 (List.all_eq_true.1 h q L) c E)
 |ptr k=>exact Lf.tE (x:=.own k) O h
 |view k=>exact Lf.tE (x:=.own k) O h
 |aG r=>exact D r h
 |pk r=>exact D r h
 |fn f cap=>exact List.all_eq_true.2 λq L=>D _ (List.all_eq_true.1 h q L)
 |_=>rfl
def Lf.mZ(x:Lf)(f g:aa Nat->Bool):(x.cc f).cc g=(x.cc g).cc f:=by
 cases x with
 |own k=>cases C:f k<;>cases D:g k<;>simp[Lf.cc,C,D]
 |_=>rfl
def oV.mZ(cs:aa Lf)(f g:aa Nat->Bool):(cs.map (Lf.cc f)).map (Lf.cc g)=(cs.map (Lf.cc g)).map (Lf.cc f):=by
 rw[List.map_map,List.map_map];exact List.map_congr_left λx _=>Lf.mZ x f g
def A.mZ(x:A)(K J:lu):(x.cc K).cc J=(x.cc J).cc K:=by
 cases x with
 |lf x=>exact congrArg A.lf (Lf.mZ x _ _)
 |agg cs=>exact congrArg A.agg (oV.mZ cs _ _)
 | dW xs=>
  refine congrArg A.dW ?_;rw[List.map_map,List.map_map];exact List.map_congr_left λq _=>congrArg (Prod.mk q.1) (oV.mZ q.2 _ _)
 |ptr k=>cases C:K.p k<;>cases D:J.p k<;>simp[A.cc,C,D]
 |view k=>cases C:K.p k<;>cases D:J.p k<;>simp[A.cc,C,D]
 |aG r=>cases C:K.r r<;>cases D:J.r r<;>simp[A.cc,C,D]
 |pk r=>cases C:K.r r<;>cases D:J.r r<;>simp[A.cc,C,D]
 |fn f cap=>cases C:(cap.any λp=>K.r p.1)<;>cases D:(cap.any λp=>J.r p.1)<;>simp only[A.cc,C,D,cond_true,cond_false]
 |_=>rfl
def aU.mZ(x:aU)(K J:lu):(x.cc K).cc J=(x.cc J).cc K:=by
 cases x with
 |az cs=>exact congrArg aU.az (oV.mZ cs _ _)
 | gh xs=>
  refine congrArg aU.gh ?_;rw[List.map_map,List.map_map];exact List.map_congr_left λx _=>A.mZ x K J
 |_=>rfl
def cB(d:Nat)(k:aa Nat):Bool:=k.getLast?==some d
def vn(d:Nat):lu:=⟨cB d,cB d,λr=>Nat.beq r d⟩
def Lf.drop(d:Nat):Lf->Lf:=Lf.cc (cB d)
def A.drop(d:Nat):A->A:=A.cc (vn d)
def aU.drop(d:Nat):aU->aU:=aU.cc (vn d)
def hG(c:Nat->Bool)(k:aa Nat):Bool:=match k.getLast? with
 |some r=>c r
 |none=>false
structure Tr (w w':World) (aj ax:bw) (ρ ρ':Nat->Loc) (t:List Nat->Bool) (c:Nat->Bool):Prop where
 size:w.heap.size<=w'.heap.size
 no:∀b,b<w.heap.size->aj b=none->w'.heap[b]?=w.heap[b]?/\ax b=none
 so:∀b k,aj b=some k->t k=false->w'.heap[b]?=w.heap[b]?/\ax b=some k
 dX:∀r,c r=false->ρ' r=ρ r
 up:∀j i s x q,t (j::i::s::x::q)=t (x::q)
 ne:∀b,aj b=some []->∀k,t k=false
structure lu.OK (K:lu) (t:List Nat->Bool) (c:Nat->Bool):Prop where
 l:∀k,K.l k=false->(k.length=1\/t k=false)/\hG c k=false
 p:∀k,K.p k=false->t k=false/\hG c k=false
 r:∀r,K.r r=false->c r=false
section
variable {t:aa Nat->Bool} {c:Nat->Bool} {K:lu}
def RV.tr(T:Tr w w' aj ax ρ ρ' t c){q:aa Nat}{x:V}{v:Value}(h:RV w B aj q x v)(E:x.aC=true\/t q=false):RV w' B ax q x v:=
 h.map (Q:=λq D=>q=D/\t q=false) T.size T.no (λb q D _ C e=>by
  obtain⟨rfl,e⟩:=e;exact⟨(T.so b q C e).1,(T.so b q C e).2,λj i s=>⟨rfl,by
   cases q with
   |nil=>exact T.ne b C _
   |cons x q=>rw[T.up];exact e⟩⟩) (E.imp_right λh=>⟨rfl,h⟩)
def Mc(j i s x:Nat)(q:aa Nat):hG c (j::i::s::x::q)=hG c (x::q):=by simp[hG,List.getLast?_cons_cons]
def Te(T:Tr w w' aj ax ρ ρ' t c):∀ (k:aa Nat) (ad:Addr),t k=false->hG c k=false->addrAt w aj ρ k=some ad->addrAt w' ax ρ' k=some ad
 |[],_,_,_,h=>by simp[addrAt]at h
 |[_],_,_,_,h=>by simp[addrAt]at h
 |[_,_],_,_,_,h=>by simp[addrAt]at h
 |[_,_,_],_,_,_,h=>by simp[addrAt]at h
 | [j,i,s,r],_,C,D,h=>by
  rw[T.up]at C;rw[Mc]at D;simp only[addrAt]at h ⊢;rw[T.dX r D];split at h
  ·split at h
   next L=>rw[if_pos (T.so _ _ L C).2];exact h
   ·cases h
  ·cases h
 | j :: i :: s :: x :: y :: q,ad,C,D,h=>by
  rw[T.up]at C;rw[Mc]at D;simp only[addrAt]at h ⊢;cases E:addrAt w aj ρ (x::y::q)with
  |none=>rw[E]at h;cases h
  | some Y=>
   rw[Te T _ _ C D E];rw[E]at h;cases O:w.cell? Y with
   |none=>simp[O]at h
   | some v=>
    obtain⟨j',i',s',U,hk,Z,_,_⟩:=Ab _ _ E;have Ac:t U=false:=by
     cases U with
     |nil=>exact T.ne _ Z _
     |cons z U=>rw[<-T.up j' i' s',<-hk];exact C
    have e:w'.cell? Y=some v:=(World.cell?_of_block (T.so _ _ Z Ac).1).trans O;simp only[Option.bind_some,O]at h;simp only[Option.bind_some,e];split at h
    ·split at h
     next L=>rw[if_pos (T.so _ _ L C).2];exact h
     ·cases h
    ·cases h
def Tf(T:Tr w w' aj ax ρ ρ' t c)(k:aa Nat)(u:Value)(C:k.length=1\/t k=false)(D:hG c k=false)(h:cH w aj ρ k=some u):cH w' ax ρ' k=some u:=by
 match k,C,D,h with
 |[],_,_,h=>simp[cH,addrAt]at h
 | [r],_,D,h=>
  simp only[cH]at h ⊢;rw[T.dX r D];exact h
 | x :: y :: q,C,D,h=>
  have C:t (x::y::q)=false:=C.resolve_left (by simp);simp only[cH]at h ⊢;cases E:addrAt w aj ρ (x::y::q)with
  |none=>rw[E]at h;cases h
  | some ad=>
   rw[Te T _ _ C D E];rw[E]at h;have h:w.cell? ad=some u:=h;obtain⟨U,Y,Z,L,hk,O,_,_⟩:=Ab _ _ E;have Ac:t L=false:=by
    cases L with
    |nil=>exact T.ne _ O _
    |cons z L=>rw[<-T.up U Y Z,<-hk];exact C
   exact(World.cell?_of_block (T.so _ _ O Ac).1).trans h
def dm.tr(T:Tr w w' aj ax ρ ρ' t c)(C:K.OK t c){x:Lf}{u:Value}(h:dm w B aj ρ x u):dm w' B ax ρ' (x.cc K.l) u:=by
 cases x with
 |v x=>exact⟨h.1,h.2.tr T (.inl h.1)⟩
 |dead=>trivial
 | own k=>
  show dm w' B ax ρ' (bif K.l k then .dead else .own k) u;cases D:K.l k with
  |true=>trivial
  |false=>exact⟨h.1,Tf T k u (C.l k D).1 (C.l k D).2 h.2⟩
def dM.tr(T:Tr w w' aj ax ρ ρ' t c)(D:K.OK t c){cs:aa Lf}{us:Array Value}(h:dM w B aj ρ cs us):dM w' B ax ρ' (cs.map (Lf.cc K.l)) us:=by
 refine⟨by rw[List.length_map];exact h.1,λj x C=>?_⟩
 rw[List.getElem?_map]at C;obtain⟨y,E,rfl⟩:=Option.map_eq_some_iff.1 C;obtain⟨u,L,r⟩:=h.2 j y E;exact⟨u,L,r.tr T D⟩
def RP.tr(T:Tr w w' aj ax ρ ρ' t c)(C:K.OK t c){p:Bool×aa Lf}{u:Value}(h:RP w B aj ρ p u):RP w' B ax ρ' (p.1,p.2.map (Lf.cc K.l)) u:=by
 obtain⟨b,cs⟩:=p;cases b with
 |true=>obtain⟨us,e,h⟩:=h;exact⟨us,e,h.tr T C⟩
 |false=>exact dM.tr T C h
def RF.tr(T:Tr w w' aj ax ρ ρ' t c){cs:aa V}{u:Value}(h:RF w B aj cs u):RF w' B ax cs u:=by
 obtain⟨b,off,e,C,E,h⟩:=h;obtain⟨L,O⟩:=T.no b C E
 refine⟨b,off,e,Nat.lt_of_lt_of_le C T.size,O,λj x U=>?_⟩
 obtain⟨D,v,Y,Z⟩:=h j x U;exact⟨D,v,(World.cell?_of_block (a:=⟨b,_,none⟩) L).trans Y,Z.tr T (.inl D)⟩
def RA.tr(T:Tr w w' aj ax ρ ρ' t c)(D:K.OK t c){x:A}{u:Value}(h:RA w B aj ρ x u):RA w' B ax ρ' (x.cc K) u:=by
 cases x with
 |undef=>trivial
 |skip=>exact h
 |lf x=>exact dm.tr T D h
 |agg cs=>exact RP.tr T D (p:=(true,cs)) h
 | dW xs=>
  obtain⟨us,e,L,h⟩:=h
  refine⟨us,e,by rw[List.length_map];exact L,λj p E=>?_⟩
  rw[List.getElem?_map]at E;obtain⟨y,O,rfl⟩:=Option.map_eq_some_iff.1 E;obtain⟨v,U,r⟩:=h j y O;exact⟨v,U,r.tr T D⟩
 | ptr k=>
  simp only[A.cc];cases C:K.p k with
  |true=>trivial
  |false=>obtain⟨ad,e,h⟩:=h;exact⟨ad,e,Te T k ad (D.p k C).1 (D.p k C).2 h⟩
 | view k s i j=>
  simp only[A.cc];cases C:K.p k with
  |true=>trivial
  |false=>obtain⟨A,n,c,h,g⟩:=h;exact⟨A,n,c,Tf T k _ (.inr (D.p k C).1) (D.p k C).2 h,g⟩
 | pk r n=>
  simp only[A.cc];cases C:K.r r with
  |true=>trivial
  |false=>obtain⟨b,e,h⟩:=h;exact⟨b,(T.dX r (D.r r C)).trans e,h⟩
 | aG r j=>
  simp only[A.cc];cases C:K.r r with
  |true=>trivial
  |false=>obtain⟨b,off,e,h⟩:=h;exact⟨b,off,(T.dX r (D.r r C)).trans e,h⟩
 |gS cs=>exact RF.tr T h
 |ld f cs=>obtain⟨pv,e,h⟩:=h;exact⟨pv,e,h.tr T⟩
 | fn f cap=>
  simp only[A.cc];cases C:cap.any (λp=>K.r p.1)with
  |true=>trivial
  | false=>
   obtain⟨Y,e,L,h⟩:=h
   refine⟨Y,e,L,λj p E=>?_⟩
   obtain⟨b,off,Z,h2⟩:=h j p E;exact⟨b,off,(T.dX _ (D.r _ (by simpa using List.any_eq_false.1 C p (List.mem_of_getElem? E)))).trans Z,h2⟩
def dx.tr(T:Tr w w' aj ax ρ ρ' t c)(Z:K.OK t c){r:Nat}{x:aU}(h:dx w B aj ρ r x)(D:t [r]=false)(L:c r=false):dx w' B ax ρ' r (x.cc K):=by
 cases h with
 | az b off cells e cs us C E Y hs hc=>
  refine .az b off cells e _ us ((T.dX r L).trans C) (T.so b _ E D).2 ((T.so b _ E D).1.trans Y) (by rw[List.length_map];exact hs) (λj x O=>?_)
  rw[List.getElem?_map]at O;obtain⟨y,U,rfl⟩:=Option.map_eq_some_iff.1 O;exact⟨(hc j y U).1,(hc j y U).2.tr T Z⟩
 |sl v y C hr=>exact .sl v y ((T.dX r L).trans C) (hr.tr T (.inr D))
 |mp b clock es l C E Y he=>exact .mp b clock es l ((T.dX r L).trans C) (T.so b _ E D).2 ((T.so b _ E D).1.trans Y) he
 | gh us xs C O=>
  refine .gh us _ ((T.dX r L).trans C) (λj x hj=>?_)
  rw[List.getElem?_map]at hj;obtain⟨y,U,rfl⟩:=Option.map_eq_some_iff.1 hj;exact(O j y U).tr T Z
end
/-! Nothing is forgotten where old memory stays. -/
def Md:lu:=⟨λ_=>false,λ_=>false,λ_=>false⟩
def A.FG(x:A):x.cc Md=x:=by
 have h:∀cs:aa Lf,cs.all (Lf.fr Md.l)=true:=λcs=>List.all_eq_true.2 λc _=>by cases c<;>rfl
 refine A.oU ?_;cases x with
 |lf x=>cases x<;>rfl
 |agg cs=>exact h cs
 |dW xs=>exact List.all_eq_true.2 λq _=>h q.2
 |fn f cap=>exact List.all_eq_true.2 λ_ _=>rfl
 |_=>rfl
def aU.FG(x:aU):x.cc Md=x:=by
 cases x with
 |az cs=>exact congrArg aU.az (A.agg.inj (A.FG (.agg cs)))
 |gh xs=>exact congrArg aU.gh ((List.map_congr_left λx _=>A.FG x).trans (List.map_id xs))
 |_=>rfl
def Tg(k:aa Nat):hG (λ_=>false) k=false:=by unfold hG;split<;>rfl
def aap:Md.OK (λ_=>false) (λ_=>false):=⟨λk _=>⟨.inr rfl,Tg k⟩,λk _=>⟨rfl,Tg k⟩,λ_ _=>rfl⟩
def Tr.jL(O:w.heap.size<=w'.heap.size)(D:∀ b,b<w.heap.size->w'.heap[b]?=w.heap[b]?/\ax b=aj b)(E:∀ b k,aj b=some k->b<w.heap.size):Tr w w' aj ax ρ ρ (λ_=>false) (λ_=>false):=
 ⟨O,λb L C=>⟨(D b L).1,(D b L).2.trans C⟩,λb k C _=>⟨(D b (E b k C)).1,(D b (E b k C)).2.trans C⟩,λ_ _=>rfl,λ_ _ _ _ _=>rfl,λ_ _ _=>rfl⟩
def RA.jL{x:A}{u:Value}(h:RA w B aj ρ x u)(C:w.heap.size<=w'.heap.size)(D:∀ b,b<w.heap.size->w'.heap[b]?=w.heap[b]?/\ax b=aj b)(E:∀ b k,aj b=some k->b<w.heap.size):RA w' B ax ρ x u:=by
 have:=h.tr (.jL C D E) aap
 rwa [A.FG]at this
def dm.jL{x:Lf}{u:Value}(h:dm w B aj ρ x u)(C:w.heap.size<=w'.heap.size)(D:∀b,b<w.heap.size->w'.heap[b]?=w.heap[b]?/\ax b=aj b)(E:∀b k,aj b=some k->b<w.heap.size):dm w' B ax ρ x u:=RA.jL (x:=.lf x) h C D E
def dM.jL{cs:aa Lf}{us:Array Value}(h:dM w B aj ρ cs us)(C:w.heap.size<=w'.heap.size)(D:∀ b,b<w.heap.size->w'.heap[b]?=w.heap[b]?/\ax b=aj b)(E:∀ b k,aj b=some k->b<w.heap.size):dM w' B ax ρ cs us:=
 ⟨h.1,λj x L=>let ⟨u,hu,r⟩:=h.2 j x L;⟨u,hu,r.jL C D E⟩⟩
def dx.jL{r:Nat}{x:aU}(h:dx w B aj ρ r x)(C:w.heap.size<=w'.heap.size)(D:∀ b,b<w.heap.size->w'.heap[b]?=w.heap[b]?/\ax b=aj b)(E:∀ b k,aj b=some k->b<w.heap.size):dx w' B ax ρ r x:=by
 have:=h.tr (.jL C D E) aap rfl rfl
 rwa [aU.FG]at this
/-! A root's name is given anew. -/
def tF{d:Nat}{t:aa Nat->Bool}{c:Nat->Bool}(E:∀ k,cB d k=false->t k=false)(L:∀ r,r≠d->c r=false):(vn d).OK t c:=by
 have h:∀ k,cB d k=false->hG c k=false:=λk C=>by
  unfold hG;split
  next r D=>exact L r (by rintro rfl;simp[cB,D]at C)
  ·rfl
 exact⟨λk C=>⟨.inr (E k C),h k C⟩,λk C=>⟨E k C,h k C⟩,λr D=>L r (by rintro rfl;simp[vn]at D)⟩
def nc{d r:Nat}(h:r≠d):Nat.beq r d=false:=Bool.eq_false_iff.2 λe=>h (Nat.eq_of_beq_eq_true e)
def Tr.FH{d:Nat}(C:∀ r,r≠d->ρ' r=ρ r):Tr w w aj aj ρ ρ' (λ_=>false) (λr=>Nat.beq r d):=
 ⟨Nat.le_refl _,λ_ _ h=>⟨rfl,h⟩,λ_ _ h _=>⟨rfl,h⟩,λr D=>C r (by rintro rfl;simp at D),λ_ _ _ _ _=>rfl,λ_ _ _=>rfl⟩
def RP.dX{d:Nat}(C:∀r,r≠d->ρ' r=ρ r){p:Bool×aa Lf}{u:Value}(h:RP w B aj ρ p u):RP w B aj ρ' (p.1,p.2.map (Lf.drop d)) u:=h.tr (.FH C) (tF (λ_ _=>rfl) λ_=>nc)
def RA.dX{d:Nat}(C:∀r,r≠d->ρ' r=ρ r){x:A}{u:Value}(h:RA w B aj ρ x u):RA w B aj ρ' (x.drop d) u:=h.tr (.FH C) (tF (λ_ _=>rfl) λ_=>nc)
def dM.dX{d:Nat}(C:∀r,r≠d->ρ' r=ρ r){cs:aa Lf}{us:Array Value}(h:dM w B aj ρ cs us):dM w B aj ρ' (cs.map (Lf.drop d)) us:=h.tr (.FH C) (tF (λ_ _=>rfl) λ_=>nc)
def dm.dX{d:Nat}(C:∀r,r≠d->ρ' r=ρ r){x:Lf}{u:Value}(h:dm w B aj ρ x u):dm w B aj ρ' (x.drop d) u:=h.tr (.FH C) (tF (λ_ _=>rfl) λ_=>nc)
def dx.dX{d r:Nat}(C:∀r,r≠d->ρ' r=ρ r)(D:r≠d){x:aU}(h:dx w B aj ρ r x):dx w B aj ρ' r (x.drop d):=h.tr (.FH C) (tF (λ_ _=>rfl) λ_=>nc) rfl (nc D)
def bO{α:Type}(f:Nat->α)(d:Nat)(x:α):Nat->α:=λk=>bif Nat.beq k d then x else f k
def bR{α:Type}(f:Nat->α)(d:Nat)(x:α):bO f d x d=x:=by simp[bO]
def cw{α:Type}(f:Nat -> α)(d:Nat)(x:α){k:Nat}(h:k≠d):bO f d x k=f k:=by
 have:Nat.beq k d=false:=by
  cases C:Nat.beq k d with
  |false=>rfl
  |true=>simp_all
 simp[bO,this,cond_false]
def S.set(σ:S)(d:Nat)(x:A):S:={ σ with t:=bO σ.t d x }
def S.drop(σ:S)(d:Nat):S:=⟨λk=>(σ.t k).drop d,λr=>bif Nat.beq r d then none else (σ.m r).map (aU.drop d)⟩
def S.root(σ:S)(d:Nat)(x:aU):S:={ σ with m:=bO σ.m d (some x) }
def Rl.set{x:A}{v:Value}{d:Nat}(h:Rl w0 N aj ρ σ a w)(E:RA w w0.heap.size aj ρ x v)(D:d<N):Rl w0 N aj ρ (σ.set d x) (a.put (some d) v) w:=by
 refine⟨h.below,h.cL,h.root,λk=>?_,?_,h.defers,h.fix,h.cT⟩
 ·show RA w _ aj ρ (bO σ.t d x k) ((a.tmps.setIfInBounds d v).getD k undef);by_cases C:k=d
  ·subst C;rw[bR,Array.getD_eq_getD_getElem?,Array.getElem?_setIfInBounds_self];have:k<a.tmps.size:=by rw[h.size];exact D
   simp_all
  ·rw[cw _ _ _ C,Array.getD_eq_getD_getElem?,Array.getElem?_setIfInBounds_ne (Ne.symm C),<- Array.getD_eq_getD_getElem?];exact h.tmp k
 ·show (a.tmps.setIfInBounds d v).size=N;rw[Array.size_setIfInBounds];exact h.size
def Rl.grow(h:Rl w0 N aj ρ σ a w)(C:Below w.heap.size w w')(E:∀ b,b<w.heap.size -> ax b=aj b)(T:∀ b k,w.heap.size <= b -> ax b=some k -> b<w'.heap.size/\k≠[]):Rl w0 N ax ρ σ a w':=by
 have L:∀b,b<w.heap.size -> w'.heap[b]?=w.heap[b]?/\ax b=aj b:=λb O=>⟨C.block b O,E b O⟩
 refine⟨h.below.trans (.of C h.below.size),λb k D=>?_,λr x U=>(h.root r x U).jL C.size L (λb k C=>(h.cL b k C).2.1),λk=>(h.tmp k).jL C.size L (λb k C=>(h.cL b k C).2.1),h.size,h.defers,h.fix,h.cT⟩
 rcases Nat.lt_or_ge b _ with Y|ng
 ·rw[E b Y]at D;have:=h.cL b k D
  grind
 ·have:=T b k ng D;exact⟨.inl (Nat.le_trans h.below.size ng),this.1,this.2⟩
def Rl.new{d:Nat}{x:aU}(h:Rl w0 N aj ρ σ a w)(l:Loc)(U:dx w w0.heap.size aj (bO ρ d l) d x)(O:w0.F d=none):Rl w0 N aj (bO ρ d l) ((σ.drop d).root d x) a w:=by
 have E:∀r,r≠d -> bO ρ d l r=ρ r:=λr D=>cw _ _ _ D
 refine⟨h.below,h.cL,λr y C=>?_,λk=>(h.tmp k).dX E,h.size,h.defers,λr T D=>(E r (by rintro rfl;rw[O]at D;cases D)).trans (h.fix r T D),h.cT⟩
 by_cases D:r=d
 ·subst D;have e:(bO (σ.drop r).m r _) r=some x:=bR _ _ _;have C:(bO (σ.drop r).m r _) r=some y:=C;simp_all
 ·have C:(bO (σ.drop d).m d _) r=some y:=C;rw[cw _ _ _ D]at C;have L:Nat.beq r d=false:=by
   cases L:Nat.beq r d with
   |false=>rfl
   |true=>simp_all
  simp only[S.drop,L,cond_false]at C;cases hm:σ.m r with
  |none=>simp_all
  | some z=>
   rw[hm]at C;injection C with C;subst C;exact(h.root r z hm).dX E D
end
def splice{α:Type}(l:aa α)(j:Nat)(xs:aa α):aa α:=l.take j++xs++l.drop (j+xs.length)
def rm{α:Type}(l:aa α)(j:Nat)(xs:aa α)(h:j+xs.length<=l.length):(splice l j xs).length=l.length:=by
 simp[splice];omega
def vo{α:Type}(l:aa α)(j:Nat)(xs:aa α)(h:j+xs.length <= l.length)(n:Nat):
  (splice l j xs)[n]?=if n<j then l[n]? else if n<j+xs.length then xs[n-j]? else l[n]?:=by
 unfold splice
 grind
structure tG (w w':World) (bt:Nat):Prop where
 size:w'.heap.size=w.heap.size
 os:w'.os=w.os
 tape:w'.tape=w.tape
 output:w'.output=w.output
 block:∀k,k≠bt->w'.heap[k]?=w.heap[k]?
def Me(w:World)(b o:Nat)(l:aa Value):tG w (w.setCells b o l) b:=by
 have g:=aah b l o w;have s:=aag b l o w
 refine⟨s,g.os,g.tape,g.output,λk C=>?_⟩
 rcases Nat.lt_or_ge k _ with D|ng
 ·exact g.block k D (by intro e;injection e with e;exact C e)
 ·simp_all
section
variable {w w':World} {w0:Wd} {B N:Nat} {aj:bw} {ρ:Nat->Loc} {m m':Nat->ah aU} {σ:S} {a:Act} {bt:Nat} {kt:aa Nat}
def oW(w w':World)(aj:bw)(ρ:Nat->Loc):Prop:=∀k ad v,addrAt w aj ρ k=some ad->w.cell? ad=some v->kZ v=true->w'.cell? ad=some v
def Th(D:oW w w' aj ρ):∀ (k:aa Nat) (ad:Addr),addrAt w aj ρ k=some ad -> addrAt w' aj ρ k=some ad
 |[],_,h=>h
 |[_],_,h=>h
 |[_,_],_,h=>h
 |[j,i,s,r],_,h=>by simp only[addrAt]at h ⊢;exact h
 | j :: i :: s :: x :: y :: q,ad,h=>by
  simp only[addrAt]at h ⊢;cases C:addrAt w aj ρ (x::y::q)with
  |none=>simp_all
  | some L=>
   rw[Th D _ _ C];rw[C]at h;cases E:w.cell? L with
   |none=>simp_all
   | some v=>
    simp only[Option.bind_some,E]at h;have O:kZ v=true:=by
     split at h
     next e=>injection e with e;subst e;rfl
     ·cases h
    simp only[Option.bind_some,D _ _ _ C E O];exact h
def aaq(D:oW w w' aj ρ)(k:aa Nat)(u:Value)(E:kZ u=true)(h:cH w aj ρ k=some u):cH w' aj ρ k=some u:=by
 match k,h with
 |[r],h=>exact h
 | x :: y :: q,h=>
  simp[cH]at h ⊢;cases C:addrAt w aj ρ _ with
  |none=>rw[C]at h;cases h
  | some ad=>
   rw[Th D _ _ C];rw[C]at h;exact D _ _ _ C h E
def dm.wrote{x:Lf}{u:Value}(h:dm w B aj ρ x u)(C:tG w w' bt)(D:aj bt=some kt)(E:oW w w' aj ρ):dm w' B aj ρ x u:=by
 cases x with
 |v x=>exact⟨h.1,h.2.apart D (.inr h.1) (Nat.le_of_eq C.size.symm) C.block⟩
 |own k=>exact⟨h.1,aaq E k u h.1 h.2⟩
 |dead=>trivial
def dM.wrote{cs:aa Lf}{us:Array Value}(h:dM w B aj ρ cs us)(C:tG w w' bt)(D:aj bt=some kt)(E:oW w w' aj ρ):dM w' B aj ρ cs us:=
 ⟨h.1,λj x L=>let ⟨u,hu,r⟩:=h.2 j x L;⟨u,hu,r.wrote C D E⟩⟩
def RP.wrote{p:Bool×aa Lf}{u:Value}(h:RP w B aj ρ p u)(C:tG w w' bt)(D:aj bt=some kt)(E:oW w w' aj ρ):RP w' B aj ρ p u:=by
 obtain⟨b,cs⟩:=p;cases b with
 |true=>obtain⟨us,e,h⟩:=h;exact⟨us,e,h.wrote C D E⟩
 |false=>exact dM.wrote h C D E
def RF.wrote{cs:aa V}{u:Value}(h:RF w B aj cs u)(C:tG w w' bt)(E:aj bt=some kt):RF w' B aj cs u:=by
 obtain⟨b,off,e,O,D,h⟩:=h;have T:b≠bt:=by rintro rfl;rw[E]at D;cases D
 refine⟨b,off,e,by rw[C.size];exact O,D,λj x U=>?_⟩
 obtain⟨L,v,Y,Z⟩:=h j x U;exact⟨L,v,(World.cell?_of_block (C.block b T)).trans Y,Z.apart E (.inr L) (Nat.le_of_eq C.size.symm) C.block⟩
def RA.wrote{x:A}{u:Value}(h:RA w B aj ρ x u)(C:tG w w' bt)(D:aj bt=some kt)(E:oW w w' aj ρ):RA w' B aj ρ x u:=by
 cases x with
 |undef=>trivial
 |skip=>exact h
 |lf x=>exact dm.wrote h C D E
 |agg cs=>exact RP.wrote (p:=(true,cs)) h C D E
 |dW xs=>obtain⟨us,e,L,h⟩:=h;exact⟨us,e,L,λj p O=>let ⟨v,T,r⟩:=h j p O;⟨v,T,r.wrote C D E⟩⟩
 |ptr k=>obtain⟨ad,e,h⟩:=h;exact⟨ad,e,Th E _ _ h⟩
 |view k s i j=>obtain⟨A,n,c,h,g⟩:=h;exact⟨A,n,c,aaq E k _ rfl h,g⟩
 |pk r n=>exact h
 |aG r j=>exact h
 |gS cs=>exact RF.wrote h C D
 |ld f cs=>obtain⟨pv,e,h⟩:=h;exact⟨pv,e,h.wrote C D⟩
 |fn f cap=>exact h
def dx.wrote{r:Nat}{x:aU}(h:dx w B aj ρ r x)(E:tG w w' bt)(L:aj bt=some kt)(Z:oW w w' aj ρ)(T:¬ [r] <:+ kt):dx w' B aj ρ r x:=by
 cases h with
 | az b off cells e cs us D C U hs hc=>
  have Y:b≠bt:=by rintro rfl;rw[L]at C;injection C with C;subst C;exact T (List.suffix_refl _)
  exact .az b off cells e cs us D C ((E.block b Y).trans U) hs (λj x O=>⟨(hc j x O).1,(hc j x O).2.wrote E L Z⟩)
 |sl v y D ez=>exact .sl v y D (ez.apart L (.inl T) (Nat.le_of_eq E.size.symm) E.block)
 | mp b c es l D C U he=>
  have Y:b≠bt:=by rintro rfl;rw[L]at C;injection C with C;subst C;exact T (List.suffix_refl _)
  exact .mp b c es l D C ((E.block b Y).trans U) he
 |gh us xs D O=>exact .gh us xs D λj x hj=>(O j x hj).wrote E L Z
def Rl.wrote(h:Rl w0 N aj ρ σ a w)(C:tG w w' bt)(D:aj bt=some kt)(T:oW w w' aj ρ)(U:∀ r x,m' r=some x -> dx w' w0.heap.size aj ρ r x):Rl w0 N aj ρ ⟨σ.t,m'⟩ a w':=by
 have hb:=(h.cL bt kt D).1;have Y:∀ k,k<w0.heap.size -> w0.L k=none -> k≠bt:=by
  grind
 refine⟨⟨C.os.trans h.below.os,C.tape.trans h.below.tape,C.output.trans h.below.output,by rw[C.size];exact h.below.size,λk E O=>(C.block k (Y k E O)).trans (h.below.block k E O)⟩,λb k Z=>?_,U,λk=>(h.tmp k).wrote C D T,h.size,h.defers,h.fix,h.cT⟩
 rw[C.size];exact h.cL b k Z
def aar{r C:Nat}(h:C≠r):¬ [C] <:+ [r]:=by
 intro D;have:=D.eq_of_length rfl;simp_all
def Rl.FI{r j:Nat}{cs xs:aa Lf}{us:Array Value}(h:Rl w0 N aj ρ σ a w)(hm:σ.m r=some (.az cs))(hx:dM w w0.heap.size aj ρ xs us)(hj:j+xs.length <= cs.length):
  ∃b off,ρ r = .az b off/\w.there b (off+j) us.size/\Rl w0 N aj ρ ⟨σ.t,bO σ.m r (some (.az (splice cs j xs)))⟩ a (w.setCells b (off+j) us.toList):=by
 have U:=h.root r _ hm;generalize D:aU.az cs=x at U;cases U with
 |sl=>cases D
 |mp=>cases D
 |gh=>cases D
 | az b off cells e dK u bW E Z hs hc=>
  injection D with D;subst D;have hlen:us.size=xs.length:=hx.1;have jM:off+j+us.toList.length <= cells.size:=by rw[Array.length_toList,hlen];omega
  have L:=Me w b (off+j) us.toList;obtain⟨Y,fQ,n7⟩:=Fz b e us.toList (off+j) w cells Z jM;have T:oW w (w.setCells b (off+j) us.toList) aj ρ:=by
   intro k ad v ha hv fh;obtain⟨j',i',s',q,rfl,hq,_,_,hh'⟩:=Ab k ad ha;have cJ:ad.block≠b:=by
    intro e
    grind
   exact(World.cell?_of_block (L.block _ cJ)).trans hv
  refine⟨b,off,bW,λn hn=>⟨?_,frozen_of_row w b _ cells e Z⟩,h.wrote L E T λr' y O=>?_⟩
  ·rw[cell_of_row w b _ cells e _ Z];simp;omega
  ·by_cases lz:r'=r
   ·subst lz;rw[bR]at O;injection O with O;subst O
    refine .az b off Y e _ (λn=>if n<j then u n else if n<j+xs.length then us.getD (n-j) undef else u n) bW E fQ ?_ λn x C=>?_
    ·rw[rm _ _ _ hj,<- Array.length_toList,n7]
     grind
    ·have e2:Y[off+n]?=(splice cells.toList (off+j) us.toList)[off+n]?:=by
      rw[show Y[off+n]?=Y.toList[off+n]? by simp,n7];rfl
     rw[e2,vo _ _ _ (by simpa using jM)];rw[vo _ _ _ hj]at C;by_cases h1:n<j
     ·rw[if_pos (by omega)];simp only[h1]at C ⊢;refine⟨?_,(hc n x C).2.wrote L E T⟩;simp_all
     ·by_cases h2:n<j+xs.length
      ·rw[if_neg (by omega),if_pos (by rw[Array.length_toList,hlen];omega)];simp only[h1,h2,if_true,if_false]at C ⊢;obtain⟨v,hv,U⟩:=hx.2 (n-j) x C;have hg:us.getD (n-j) undef=v:=by rw[Array.getD_eq_getD_getElem?,hv];rfl
       rw[hg];refine⟨?_,U.wrote L E T⟩
       grind
      ·rw[if_neg (by omega),if_neg (by rw[Array.length_toList];omega)];simp only[h1,h2]at C ⊢;refine⟨?_,(hc n x C).2.wrote L E T⟩
       grind
   ·rw[cw _ _ _ lz]at O;exact(h.root r' y O).wrote L E T (aar lz)
inductive xq (m:Nat->Option aU):List Nat->V->(Nat->Option aU)->Prop
 |root (r:Nat) (y0 y:V) (h:m r=some (.sl y0)):xq m [r] y (bO m r (some (.sl y)))
 | elem (j i:Nat) (q:List Nat) (t:TC) (o:Nat) (qn:Bool) (l:List (T t)) (y:V) (e:T t) (m':Nat->Option aU) (h:vm m q (.sl t (o+2) qn l)) (hi:i<l.length) (hj:j<aA t)
   (hd:dec t o (splice (enc t o l[i]) j [y])=some e) (hp:xq m q (.sl t (o+2) qn (l.set i e)) m'):xq m (j::i::aA t::q) y m'
def Ti{α:Type}{a b c:aa α}(D:a <:+ c)(E:b <:+ c)(h:a.length=b.length):a=b:=by
 obtain⟨x,L⟩:=D;obtain⟨y,C⟩:=E;rw[<-L]at C;exact((List.append_inj' C h.symm).2).symm
def RV.Mf{q:aa Nat}{t:TC}{o:Nat}{Y:Bool}{l:aa (T t)}{i j:Nat}{xs:aa V}{e:T t}{b cap:Nat}{cs dK:Array Value}{u us:Nat -> Nat -> Value}
  (hl:aj b=some q) (hh:w'.heap[b]?=some (.cells dK (tid t) (0,0))) (hs:dK.size=cap*aA t) (hn:l.length <= cap) (hm:cap <= maxLen/\(Y=true -> cap=l.length)) (hi:i<l.length) (hj:j+xs.length <= aA t)
  (hd:dec t o (splice (enc t o l[i]) j xs)=some e)
  (hc:∀D (h:D<l.length) (C:Nat) x,(enc t o l[D])[C]?=some x -> ¬ (D=i/\j <= C/\C<j+xs.length) -> dK[D*aA t+C]?=some (u D C)/\RV w' B aj (C::D::aA t::q) x (u D C))
  (hx:∀(n:Nat) x,xs[n]?=some x -> dK[i*aA t+(j+n)]?=some (us i (j+n))/\RV w' B aj ((j+n)::i::aA t::q) x (us i (j+n))):
  RV w' B aj q (.sl t (o+2) Y (l.set i e)) (.slice (some ⟨b,0,none⟩) l.length cap):=by
 have hlen:(l.set i e).length=l.length:=List.length_set;have key:∀ D (h:D<(l.set i e).length) (C:Nat) x,(enc t o (l.set i e)[D])[C]?=some x ->
   ∃v,dK[D*aA t+C]?=some v/\RV w' B aj (C::D::aA t::q) x v:=by
  intro D h C x L;rw[List.getElem_set]at L;by_cases hii:i=D
  ·subst hii;rw[if_pos rfl]at L;have hk:=ko t o _ e hd;have mg:C<(enc t o e).length:=(List.getElem?_eq_some_iff.1 L).1;rw[<- hk.1]at mg;have E:=List.getElem?_eq_getElem mg;generalize (splice (enc t o l[i]) j xs)[C]=y at E;have Z:=hk.2 C y x E L;rw[vo _ _ _ (by rw[jg];exact hj)]at E;by_cases h1:C<j
   ·rw[if_pos h1]at E;obtain⟨O,U⟩:=hc i hi C y E (by omega);exact⟨_,O,U.wk Z⟩
   ·by_cases h2:C<j+xs.length
    ·rw[if_neg h1,if_pos h2]at E;obtain⟨O,U⟩:=hx _ y E;rw[show j+(C-j)=C by omega]at O U;exact⟨_,O,U.wk Z⟩
    ·rw[if_neg h1,if_neg h2]at E;obtain⟨O,U⟩:=hc i hi C y E (by omega);exact⟨_,O,U.wk Z⟩
  ·grind
 rw[<- hlen]
 refine .own q t o Y (l.set i e) b cap dK (λD C=>(dK[D*aA t+C]?).getD undef) hl hh hs (by rw[hlen];exact hn) ⟨hm.1,λh=>by rw[hlen];exact hm.2 h⟩ (λD h C x L=>?_) (λD h C x L=>?_)
 ·grind
 ·obtain⟨v,hv,hr⟩:=key D h C x L;simp_all
def aas{r:Nat}{q:aa Nat}(h:[r] <:+ q){C:Nat}(D:[C] <:+ q):C=r:=by
 have:=Ti D h rfl;injection this
def xq.ok{q:aa Nat}{y:V}(h:xq m q y m')(hm:∀ r x,m r=some x -> dx w B aj ρ r x)(T:tG w w' bt)(Y:aj bt=some kt)(U:q <:+ kt)(hC:oW w w' aj ρ){L:Value}(D:cH w aj ρ q=some L)(hy:RV w' B aj q y L):
  ∀r x,m' r=some x -> dx w' B aj ρ r x:=by
 induction h generalizing L with
 | root r y0 y h=>
  intro Z x C;by_cases O:Z=r
  ·subst O;rw[bR]at C;injection C with C;subst C;simp only[cH]at D;cases bW:ρ Z with
   |az b off=>grind
   |bN us=>grind
   | dw v=>
    rw[bW]at D;injection D with D;subst D;exact .sl v y bW hy
  ·rw[cw _ _ _ O]at C;exact(hm Z x C).wrote T Y hC (λhs=>O (aas U hs))
 | elem j i q t o qn l y e m' h hi hj hd hp ih=>
  obtain⟨rq,Ad,ez⟩:=h.ok hm;have hqk:q <:+ kt:=List.IsSuffix.trans ⟨[j,i,aA t],rfl⟩ U;cases ez with
  |dH=>simp at hi
  |eF=>simp at hi
  |eP=>simp at hi
  |aC _ _ _ _ _ _ _ _ _ ho=>omega
  | own _ _ _ _ _ b cap cs us E hh hs hn qj hc O=>
   have cJ:b≠bt:=by
    rintro rfl;rw[Y]at E;injection E with E;subst E;have:=U.length_le
    grind
   have hz:=Nat.le_of_eq T.size.symm
   refine ih hqk Ad (RV.Mf (us:=λ_ _=>L) (u:=us) (cs:=cs) (xs:=[y]) E ((T.block b cJ).trans hh) hs hn qj hi (show j+1 <= aA t from hj) hd (λi' h' j' x C Mg=>⟨hc i' h' j' x C,(O i' h' j' x C).apart Y (.inl λnh=>Mg ?_) hz T.block⟩) (λn x C=>?_))
   ·have:=Ti nh U rfl
    grind
   ·cases n with
    |succ n=>simp at C
    | zero=>
     simp at C;subst C;refine⟨?_,hy⟩;rw[Mb,Aa j i _ Ad E]at D;have D:w.cell? ⟨b,i*aA t+j,none⟩=some L:=D;rw[cell_of_row w b _ cs _ _ hh]at D;exact D
def RV.aat{q:aa Nat}{x:V}{v:Value}(h:RV w B aj q x v)(C:x.plain=true):kZ v=false:=by
 cases h<;>first|rfl|cases C
def RV.ru{q C:aa Nat}{x:V}{v:Value}{B':Nat}{ax:bw}(h:RV w B aj q x v)(D:x.plain=true):RV w' B' ax C x v:=by
 cases h<;>first|exact .int _ _ _|exact .bool _ _|exact .str _ _|cases D
def Rl.amw{j i:Nat}{q:aa Nat}{t:TC}{o:Nat}{qn:Bool}{l:aa (T t)}{xs:aa V}{us:Array Value}{e:T t}(h:Rl w0 N aj ρ σ a w)(hg:vm σ.m q (.sl t (o+2) qn l))(hi:i<l.length)(hj:j+xs.length <= aA t)
  (hd:dec t o (splice (enc t o l[i]) j xs)=some e) (hold:∀(n:Nat) x,n<xs.length -> (enc t o l[i])[j+n]?=some x -> x.plain=true) (hxp:∀x∈xs,x.plain=true) (jh:us.size=xs.length) (hx:∀(n:Nat) x,xs[n]?=some x -> ∃u,us[n]?=some u/\RV w w0.heap.size aj [] x u)
  (hp:xq σ.m q (.sl t (o+2) qn (l.set i e)) m'):
  ∃b,addrAt w aj ρ (j::i::aA t::q)=some ⟨b,i*aA t+j,none⟩/\w.there b (i*aA t+j) us.size/\Rl w0 N aj ρ ⟨σ.t,m'⟩ a (w.setCells b (i*aA t+j) us.toList):=by
 obtain⟨rq,Ad,ez⟩:=hg.ok h.root;cases ez with
 |dH=>simp at hi
 |eF=>simp at hi
 |eP=>simp at hi
 |aC _ _ _ _ _ _ _ _ _ ho=>omega
 | own _ _ _ _ _ b cap cs u U hh hs hn qj hc hr=>
  have vp:i*aA t+aA t <= cap*aA t:=by
   have:(i+1)*aA t <= cap*aA t:=Nat.mul_le_mul_right _ (by omega);rw[Nat.succ_mul]at this;exact this
  have jM:i*aA t+j+us.toList.length <= cs.size:=by rw[Array.length_toList,jh,hs];omega
  have Y:=Me w b (i*aA t+j) us.toList;obtain⟨O,fQ,n7⟩:=Fz b (tid t) us.toList (i*aA t+j) w cs hh jM;have rz:∀ n,O[n]?=if n<i*aA t+j then cs[n]? else if n<i*aA t+j+xs.length then us[n-(i*aA t+j)]? else cs[n]?:=by
   intro n;have e2:O[n]?=(splice cs.toList (i*aA t+j) us.toList)[n]?:=by
    rw[show O[n]?=O.toList[n]? by simp,n7];rfl
   rw[e2,vo _ _ _ (by simpa using jM),Array.length_toList,jh];simp
  have FJ:O.size=cs.size:=by
   rw[<- Array.length_toList,n7];have:=rm cs.toList _ us.toList (by simpa using jM)
   grind
  have hC:oW w (w.setCells b (i*aA t+j) us.toList) aj ρ:=by
   intro k ad v ha D fh;by_cases cJ:ad.block=b
   ·obtain⟨L,C,s',q',rfl,Ac,amx,tH,_⟩:=Ab k ad ha;have ni:ad=⟨b,ad.off,none⟩:=by cases ad;simp_all
    rw[ni,cell_of_row w b _ cs _ _ hh]at D;rw[ni,cell_of_row _ b _ O _ _ fQ,rz];by_cases h1:ad.off<i*aA t+j
    ·rw[if_pos h1];exact D
    ·by_cases h2:ad.off<i*aA t+j+xs.length
     ·exfalso;have hjs:ad.off-(i*aA t+j)<xs.length:=by omega
      have Ae:j+(ad.off-(i*aA t+j))<(enc t o l[i]).length:=by rw[jg];omega
      have hy:=List.getElem?_eq_getElem Ae;generalize (enc t o l[i])[j+(ad.off-(i*aA t+j))]=y at hy;have qk:=hold _ y hjs hy;have Z:=hc i hi _ y hy;rw[show i*aA t+(j+(ad.off-(i*aA t+j)))=ad.off by omega]at Z;rw[D]at Z;injection Z with Z;have:=(hr i hi _ y hy).aat qk;rw[<- Z,fh]at this;cases this
     ·rw[if_neg h1,if_neg h2];exact D
   ·exact(World.cell?_of_block (Y.block _ cJ)).trans D
  refine⟨b,Aa j i (aA t) Ad U,λn n8=>⟨?_,frozen_of_row w b _ cs _ hh⟩,h.wrote Y U hC (hp.ok h.root Y U (List.suffix_refl _) hC Ad ?_)⟩
  ·rw[cell_of_row w b _ cs _ _ hh];simp;omega
  ·refine RV.Mf (u:=u) (us:=λ_ n=>us.getD (n-j) undef) (cs:=cs) (xs:=xs) U fQ (FJ.trans hs) hn qj hi hj hd (λC h' L x E Mg=>?_) (λn x E=>?_)
   ·have mg:L<aA t:=by have:=(List.getElem?_eq_some_iff.1 E).1;rwa [jg]at this
    refine⟨?_,(hr C h' L x E).apart U (.inl λnh=>?_) (Nat.le_of_eq Y.size.symm) Y.block⟩
    ·rw[rz];have FK:¬ (¬ C*aA t+L<i*aA t+j/\C*aA t+L<i*aA t+j+xs.length):=by
      rintro⟨h1,h2⟩;rcases Nat.lt_trichotomy C i with cU|heq|CQ
      ·have:(C+1)*aA t <= i*aA t:=Nat.mul_le_mul_right _ cU;rw[Nat.succ_mul]at this;omega
      ·subst heq
       grind
      ·have:(i+1)*aA t <= C*aA t:=Nat.mul_le_mul_right _ CQ;rw[Nat.succ_mul]at this;omega
     split
     ·exact hc C h' L x E
     ·rw[if_neg (by omega)];exact hc C h' L x E
    ·have:=nh.length_le;simp at this;omega
   ·obtain⟨v,D,CR⟩:=hx n x E;have n8:n<xs.length:=(List.getElem?_eq_some_iff.1 E).1;have xu:us.getD (j+n-j) undef=v:=by rw[show j+n-j=n by omega,Array.getD_eq_getD_getElem?,D];rfl
    rw[xu,rz,if_neg (by omega),if_pos (by omega)];refine⟨?_,CR.ru (hxp x (List.mem_of_getElem? E))⟩;rw[show i*aA t+(j+n)-(i*aA t+j)=n by omega];exact D
end
def Tj:Value->A
 |.bool b=>.lf (.v (.bool b))
 |.int k n=>.lf (.v (.int k n))
 |.string s=>.lf (.v (.str s))
 |.slice none 0 0=>.lf (.v .nil)
 |_=>.undef
def aH(σ:S):Operand->A
 |.tmp t=>σ.t t
 |.const v=>Tj v
 |.func f=>.fn f []
 |.global _=>.undef
def gd{X:Type}(N:Nat)(σ:S)(C:ah Tmp)(x:A)(k:S->ah X):ah X:=
 match C with
 |none=>k σ
 |some d=>bif Nat.blt d N then k (σ.set d x)else none
def jN(P:Program)(w0:Wd)(N:Nat)(o:Oper)(σ D:S):Prop:=
 ∀a w K Q,R w0 N σ a w->(∀C w',R w0 N D C w'->K C w')->o.wp P a w K Q
section
variable {P:Program} {w:World} {w0:Wd} {B N:Nat} {aj:bw} {ρ:Nat->Loc} {σ:S} {a:Act} {X:Type} {r:X} {k:S->ah X} {o:Oper}
def amy(v:Value):RA w B aj ρ (Tj v) v:=by
 unfold Tj;split
 ·exact⟨rfl,.bool _ _⟩
 ·exact⟨rfl,.int _ _ _⟩
 ·exact⟨rfl,.str _ _⟩
 ·exact⟨rfl,.nil _⟩
 ·trivial
def Rl.aH(h:Rl w0 N aj ρ σ a w)(x:Operand):RA w w0.heap.size aj ρ (aH σ x) (a.eval x):=by
 cases x with
 |tmp t=>exact h.tmp t
 |const v=>exact amy v
 |func f=>exact⟨#[],rfl,rfl,by simp⟩
 |global g=>trivial
def jN.val{x:A}(C:gd N σ o.dst x k=some r)(h:∀ aj ρ a w,Rl w0 N aj ρ σ a w -> ∃ v,(execOp a.eval o).run P w = .ok (.value v) w/\RA w w0.heap.size aj ρ x v):∃ U,k U=some r/\jN P w0 N o σ U:=by
 unfold gd at C;split at C
 ·rename_i E
  refine⟨σ,C,λa w K Q L O=>?_⟩
  obtain⟨aj,ρ,D⟩:=L;obtain⟨v,T,Y⟩:=h aj ρ a w D;unfold Oper.wp;rw[T,Oper.upon_value,E];exact O _ _ ⟨aj,ρ,D⟩
 ·rename_i d E;cases Z:Nat.blt d N with
  |false=>simp_all
  | true=>
   rw[Z]at C
   refine⟨_,C,λa w K Q L O=>?_⟩
   obtain⟨aj,ρ,D⟩:=L;obtain⟨v,T,Y⟩:=h aj ρ a w D;unfold Oper.wp;rw[T,Oper.upon_value,E];exact O _ _ ⟨aj,ρ,D.set Y (by have:=Nat.le_of_ble_eq_true Z;omega)⟩
/-! What does the same whatever comes behind. -/
def kr{α:Type}(f:(X:Type)->(α->ah X)->ah X)(y:α):Prop:=∀(X:Type) (k:α->ah X),f X k=k y
def kr.at_{α:Type}{f:(X:Type)->(α->ah X)->ah X}{y:α}(h:kr f y){X:Type}(k:α->ah X):f X k=k y:=h X k
def cv{α:Type}(f:(X:Type)->(α->ah X)->ah X):Prop:=∀(X Y:Type) (k:α->ah X) (g:X->ah Y),(f X k).bind g=f Y λy=>(k y).bind g
def cv.lA{α:Type}{f:(X:Type)->(α->ah X)->ah X}(n:cv f){X:Type}{k:α->ah X}{r:X}(h:f X k=some r):∃ y,k y=some r/\kr f y:=by
 have e:∀(Y:Type) (k:α->ah Y),f Y k=(f α some).bind k:=λY k=>(n α Y some k).symm
 rw[e]at h;cases C:f α some with
 |none=>rw[C]at h;cases h
 |some y=>rw[C]at h;exact⟨y,h,λX k=>by rw[e,C];rfl⟩
def cv.comp{α β:Type}{f:(X:Type)->(α->ah X)->ah X}{b:(X:Type)->(β->ah X)->α->ah X}(n:cv f)(m:∀y,cv λX k=>b X k y):cv λX k=>f X (b X k):=λX Y k g=>(n X Y _ g).trans (congrArg _ (funext λy=>m y X Y k g))
def cN{X Y:Type}{b:Bool}{x y:ah X}{C D:ah Y}{g:X->ah Y}(E:x.bind g=C)(L:y.bind g=D):(bif b then x else y).bind g=bif b then C else D:=by
 cases b
 ·exact L
 ·exact E
/-! Contents of leaves. -/
def gU{X:Type}(m:Nat->ah aU):aa Nat->(V->ah X)->ah X
 | [r],k=>match m r with
  |some (.sl y)=>k y
  |_=>none
 | j :: i :: s :: q,k=>gU m q λy=>match y with
  |.sl t (o+2) _ l=>if s=aA t then (if h:i<l.length then (match (enc t o l[i])[j]? with|some z=>k z|none=>none)else none)else none
  |_=>none
 |_,_=>none
def qm{m:Nat -> ah aU}:∀ (q:aa Nat) (k:V -> ah X),gU m q k=some r -> ∃ y,vm m q y/\k y=some r
 |[],_,h=>by simp[gU]at h
 | [x],k,h=>by
  simp only[gU]at h;split at h
  next y D=>exact⟨y,.root x y D,h⟩
  ·cases h
 | j :: i :: s :: q,k,h=>by
  obtain⟨y,D,C⟩:=qm q _ h;clear h;split at C
  ·split at C
   ·rename_i E;subst E;split at C
    ·rename_i hi;split at C
     next z L=>exact⟨z,.elem j i q _ _ _ _ z D hi L,C⟩
     ·cases C
    ·cases C
   ·cases C
  ·cases C
def nj{X:Type}(σ:S)(x:Lf)(k:V->ah X):ah X:=
 match x with
 |.v y=>k y
 |.own q=>gU σ.m q k
 |.dead=>none
def RV.part{q:aa Nat}{C:TC}{g:Nat}{Y:Bool}{xs:aa (T C)}{A:ah Addr}{n c a h:Nat}(O:RV w B aj q (.sl C g Y xs) (.slice A n c))(L:g<2)(h1:a <= h)(D:h <= xs.length):RV w B aj q (.sl C g false ((xs.take h).drop a)) (sliced A a h c (aA C))/\n=xs.length/\xs.length <= c:=by
 have hlen:((xs.take h).drop a).length=h-a:=by simp;omega
 cases O with
 | dH=>
  have:a=0:=by simp at D;omega
  have:h=0:=by simpa using D
  subst_vars
  exact⟨.dH _ _ _,rfl,Nat.le_refl _⟩
 | eF=>
  have:h=0:=by simpa using D
  subst this;have:a=0:=by omega
  subst this;exact⟨by unfold sliced;split<;>exact .eF _ _ _ _ _ L,rfl,Nat.zero_le _⟩
 | eP=>
  have:h=0:=by simpa using D
  subst this;have:a=0:=by omega
  subst this;exact⟨by unfold sliced;split<;>exact .eF _ _ _ _ _ L,rfl,Nat.zero_le _⟩
 |own=>omega
 | aC _ _ _ _ _ b off cap u Z hl hb hB gH hc O=>
  refine⟨?_,rfl,gH⟩;by_cases he:a=h
  ·subst he;have e0:=List.eq_nil_of_length_eq_zero (by rw[hlen];omega);rw[e0];unfold sliced;rw[Nat.sub_self];split<;>exact .eF _ _ _ _ _ L
  ·unfold sliced;rw[if_neg (by omega),<- hlen];have L6:(some (⟨b,off,none⟩:Addr)).map (·.add (a*aA C))=some ⟨b,off+a*aA C,none⟩:=by
    simp;unfold Addr.add;simp_all
   rw[L6];have U:∀ i (hi:i<((xs.take h).drop a).length),((xs.take h).drop a)[i]=xs[a+i]'(by omega):=by
    intro i hi;simp_all
   refine .aC _ _ _ _ _ b (off+a*aA C) (c-a) (λi j=>u (a+i) j) Z hl hb hB (by omega) (λi hi j x E=>?_) (λi hi j x E=>?_)
   ·rw[U]at E;have:=hc _ _ j x E
    grind
   ·rw[U i]at E
    grind
def aau(s i j:Nat):V->ah V
 |.sl t _ _ l=>bif Nat.beq s (aA t)then some (.sl t 0 false ((l.take j).drop i))else none
 |_=>none
def tJ{X:Type}(σ:S)(q:aa Nat)(s i j:Nat)(k:V->ah X):ah X:=
 gU σ.m q λy=>match aau s i j y with
  |some z=>k z
  |none=>none
def qp{X:Type}(σ:S)(y:A)(k:V->ah X):ah X:=
 match y with
 |.lf l=>nj σ l k
 |.view q s i j=>tJ σ q s i j k
 |_=>none
def aav{q:aa Nat}{s i j:Nat}{k:V -> ah X}(h:tJ σ q s i j k=some r):∃ z,k z=some r/\z.aC=true /\ ∀ w0 N aj ρ a w,Rl w0 N aj ρ σ a w -> ∀ u,RA w w0.heap.size aj ρ (.view q s i j) u -> ∀ B',RV w B' (λ_=>none) [] z u:=by
 obtain⟨y,T,E⟩:=qm q _ h;clear h;split at E
 ·rename_i z C;unfold aau at C;split at C
  ·rename_i t g U l;cases L:Nat.beq s (aA t)with
   |false=>simp_all
   | true=>
    rw[L,cond_true]at C;obtain rfl:=Nat.eq_of_beq_eq_true L;injection C with C;subst C
    refine⟨_,E,rfl,λw0 N aj ρ a w Y u Z B'=>?_⟩
    obtain⟨A,n,c,hv,h1,h3,rfl⟩:=Z;obtain⟨v,D,hr⟩:=T.ok Y.root;rw[hv]at D;injection D with D;subst D;have O:RV w B' (λ_=>none) [] (.sl t 0 U l) (.slice A n c):=hr.fA;have hn:n=l.length:=by cases O<;>rfl
    exact(O.part (by omega) h1 (by omega)).1
  ·cases C
 ·cases E
def vK{X:Type}(x:A)(k:V->ah X):ah X:=
 match x with
 |.lf (.v y)=>k y
 |_=>none
def Tl{x:A}{k:V -> ah X}(h:vK x k=some r):∃ y,x = .lf (.v y)/\k y=some r:=by
 unfold vK at h
 grind
def RV.gf{q:aa Nat}{k:IntKind}{n:Int}{u:Value}(h:RV w B aj q (.int k n) u):u = .int k n:=by cases h;rfl
def RV.xw{q:aa Nat}{n:Bool}{u:Value}(h:RV w B aj q (.bool n) u):u = .bool n:=by cases h;rfl
def RV.vr{q:aa Nat}{n:ByteArray}{u:Value}(h:RV w B aj q (.str n) u):u = .string n:=by cases h;rfl
/-! Arithmetic and comparison. -/
def bD(n:Nat):Bool:=decide (n<1073741824)
def FL{X:Type}(P:Program)(ty:TypeId)(op:BinOp)(x y:V)(k:V->ah X):ah X:=
 match x,y with
 | .int C a,.int D b=>match op with
  |.shl=>if b<0 then none else k (.int C (C.wrap (a*2 ^ (min b.toNat C.bits))))
  |.shr=>if b<0 then none else k (.int C (a.fdiv (2 ^ (min b.toNat C.bits))))
  | op=>if C=D then (match op with
   |.add=>k (.int C (C.wrap (a+b)))
   |.sub=>k (.int C (C.wrap (a-b)))
   |.mul=>k (.int C (C.wrap (a*b)))
   |.quo=>if b=0 then none else k (.int C (C.wrap (a.tdiv b)))
   |.rem=>if b=0 then none else k (.int C (a.tmod b))
   |.and=>k (.int C (bits .and C a b))
   |.or=>k (.int C (bits .or C a b))
   |.xor=>k (.int C (bits .xor C a b))
   |.andNot=>k (.int C (bits .andNot C a b))
   |.eql=>k (.bool (a==b))
   |.neq=>k (.bool (a != b))
   |.lss=>k (.bool (decide (a<b)))
   |.leq=>k (.bool (decide (a<=b)))
   |.gtr=>k (.bool (decide (a > b)))
   |.geq=>k (.bool (decide (a >= b)))
   |_=>none)else none
 | .bool a,.bool b=>match P.underlying ty with
  | some .bool=>(match op with
   |.eql=>k (.bool (a==b))
   |.neq=>k (.bool (!(a==b)))
   |_=>none)
  |_=>none
 | .str a,.str b=>match op with
  |.add=>bif bD (a.size+b.size)then k (.str (a++b))else none
  |.eql=>k (.bool (a.toList==b.toList))
  |.neq=>k (.bool (!(a.toList==b.toList)))
  |_=>none
 |_,_=>none
def amz{ty:TypeId}{U:BinOp}{x y:V}{k:V -> ah X}(h:FL P ty U x y k=some r):∃ z,k z=some r/\z.plain=true /\ ∀ (w:World) (B:Nat) (aj:bw) (E L:Operand) (q O:aa Nat) (u v:Value),RV w B aj q x u -> RV w B aj O y v ->
  ∃t,(do eqGuard U ty E L u v;binOp U ty u v:Sem Value).run P w = .ok t w/\RV w B aj [] z t:=by
 unfold FL at h;split at h
 ·rename_i kx a ky b;split at h
  ·split at h
   ·cases h
   ·rename_i T
    refine⟨_,h,rfl,λw B aj E L q O u v C D=>?_⟩
    obtain rfl:=C.gf;obtain rfl:=D.gf;exact⟨_,by simp[eqGuard,binOp,Op.shift,T],.int _ _ _⟩
  ·split at h
   ·cases h
   ·rename_i T
    refine⟨_,h,rfl,λw B aj E L q O u v C D=>?_⟩
    obtain rfl:=C.gf;obtain rfl:=D.gf;exact⟨_,by simp[eqGuard,binOp,Op.shift,T],.int _ _ _⟩
  ·rename_i h1 h2;split at h
   ·rename_i hk;subst hk;cases U
    case shl=>exact absurd rfl h1
    case shr=>exact absurd rfl h2
    case quo=>
     by_cases T:b=0
     ·simp only[T,if_true]at h;cases h
     ·simp[T]at h
      refine⟨_,h,rfl,λw B aj E L q O u v C D=>?_⟩
      obtain rfl:=C.gf;obtain rfl:=D.gf;exact⟨_,by simp[eqGuard,binOp,Op.intDiv,T],.int _ _ _⟩
    case rem=>
     by_cases T:b=0
     ·simp only[T,if_true]at h;cases h
     ·simp[T]at h
      refine⟨_,h,rfl,λw B aj E L q O u v C D=>?_⟩
      obtain rfl:=C.gf;obtain rfl:=D.gf;exact⟨_,by simp[eqGuard,binOp,Op.intDiv,T],.int _ _ _⟩
    all_goals first
     | (refine⟨_,h,rfl,λw B aj E L q O u v C D=>?_⟩
        obtain rfl:=C.gf;obtain rfl:=D.gf
        first
         |(refine⟨_,?_,.int _ _ _⟩;simp[eqGuard,binOp,Op.intArith];done)
         |(refine⟨_,?_,.int _ _ _⟩;simp[eqGuard,binOp,intBits_and,intBits_or,intBits_xor,intBits_andNot];done)
         |(refine⟨_,?_,.bool _ _⟩;simp[eqGuard,binOp,Op.intCmp];done))
     |cases h
   ·cases h
 ·rename_i a b;split at h
  ·rename_i Z;split at h
   ·refine⟨_,h,rfl,λw B aj E L q O u v C D=>?_⟩
    obtain rfl:=C.xw;obtain rfl:=D.xw;have e:binOp .eql ty (.bool a) (.bool b)=(do pure (.bool (<- Op.equal ty (.bool a) (.bool b)))):=rfl;have g:eqGuard .eql ty E L (.bool a) (.bool b)=pure ():=rfl;exact⟨_,by rw[e,g,Sem.run_bind,Sem.run_pure,Result.andThen_ok,Sem.run_bind,run_equal_bool _ _ _ _ Z];rfl,.bool _ _⟩
   ·refine⟨_,h,rfl,λw B aj E L q O u v C D=>?_⟩
    obtain rfl:=C.xw;obtain rfl:=D.xw;have e:binOp .neq ty (.bool a) (.bool b)=(do pure (.bool (!(<- Op.equal ty (.bool a) (.bool b))))):=rfl;have g:eqGuard .neq ty E L (.bool a) (.bool b)=pure ():=rfl;exact⟨_,by rw[e,g,Sem.run_bind,Sem.run_pure,Result.andThen_ok,Sem.run_bind,run_equal_bool _ _ _ _ Z];rfl,.bool _ _⟩
   ·cases h
  ·cases h
 ·rename_i a b;split at h
  ·cases Y:bD (a.size+b.size)with
   |false=>rw[Y]at h;cases h
   | true=>
    rw[Y]at h
    refine⟨_,h,rfl,λw B aj E L q O u v C D=>?_⟩
    obtain rfl:=C.vr;obtain rfl:=D.vr;have hL':a.size+b.size<1073741824:=by simpa [bD]using Y
    refine⟨_,?_,.str _ _⟩;have h9:IntKind.i64.max=9223372036854775807:=rfl;simp only[eqGuard,binOp,Op.stringOp,h9];simp;omega
  ·refine⟨_,h,rfl,λw B aj E L q O u v C D=>?_⟩
   obtain rfl:=C.vr;obtain rfl:=D.vr;exact⟨_,by simp[eqGuard,binOp,Op.stringOp],.bool _ _⟩
  ·refine⟨_,h,rfl,λw B aj E L q O u v C D=>?_⟩
   obtain rfl:=C.vr;obtain rfl:=D.vr;exact⟨_,by simp[eqGuard,binOp,Op.stringOp],.bool _ _⟩
  ·cases h
 ·cases h
def FM{X:Type}(D:UnOp)(x:V)(k:V->ah X):ah X:=
 match D,x with
 |.not,.bool b=>k (.bool (!b))
 |.neg,.int C n=>k (.int C (C.wrap (0-n)))
 |_,_=>none
def amA{D:UnOp}{x:V}{k:V->ah X}(h:FM D x k=some r):∃ z,k z=some r/\z.plain=true/\∀ (w:World) (B:Nat) (aj:bw) (q:aa Nat) (u:Value),RV w B aj q x u->∃ t,(Op.unary D u).run P w = .ok t w/\RV w B aj [] z t:=by
 unfold FM at h;split at h
 ·refine⟨_,h,rfl,λw B aj q u C=>?_⟩
  obtain rfl:=C.xw;exact⟨_,by simp[Op.unary],.bool _ _⟩
 ·refine⟨_,h,rfl,λw B aj q u C=>?_⟩
  obtain rfl:=C.gf;exact⟨_,by simp[Op.unary,Op.intArith],.int _ _ _⟩
 ·cases h
def V.FN{x:V}(h:x.plain=true):x.aC=true:=by cases x<;>first|rfl|cases h
end
def hJ(P:Program)(t:TypeId):ah Nat:=(P.info? t).map (·.size)
def CS(P:Program)(t:TypeId):ah Bool:=
 match P.underlying t with
 |some (.struct _)|some (.array _ _)=>some true
 |some _=>some false
 |none=>none
def n9(P:Program)(t:TypeId):ah TypeId:=
 match P.underlying t with
 |some (.slice e)=>some e
 |_=>none
def FO(P:Program)(s:TypeId)(f:Nat):ah Field:=
 match P.underlying s with
 |some (.struct C)=>C[f]?
 |_=>none
def vt{X:Type}(P:Program)(t:TypeId)(cs:aa Lf)(k:A->ah X):ah X:=
 match hJ P t with
 | some n=>if cs.length=n then (match CS P t with
  |some true=>k (.agg cs)
  | some false=>(match cs with
   |[y]=>k (.lf y)
   |_=>none)
  |none=>none)else none
 |none=>none
def leaves(key:Nat->aa Nat):Nat->aa V->aa Lf
 |_,[]=>[]
 |j,z::C=>(bif z.aC then .v z else .own (key j))::leaves key (j+1) C
def mh{X:Type}(P:Program)(σ:S)(t:TypeId)(x:A)(k:A->ah X):ah X:=
 match hJ P t with
 |none=>none
 | some n=>match x with
  | .aG r j=>(match σ.m r with
   |some (.az cs)=>vt P t ((cs.drop j).take n) k
   |_=>none)
  |.gS cs=>vt P t ((cs.take n).map .v) k
  | .ptr (j :: i :: s :: q)=>gU σ.m q λy=>(match y with
   |.sl C (o+2) _ l=>if s=aA C then (if h:i<l.length then vt P t (leaves (λD=>D::i::s::q) j (((enc C o l[i]).drop j).take n)) k else none)else none
   |_=>none)
  |_=>none
section
variable {P:Program} {w:World} {w0:Wd} {B N:Nat} {aj:bw} {ρ:Nat->Loc} {σ:S} {a:Act} {X:Type} {r:X} {o:Oper}
def aaw(key:Nat -> aa Nat):∀ (j:Nat) (C:aa V) (n:Nat),(leaves key j C)[n]?=(C[n]?).map λz=>bif z.aC then .v z else .own (key (j+n))
 |_,[],n=>by simp[leaves]
 |j,z::C,0=>by simp[leaves]
 | j,z :: C,n+1=>by
  simp[leaves,List.getElem?_cons_succ,aaw]
  grind
def Tn{t:TypeId}{cs:aa Lf}{k:A -> ah X}(h:vt P t cs k=some r):∃ x,k x=some r /\ ∀ (w:World) (B:Nat) (aj:bw) (ρ:Nat -> Loc) (b o:Nat) (D:aa Value),dM w B aj ρ cs D.toArray -> w.rangeAt b o D ->
  ∃v,(Instr.loadAt t (.pointer (some ⟨b,o,none⟩))).run P w = .ok v w/\RA w B aj ρ x v:=by
 unfold vt at h;split at h
 ·rename_i n U;split at h
  ·rename_i hlen;split at h
   ·rename_i C
    refine⟨_,h,λw B aj ρ b o D L O=>?_⟩
    have T:D.length=n:=by have:=L.1;simpa [hlen]using this
    unfold CS at C;split at C
    next fs E=>exact⟨_,run_loadAt_mid w b o t D _ O E rfl (by rw[T];exact U),_,rfl,L⟩
    next c e E=>exact⟨_,run_loadAt_mid w b o t D _ O E rfl (by rw[T];exact U),_,rfl,L⟩
    ·cases C
    ·cases C
   ·rename_i C;split at h
    ·rename_i y
     refine⟨_,h,λw B aj ρ b o D L O=>?_⟩
     have T:D.length=1:=by have:=L.1;simpa using this
     obtain⟨v,rfl⟩:=List.length_eq_one_iff.1 T;have Y:w.cell? ⟨b,o,none⟩=some v:=O 0 v rfl;obtain⟨u,E,Z⟩:=L.2 0 y rfl;have:v=u:=by simpa using E
     subst this;refine⟨v,?_,Z⟩;unfold CS at C;split at C
     ·cases C
     ·cases C
     ·rename_i d hs ha E;have amB:(isAgg t).run P w = .ok false w:=by
       unfold isAgg;rw[Sem.run_bind,run_underlying E];simp_all
      simp[Instr.loadAt,Instr.sureAddr,loadVar,Sem.run_bind,amB,load,Sem.run,Y]
     ·cases C
    ·cases h
   ·cases h
  ·cases h
 ·cases h
def Mh{α:Type}(l:aa α)(j n i:Nat)(x:α)(h:((l.drop j).take n)[i]?=some x):i<n/\l[j+i]?=some x:=by grind
def aax{t:TypeId}{x:A}{k:A -> ah X}(h:mh P σ t x k=some r):∃ y,k y=some r /\ ∀ aj ρ a w,Rl w0 N aj ρ σ a w -> ∀ u,RA w w0.heap.size aj ρ x u ->
  ∃v,(Instr.loadAt t u).run P w = .ok v w/\RA w w0.heap.size aj ρ y v:=by
 unfold mh at h;split at h
 ·cases h
 ·rename_i n hn;split at h
  ·rename_i r' j;split at h
   ·rename_i cs fB;obtain⟨y,Y,Z⟩:=Tn h
    refine⟨y,Y,λaj ρ a w hR u hu=>?_⟩
    obtain⟨b,off,bW,rfl⟩:=hu;have O:=hR.root r' _ fB;generalize U:aU.az cs=x at O;cases O with
    |sl=>cases U
    |mp=>cases U
    |gh=>cases U
    | az b' FP cells e dK us fR hl hh hs hc=>
     injection U with U;subst U;rw[bW]at fR;injection fR with e1 e2;subst e1 e2
     refine Z w _ aj ρ b (off+j) (((cs.drop j).take n).mapIdx λi _=>us (j+i)) ⟨by simp,λi x C=>?_⟩ (λi v D=>?_)
     ·obtain⟨hi,jO⟩:=Mh _ _ _ _ _ C;simp_all
     ·rw[List.getElem?_mapIdx]at D;cases C:((cs.drop j).take n)[i]? with
      |none=>rw[C]at D;cases D
      | some x=>
       rw[C]at D;injection D with D;subst D;obtain⟨hi,jO⟩:=Mh _ _ _ _ _ C;rw[cell_of_row w b _ cells _ _ hh,Nat.add_assoc];simp_all
   ·cases h
  ·rename_i cs;obtain⟨y,Y,Z⟩:=Tn h
   refine⟨y,Y,λaj ρ a w hR u hu=>?_⟩
   obtain⟨b,off,rfl,hb,hl,hc⟩:=hu;have oa:∀ (i:Nat) (x:Lf),((cs.take n).map Lf.v)[i]?=some x -> ∃ z v,x = .v z/\z.aC=true/\w.cell? ⟨b,off+i,none⟩=some v/\RV w w0.heap.size aj [] z v:=by
    intro i x C;rw[List.getElem?_map]at C;cases L:(cs.take n)[i]? with
    |none=>rw[L]at C;cases C
    | some z=>
     rw[L]at C;injection C with C;rw[List.getElem?_take]at L;split at L
     ·obtain⟨tK,v,D,O⟩:=hc i z L
      grind
     ·cases L
   refine Z w _ aj ρ b off (((cs.take n).map Lf.v).mapIdx λi _=>(w.cell? ⟨b,off+i,none⟩).getD undef) ⟨by simp,λi x C=>?_⟩ (λi v D=>?_)
   ·obtain⟨z,v,rfl,tK,D,O⟩:=oa i x C;refine⟨v,?_,tK,O⟩;simp_all
   ·rw[List.getElem?_mapIdx]at D;cases C:((cs.take n).map Lf.v)[i]? with
    |none=>rw[C]at D;cases D
    |some x =>grind
  ·rename_i j i s q;obtain⟨y0,hg,T⟩:=qm _ _ h;clear h;split at T
   ·rename_i E o' qn l;split at T
    ·rename_i hs;subst hs;split at T
     ·rename_i hi;obtain⟨y,Y,Z⟩:=Tn T
      refine⟨y,Y,λaj ρ a w hR u hu=>?_⟩
      obtain⟨ad,rfl,ni⟩:=hu;obtain⟨D,gq,iM⟩:=hg.ok hR.root;cases iM with
      |dH=>simp at hi
      |eF=>simp at hi
      |eP=>simp at hi
      |aC _ _ _ _ _ _ _ _ _ ho=>omega
      | own _ _ _ _ _ b cap cs us oc hh hs hn qj hc O=>
       rw[Aa j i (aA E) gq oc]at ni;injection ni with ni;subst ni;have oa:∀ (m:Nat) (x:Lf),(leaves (λj'=>j' :: i :: aA E :: q) j (((enc E o' l[i]).drop j).take n))[m]?=some x -> cs[i*aA E+(j+m)]?=some (us i (j+m))/\dm w w0.heap.size aj ρ x (us i (j+m)):=by
        intro m x C;rw[aaw]at C;cases L:(((enc E o' l[i]).drop j).take n)[m]? with
        |none=>rw[L]at C;cases C
        | some z=>
         rw[L]at C;injection C with C;have C:(bif z.aC then Lf.v z else Lf.own ((j+m)::i::aA E::q))=x:=C;obtain⟨_,CT⟩:=Mh _ _ _ _ _ L;have h3:=hc i hi _ z CT;have h4:=O i hi _ z CT;refine⟨h3,?_⟩;cases CU:z.aC with
         | true=>
          rw[CU]at C;subst C;exact⟨CU,h4.key CU⟩
         | false=>
          rw[CU]at C;have C:Lf.own ((j+m)::i::aA E::q)=x:=C;subst C;refine⟨?_,?_⟩
          ·exact h4.Tb CU
          ·rw[Mb,Aa _ i _ gq oc];show w.cell? _=_;rw[cell_of_row w b _ cs _ _ hh];exact h3
       refine Z w _ aj ρ b (i*aA E+j) ((leaves (λj'=>j'::i::aA E::q) j (((enc E o' l[i]).drop j).take n)).mapIdx λm _=>us i (j+m)) ⟨by simp,λm x C=>?_⟩ (λm v D=>?_)
       ·simp[*]
       ·rw[List.getElem?_mapIdx]at D;cases C:(leaves (λj'=>j' :: i :: aA E :: q) j (((enc E o' l[i]).drop j).take n))[m]? with
        |none=>rw[C]at D;cases D
        | some x=>
         rw[C]at D;injection D with D;subst D;rw[cell_of_row w b _ cs _ _ hh,Nat.add_assoc];simp_all
     ·cases T
    ·cases T
   ·cases T
  ·cases h
end
def A.xx:A->ah (aa Lf)
 |.lf x=>some [x]
 |.agg xs=>some xs
 |_=>none
def Lf.live:Lf->Bool
 |.dead=>false
 |_=>true
def Lf.pl:Lf->ah V
 |.v x=>bif x.plain then some x else none
 |_=>none
def oX:aa Lf->ah (aa V)
 |[]=>some []
 | x :: xs=>match x.pl,oX xs with
  |some y,some ys=>some (y::ys)
  |_,_=>none
def vu{X:Type}(m:Nat->ah aU):aa Nat->V->((Nat->ah aU)->ah X)->ah X
 | [r],y,k=>match m r with
  |some (.sl _)=>k (bO m r (some (.sl y)))
  |_=>none
 | j :: i :: s :: q,y,k=>gU m q λz=>match z with
  | .sl t (o+2) C l=>if s=aA t then (if h:i<l.length then (if j<aA t then (match dec t o (splice (enc t o l[i]) j [y])with
   |some e=>vu m q (.sl t (o+2) C (l.set i e)) k
   |none=>none)else none)else none)else none
  |_=>none
 |_,_,_=>none
def od{X:Type}(P:Program)(σ:S)(t:TypeId)(x y:A)(k:S->ah X):ah X:=
 match hJ P t,y.xx with
 | some n,some xs=>if xs.length=n then (match x with
  | .aG r j=>(match σ.m r with
   |some (.az cs)=>if j+n<=cs.length then (bif xs.all Lf.live then k ⟨σ.t,bO σ.m r (some (.az (splice cs j xs)))⟩else none)else none
   |_=>none)
  | .ptr (j :: i :: s :: q)=>(match oX xs with
   |none=>none
   | some D=>gU σ.m q λy=>(match y with
    | .sl C (o+2) E l=>if s=aA C then (if h:i<l.length then (if j+D.length<=aA C then (bif (((enc C o l[i]).drop j).take D.length).all V.plain then (match dec C o (splice (enc C o l[i]) j D)with
     |some e=>vu σ.m q (.sl C (o+2) E (l.set i e)) λm=>k ⟨σ.t,m⟩
     |none=>none)else none)else none)else none)else none
    |_=>none))
  |_=>none)else none
 |_,_=>none
section
variable {P:Program} {w:World} {w0:Wd} {B N:Nat} {aj:bw} {ρ:Nat->Loc} {σ:S} {a:Act} {X:Type} {r:X} {o:Oper}
def aay{m:Nat -> ah aU}:∀ (q:aa Nat) (y:V) (k:(Nat -> ah aU) -> ah X),vu m q y k=some r -> ∃ m',xq m q y m'/\k m'=some r
 |[],_,_,h=>by simp[vu]at h
 | [x],y,k,h=>by
  simp only[vu]at h;split at h
  next D E=>exact⟨_,.root x D y E,h⟩
  ·cases h
 | j :: i :: s :: q,y,k,h=>by
  simp only[vu]at h;obtain⟨z,L,C⟩:=qm q _ h;clear h;split at C
  ·split at C
   ·rename_i O;subst O;split at C
    ·rename_i hi;split at C
     ·rename_i T;split at C
      next e U=>obtain⟨m',Y,Z⟩:=aay q _ k C;exact⟨m',.elem j i q _ _ _ _ y e m' L hi T U Y,Z⟩
      ·cases C
     ·cases C
    ·cases C
   ·cases C
  ·cases C
def Mi:∀ (xs:aa Lf) (C:aa V),oX xs=some C -> xs=C.map .v /\ ∀ v∈C,v.plain=true
 | [],C,h=>by
  simp[oX]at h;subst h;exact⟨rfl,by simp⟩
 | x :: xs,C,h=>by
  unfold oX at h;split at h
  ·rename_i y ys D E;injection h with h;subst h;obtain⟨L,O⟩:=Mi xs ys E;have:x = .v y/\y.plain=true:=by
    cases x with
    | v z=>
     unfold Lf.pl at D
     grind
    |own q=>cases D
    |dead=>cases D
   simp_all
  ·cases h
def amC{u:Value}(h:u.oneCell'=true):u.cells = #[u]:=by cases u<;>first|rfl|cases h
def dm.one{x:Lf}{u:Value}(h:dm w B aj ρ x u)(C:x.live=true):u.oneCell'=true:=by
 cases x with
 |v z=>exact h.2.one
 | own k=>
  have:=h.1;cases u<;>first|rfl|cases this
 |dead=>cases C
def FQ{y:A}{xs:aa Lf}(h:y.xx=some xs)(D:xs.all Lf.live=true){u:Value}(C:RA w B aj ρ y u):dM w B aj ρ xs u.cells/\u.cells.all (·.oneCell')=true:=by
 have key:∀ us:Array Value,dM w B aj ρ xs us -> us.all (·.oneCell')=true:=by
  intro us E;rw[Array.all_eq_true];intro i hi;have O:=List.getElem?_eq_getElem (by rw[<- E.1];exact hi);obtain⟨v,L,T⟩:=E.2 i _ O;have:us[i]=v:=by rw[Array.getElem?_eq_getElem hi]at L;injection L
  rw[this];exact T.one (List.all_eq_true.1 D _ (List.getElem_mem _))
 cases y with
 | lf x=>
  injection h with h;subst h;have C:dm w B aj ρ x u:=C;have U:=C.one (by simpa using D);have:dM w B aj ρ [x] u.cells:=by
   rw[amC U]
   refine⟨rfl,λj y Y=>?_⟩
   grind
  simp_all
 | agg Z=>
  injection h with h;subst h;obtain⟨us,rfl,h⟩:=C;exact⟨h,key _ h⟩
 |_=>cases h
def To(w:World)(b o:Nat)(ty:TypeId)(v:Value)(D:w.there b o v.cells.size)(hi:(P.info? ty).map (·.size)=some v.cells.size)(L:v.cells.all (·.oneCell')=true):
  (Instr.storeAt ty (.pointer (some ⟨b,o,none⟩)) v).run P w = .ok () (w.setCells b o v.cells.toList):=by
 have:=run_storeCells_cells (P:=P) b o v.cells.toList 0 w (λj C=>by simpa using (D j (by simpa using C)).1) (λj C=>by simpa using (D j (by simpa using C)).2)
  (λv O=>(Array.all_eq_true_iff_forall_mem.1 L) v (by simpa using O))
 cases E:P.info? ty with
 |none=>simp_all
 | some i=>
  have T:v.cells.size=i.size:=by simp[E]at hi;omega
  simp[Instr.storeAt,Instr.sureAddr,storeVar,sizeOf,typeInfo,E,T,this]
def aaz{t:TypeId}{x y:A}{k:S -> ah X}(h:od P σ t x y k=some r):∃ cy,k cy=some r /\ ∀ aj ρ a w,Rl w0 N aj ρ σ a w -> ∀ u v,RA w w0.heap.size aj ρ x u -> RA w w0.heap.size aj ρ y v ->
  ∃w',(Instr.storeAt t u v).run P w = .ok () w'/\Rl w0 N aj ρ cy a w':=by
 unfold od at h;split at h
 ·rename_i n xs hn lC;split at h
  ·rename_i hlen;split at h
   ·rename_i r' j;split at h
    ·rename_i cs fB;split at h
     ·rename_i Z;cases O:xs.all Lf.live with
      |false=>grind
      | true=>
       rw[O]at h
       refine⟨_,h,λaj ρ a w hR u v hu hv=>?_⟩
       obtain⟨b,off,bW,rfl⟩:=hu;obtain⟨E,jP⟩:=FQ lC O hv;obtain⟨b',FP,fR,FR,cW⟩:=hR.FI fB E (by rw[hlen];exact Z);rw[bW]at fR;injection fR with e1 e2;subst e1 e2;exact⟨_,To w b (off+j) t v FR (by rw[E.1,hlen];exact hn) jP,cW⟩
     ·cases h
    ·cases h
   ·rename_i j i s q;split at h
    ·cases h
    ·rename_i L iN;obtain⟨y0,hg,C⟩:=qm _ _ h;clear h;split at C
     ·rename_i t' o' qn l;split at C
      ·rename_i hs;subst hs;split at C
       ·rename_i hi;split at C
        ·rename_i Z;cases hold:(((enc t' o' l[i]).drop j).take L.length).all V.plain with
         |false=>grind
         | true=>
          rw[hold,cond_true]at C;split at C
          ·rename_i e he;obtain⟨m',tL,h3⟩:=aay q _ _ C
           refine⟨_,h3,λaj ρ a w hR u v hu hv=>?_⟩
           obtain⟨ad,rfl,ni⟩:=hu;obtain⟨T,Tp⟩:=Mi xs L iN;have O:xs.all Lf.live=true:=by rw[T];simp[Lf.live]
           obtain⟨E,jP⟩:=FQ lC O hv;have Af:L.length=n:=by rw[<- hlen,T,List.length_map]
           have q1:∀ (D:Nat) x,D<L.length -> (enc t' o' l[i])[j+D]?=some x -> x.plain=true:=by
            intro D x n8 hx;refine List.all_eq_true.1 hold x (List.mem_of_getElem? (i:=D) ?_);simp_all
           have q2:∀ (D:Nat) x,L[D]?=some x -> ∃ U,v.cells[D]?=some U/\RV w w0.heap.size aj [] x U:=by
            intro D x hx;obtain⟨U,tM,ez⟩:=E.2 D (.v x) (by rw[T,List.getElem?_map,hx];rfl);exact⟨U,tM,ez.2⟩
           obtain⟨b,Y,FR,cW⟩:=hR.amw (xs:=L) (us:=v.cells) hg hi Z he q1 Tp (by rw[E.1,T,List.length_map]) q2 tL;rw[ni]at Y;injection Y with Y;subst Y;exact⟨_,To w b _ t v FR (by rw[E.1,hlen];exact hn) jP,cW⟩
          ·cases C
        ·cases C
       ·cases C
      ·cases C
     ·cases C
   ·cases h
  ·cases h
 ·cases h
end
def CV{X:Type}(P:Program)(s:TypeId)(x:A)(f:Nat)(k:A->ah X):ah X:=
 match FO P s f with
 |none=>none
 | some C=>match hJ P C.type with
  | some (_+1)=>(match x with
   |.aG r j=>k (.aG r (j+C.offset))
   |.gS cs=>k (.gS (cs.drop C.offset))
   |.ptr (j::i::s::q)=>k (.ptr ((j+C.offset)::i::s::q))
   |_=>none)
  |_=>none
def xy{X:Type}(P:Program)(σ:S)(t:TypeId)(x i:A)(k:A->ah X):ah X:=
 match n9 P t with
 |none=>none
 | some e=>match hJ P e,i with
  | some n,.lf (.v (.int _ iv))=>(match x with
   |.lf (.v (.sl C g _ l))=>if n=aA C then (bif Nat.blt g 2 then (if h:0<=iv/\iv.toNat<l.length then k (.gS (enc C g (l[iv.toNat]'h.2)))else none)else none)else none
   | .lf (.own q)=>gU σ.m q λy=>(match y with
    |.sl C g _ l=>if n=aA C then (if h:0<=iv/\iv.toNat<l.length then (bif Nat.blt g 2 then k (.gS (enc C g (l[iv.toNat]'h.2)))else k (.ptr (0::iv.toNat::aA C::q)))else none)else none
    |_=>none)
   |_=>none)
  |_,_=>none
def Ag{X:Type}(P:Program)(σ:S)(t:TypeId)(x:A)(k:A->ah X):ah X:=
 match x with
 | .lf y=>nj σ y λz=>(match z with
  |.sl _ _ _ l=>(match P.underlying t with|some (.slice _)=>k (.lf (.v (.int .i64 (l.length:Int))))|_=>none)
  |.nil=>(match P.underlying t with|some (.slice _)=>k (.lf (.v (.int .i64 0)))|_=>none)
  |.str s=>(match P.underlying t with|some .string=>k (.lf (.v (.int .i64 (s.size:Int))))|_=>none)
  |_=>none)
 |.view _ _ i j=>(match P.underlying t with|some (.slice _)=>k (.lf (.v (.int .i64 ((j-i:Nat):Int))))|_=>none)
 |_=>none
def xz:Bool×aa Lf->ah A
 |(true,cs)=>some (.agg cs)
 |(false,[y])=>some (.lf y)
 |_=>none
def Ah{X:Type}(x:A)(i:Nat)(k:A->ah X):ah X:=
 match x with
 | .dW xs=>match (xs[i]?).bind xz with
  |some y=>k y
  |none=>none
 |_=>none
section
variable {P:Program} {w:World} {w0:Wd} {B N:Nat} {aj:bw} {ρ:Nat->Loc} {σ:S} {a:Act} {X:Type} {r:X} {o:Oper} {w':World} {ax:bw} {ρ':Nat->Loc} {d:Nat}
def amD(n:Nat){j i s:Nat}{q:aa Nat}{ad:Addr}(h:addrAt w aj ρ (j :: i :: s :: q)=some ad):addrAt w aj ρ ((j+n) :: i :: s :: q)=some ⟨ad.block,ad.off+n,none⟩:=by
 match q,h with
 | [r],h=>
  simp[addrAt]at h ⊢;split at h
  ·grind
  ·cases h
 | x :: y :: q,h=>
  simp[addrAt]at h ⊢;split at h
  ·grind
  ·cases h
def Tq(w:World)(s:TypeId)(f:Nat)(C:Field)(n b off:Nat)(D:FO P s f=some C)(E:hJ P C.type=some (n+1)):
  (Instr.fieldAt s (.pointer (some ⟨b,off,none⟩)) f).run P w = .ok (.pointer (some ⟨b,off+C.offset,none⟩)) w:=by
 unfold FO at D;split at D
 ·rename_i T O;unfold hJ at E;cases L:P.info? C.type with
  |none=>simp_all
  | some i=>
   have hi:i.size=n+1:=by simpa [L]using E
   simp[Instr.fieldAt,run_underlying O,D,Instr.sureAddr,fieldPlace,sizeOf,typeInfo,L,hi,Addr.add_mid]
 ·cases D
def amE{s:TypeId}{x:A}{f:Nat}{k:A -> ah X}(h:CV P s x f k=some r):∃ y,k y=some r /\ ∀ (w:World) (B:Nat) (aj:bw) (ρ:Nat -> Loc) (u:Value),RA w B aj ρ x u ->
  ∃v,(Instr.fieldAt s u f).run P w = .ok v w/\RA w B aj ρ y v:=by
 unfold CV at h;split at h
 ·cases h
 ·rename_i D E;split at h
  ·rename_i n L;split at h
   ·rename_i r' j
    refine⟨_,h,λw B aj ρ u C=>?_⟩
    obtain⟨b,off,U,rfl⟩:=C;exact⟨_,Tq w s f D n b _ E L,b,off,U,by rw[Nat.add_assoc]⟩
   ·rename_i cs
    refine⟨_,h,λw B aj ρ u C=>?_⟩
    obtain⟨b,off,rfl,Y,Z,hc⟩:=C
    refine⟨_,Tq w s f D n b _ E L,b,_,rfl,Y,Z,λj x hx=>?_⟩
    grind
   ·rename_i j i s' q
    refine⟨_,h,λw B aj ρ u C=>?_⟩
    obtain⟨ad,rfl,O⟩:=C;have h2:=amD D.offset O;obtain⟨_,_,_,_,_,_,_,T,_⟩:=Ab _ _ O;obtain⟨b,off,sp⟩:=ad;simp only at T;subst T;exact⟨_,Tq w s f D n b off E L,_,rfl,h2⟩
   ·cases h
  ·cases h
def Ts(w:World)(t e:TypeId)(n b off len cap:Nat)(L:IntKind)(iv:Int)(C:n9 P t=some e)(D:hJ P e=some n)(O:0 <= iv)(Z:iv.toNat<len):
  (Instr.indexAt t (.slice (some ⟨b,off,none⟩) len cap) (.int L iv)).run P w = .ok (.pointer (some ⟨b,off+iv.toNat*n,none⟩)) w:=by
 unfold n9 at C;split at C
 ·rename_i T U;injection C with C;subst C;unfold hJ at D;cases E:P.info? T with
  |none=>simp_all
  | some i=>
   have hi:i.size=n:=by simpa [E]using D
   have Y:iv<len:=by omega
   simp[Instr.indexAt,run_underlying U,asIntOf,O,Y,sizeOf,typeInfo,E,hi,Addr.add_mid]
 ·cases C
def amF{t:TypeId}{x i:A}{k:A -> ah X}(h:xy P σ t x i k=some r):∃ y,k y=some r /\ ∀ aj ρ a w,Rl w0 N aj ρ σ a w -> ∀ u v,RA w w0.heap.size aj ρ x u -> RA w w0.heap.size aj ρ i v ->
  ∃p,(Instr.indexAt t u v).run P w = .ok p w/\RA w w0.heap.size aj ρ y p:=by
 unfold xy at h;split at h
 ·cases h
 ·rename_i e he;split at h
  ·rename_i n kk iv hn;split at h
   ·rename_i t' g qn l;split at h
    ·rename_i tN;subst tN;cases E:Nat.blt g 2 with
     |false=>grind
     | true=>
      rw[E,cond_true]at h;split at h
      ·rename_i C
       refine⟨_,h,λaj ρ a w Z u v L O=>?_⟩
       obtain rfl:=O.2.gf;have xB:g<2:=by have:=Nat.le_of_ble_eq_true E;omega
       cases L.2 with
       |dH=>simp at C
       |eF=>simp at C
       |eP=>simp at C
       |own=>grind
       | aC _ _ _ _ _ b off cap us ho hl CW h1 gH hc hr=>
        refine⟨_,Ts w t e _ b off _ cap kk iv he hn C.1 C.2,b,_,rfl,CW,hl,λj x T=>⟨qi t' g _ xB j x T,us _ j,?_,hr _ C.2 j x T⟩⟩
        grind
      ·cases h
    ·cases h
   ·rename_i q;obtain⟨y0,E,D⟩:=qm _ _ h;clear h;split at D
    ·rename_i t' U qn l;split at D
     ·rename_i tN;subst tN;split at D
      ·rename_i C;cases Y:Nat.blt U 2 with
       | true=>
        rw[Y,cond_true]at D;have ho2:U<2:=Nat.le_of_ble_eq_true Y
        refine⟨_,D,λaj ρ a w Z u v L O=>?_⟩
        obtain rfl:=O.2.gf;obtain⟨rq,gq,iM⟩:=E.ok Z.root;have:rq=u:=by
         have h3:=L.2;simp_all
        subst this;cases iM with
        |dH=>simp at C
        |eF=>simp at C
        |eP=>simp at C
        |own=>grind
        | aC _ _ _ _ _ b off cap us ho hl CW h1 gH hc hr=>
         refine⟨_,Ts w t e _ b off _ cap kk iv he hn C.1 C.2,b,_,rfl,CW,hl,λj x T=>⟨qi t' U _ ho2 j x T,us _ j,?_,hr _ C.2 j x T⟩⟩
         grind
       | false=>
        rw[Y,cond_false]at D;have ho2:¬ U<2:=λcU=>by have h9:Nat.blt U 2=true:=Nat.ble_eq_true_of_le cU;rw[h9]at Y;cases Y
        refine⟨_,D,λaj ρ a w Z u v L O=>?_⟩
        obtain rfl:=O.2.gf;obtain⟨rq,gq,iM⟩:=E.ok Z.root;have:rq=u:=by
         have h3:=L.2;simp_all
        subst this;cases iM with
        |dH=>simp at C
        |eF=>simp at C
        |eP=>simp at C
        |aC _ _ _ _ _ _ _ _ _ ho=>omega
        | own _ _ _ _ _ b cap cs us oc hh hs n8 qj hc hr=>
         refine⟨_,Ts w t e _ b 0 _ cap kk iv he hn C.1 C.2,_,rfl,?_⟩;rw[Aa 0 _ _ gq oc];simp
      ·cases D
     ·cases D
    ·cases D
   ·cases h
  ·cases h
def amG{t ty:TypeId}{x:A}{k:A->ah X}(h:Ag P σ t x k=some r):∃ y,k y=some r/\∀ aj ρ a w,Rl w0 N aj ρ σ a w->∀ u,RA w w0.heap.size aj ρ x u->
  ∃v,(Builtin.len_ #[t] ty #[u]).run P w = .ok v w/\RA w w0.heap.size aj ρ y v:=by
 unfold Ag at h;split at h
 ·rename_i y;have key:∃ z,(∀ aj ρ a w,Rl w0 N aj ρ σ a w->∀ u,dm w w0.heap.size aj ρ y u->∃ q,RV w w0.heap.size aj q z u)/\(match z with
    |.sl _ _ _ l=>(match P.underlying t with|some (.slice _)=>k (.lf (.v (.int .i64 (l.length:Int))))|_=>none)
    |.nil=>(match P.underlying t with|some (.slice _)=>k (.lf (.v (.int .i64 0)))|_=>none)
    |.str s=>(match P.underlying t with|some .string=>k (.lf (.v (.int .i64 (s.size:Int))))|_=>none)
    |_=>none)=some r:=by
   cases y with
   |v z=>exact⟨z,λaj ρ a w _ u D=>⟨[],D.2⟩,h⟩
   |dead=>cases h
   | own q=>
    obtain⟨z,T,h⟩:=qm q _ h
    refine⟨z,λaj ρ a w L u D=>?_,h⟩
    obtain⟨v,Y,O⟩:=T.ok L.root;have U:=D.2;rw[Y]at U;injection U with U;subst U;exact⟨q,O⟩
  obtain⟨z,T,C⟩:=key;clear h;split at C
  ·rename_i Z g qn l;split at C
   ·rename_i e E
    refine⟨_,C,λaj ρ a w L u D=>?_⟩
    obtain⟨q,O⟩:=T aj ρ a w L u D;cases O with
    |dH=>exact⟨_,by simp[Builtin.len_,run_underlying E,goInt],rfl,.int _ _ _⟩
    |eF=>exact⟨_,by simp[Builtin.len_,run_underlying E,goInt],rfl,.int _ _ _⟩
    |eP=>exact⟨_,by simp[Builtin.len_,run_underlying E,goInt],rfl,.int _ _ _⟩
    |aC=>exact⟨_,by simp[Builtin.len_,run_underlying E,goInt],rfl,.int _ _ _⟩
    |own=>exact⟨_,by simp[Builtin.len_,run_underlying E,goInt],rfl,.int _ _ _⟩
   ·cases C
  ·split at C
   ·rename_i e E
    refine⟨_,C,λaj ρ a w L u D=>?_⟩
    obtain⟨q,O⟩:=T aj ρ a w L u D;cases O;exact⟨_,by simp[Builtin.len_,run_underlying E,goInt],rfl,.int _ _ _⟩
   ·cases C
  ·split at C
   ·rename_i E
    refine⟨_,C,λaj ρ a w L u D=>?_⟩
    obtain⟨q,O⟩:=T aj ρ a w L u D;obtain rfl:=O.vr;exact⟨_,by simp[Builtin.len_,run_underlying E,goInt],rfl,.int _ _ _⟩
   ·cases C
  ·cases C
 ·split at h
  ·rename_i e E
   refine⟨_,h,λaj ρ a w L u D=>?_⟩
   obtain⟨A,n,c,Y,h1,C,rfl⟩:=D;exact⟨_,by cases A<;>simp[sliced,Builtin.len_,run_underlying E,goInt],rfl,.int _ _ _⟩
  ·cases h
 ·cases h
def Tt{p:Bool×aa Lf}{y:A}(h:xz p=some y){u:Value}(C:RP w B aj ρ p u):RA w B aj ρ y u:=by
 unfold xz at h;split at h
 ·injection h with h;subst h;exact C
 ·rename_i z;injection h with h;subst h;obtain⟨D,E,L⟩:=C.2 0 z rfl;have:u=D:=by simpa using E
  subst this;exact L
 ·cases h
def amH{x:A}{i:Nat}{k:A -> ah X}(h:Ah x i k=some r):∃ y,k y=some r /\ ∀ (w:World) (B:Nat) (aj:bw) (ρ:Nat -> Loc) (u:Value),RA w B aj ρ x u ->
  ∃v,(Instr.extract u i).run P w = .ok v w/\RA w B aj ρ y v:=by
 unfold Ah at h;split at h
 ·rename_i xs;split at h
  ·rename_i y C
   refine⟨y,h,λw B aj ρ u E=>?_⟩
   obtain⟨us,rfl,U,L⟩:=E;cases D:xs[i]? with
   |none=>simp_all
   | some p=>
    rw[D]at C;obtain⟨v,O,T⟩:=L i p D;exact⟨v,by simp[Instr.extract,O],Tt C T⟩
  ·cases h
 ·cases h
def aaA{k:aa Nat}(h:cB d k=true):[d] <:+ k:=by
 have h:k.getLast?=some d:=by simpa [cB]using h
 obtain⟨y,C⟩:=List.getLast?_eq_some_iff.1 h;simp_all
def Mj{j i s:Nat}{q:aa Nat}(C:q≠[]):cB d (j :: i :: s :: q)=cB d q:=by
 cases q with
 |nil=>simp_all
 |cons x q=>simp[cB]
structure CX (w w':World) (aj ax:bw) (d:Nat):Prop where
 size:w.heap.size<=w'.heap.size
 block:∀b,b<w.heap.size->aj b≠some [d]->w'.heap[b]?=w.heap[b]?
 Tu:∀b,b<w.heap.size->ax b=aj b
 ne:∀b,aj b≠some []
def CX.tr(D:CX w w' aj ax d)(L:∀ b k,aj b=some k->b<w.heap.size)(O:∀ r,r≠d->ρ' r=ρ r):Tr w w' aj ax ρ ρ' (cB d) (λr=>Nat.beq r d):=by
 refine⟨D.size,λb E C=>⟨D.block b E (by rw[C];simp),(D.Tu b E).trans C⟩,λb k C T=>⟨D.block b (L b k C) ?_,(D.Tu b (L b k C)).trans C⟩,λr U=>O r (by rintro rfl;simp at U),λj i s x q=>Mj (by simp),λb E=>absurd E (D.ne b)⟩
 rw[C];intro e;injection e with e;subst e;simp[cB]at T
def RA.Tv{x:A}{u:Value}(h:RA w B aj ρ x u)(C:CX w w' aj ax d)(D:∀b k,aj b=some k->b<w.heap.size)(E:∀r,r≠d->ρ' r=ρ r):RA w' B ax ρ' (x.drop d) u:=h.tr (C.tr D E) (tF (λ_ h=>h) λ_=>nc)
def dx.Tv{r:Nat}(C:r≠d){x:aU}(h:dx w B aj ρ r x)(D:CX w w' aj ax d)(E:∀b k,aj b=some k->b<w.heap.size)(L:∀r,r≠d->ρ' r=ρ r):dx w' B ax ρ' r (x.drop d):=h.tr (D.tr E L) (tF (λ_ h=>h) λ_=>nc) (by simpa [cB]using C) (nc C)
def Rl.xD{x:aU}(h:Rl w0 N aj ρ σ a w)(Y:w0.F d=none)(E:gT w0 w w')(L:CX w w' aj ax d)(Z:∀ b k,w.heap.size <= b -> ax b=some k -> b<w'.heap.size/\k≠[])(O:∀ r,r≠d -> ρ' r=ρ r)(hx:dx w' w0.heap.size ax ρ' d x):
  Rl w0 N ax ρ' ((σ.drop d).root d x) a w':=by
 have U:=λb k E=>(h.cL b k E).2.1
 refine⟨h.below.trans E,λb k T=>?_,λr y C=>?_,λk=>(h.tmp k).Tv L U O,h.size,h.defers,λr l' D=>(O r (by rintro rfl;rw[Y]at D;cases D)).trans (h.fix r l' D),h.cT⟩
 ·rcases Nat.lt_or_ge b w.heap.size with cU | ng
  ·rw[L.Tu b cU]at T;have:=h.cL b k T;exact⟨this.1,Nat.lt_of_lt_of_le this.2.1 L.size,this.2.2⟩
  ·have:=Z b k ng T;exact⟨.inl (Nat.le_trans h.below.size ng),this.1,this.2⟩
 ·by_cases D:r=d
  ·subst D;have C:(bO (σ.drop r).m r _) r=some y:=C;rw[bR]at C;simp_all
  ·have C:(bO (σ.drop d).m d (some x)) r=some y:=C;rw[cw _ _ _ D]at C;have E:Nat.beq r d=false:=by
    cases E:Nat.beq r d with
    |false=>rfl
    |true=>simp_all
   simp only[S.drop,E,cond_false]at C;cases hm:σ.m r with
   |none=>simp_all
   | some z=>
    rw[hm]at C;injection C with C;subst C;exact(h.root r z hm).Tv D L U O
end
def fU(q:Nat)(nk k:aa Nat):aa Nat:=bif cB q k then k.dropLast++nk else k
def bw.fU(aj:bw)(q:Nat)(nk:aa Nat):bw:=λb=>(aj b).map (Proofs.YtnilicojgkhpnaaGreat.fU q nk)
section
variable {P:Program} {w w':World} {w0:Wd} {B N:Nat} {aj ax:bw} {ρ ρ':Nat->Loc} {σ:S} {a:Act} {X:Type} {d q:Nat} {nk:aa Nat}
def aaB:fU q nk [q]=nk:=by simp[fU,cB]
def amI{k:aa Nat}(h:cB q k=false):fU q nk k=k:=by simp[fU,h]
def amJ{j i s:Nat}{k:aa Nat}(C:k≠[]):fU q nk (j :: i :: s :: k)=j :: i :: s :: fU q nk k:=by
 unfold fU;rw[Mj C];cases cB q k with
 |false=>rfl
 | true=>
  cases k with
  |nil=>simp_all
  |cons x k=>simp
def aaC{k:aa Nat}(C:nk≠[])(D:k≠[]):fU q nk k≠[]:=by
 unfold fU;cases cB q k with
 |false=>simp_all
 |true=>simp[C]
def bw.Tw{b:Nat}(h:aj b=none):aj.fU q nk b=none:=by simp[bw.fU,h]
def bw.aaD{b:Nat}{k:aa Nat}(h:aj b=some k):aj.fU q nk b=some (Proofs.YtnilicojgkhpnaaGreat.fU q nk k):=by simp[bw.fU,h]
def bw.aaE{b:Nat}{k:aa Nat}(h:aj b=some k)(C:cB q k=false):aj.fU q nk b=some k:=by rw[bw.aaD h,amI C]
def RV.fU{k:aa Nat}{x:V}{v:Value}(h:RV w B aj k x v)(E:∀ b,aj b≠some []):RV w B (aj.fU q nk) (Proofs.YtnilicojgkhpnaaGreat.fU q nk k) x v:=
 h.map (Q:=λk C=>C=Proofs.YtnilicojgkhpnaaGreat.fU q nk k) (Nat.le_refl _) (λb _ h=>⟨rfl,bw.Tw h⟩) (λb k C _ D e=>by
  subst e;exact⟨rfl,bw.aaD D,λj i s=>(amJ λe=>E b (e ▸ D)).symm⟩) (.inr rfl)
structure Rel (q:Nat) (aj ax:bw):Prop where
 ne:∀b,aj b≠some []
 none:∀b,aj b=none->ax b=Option.none
 jL:∀b k,aj b=some k->cB q k=false->ax b=some k
def FT(C:∀b,aj b≠some []):Rel q aj (aj.fU q nk):=⟨C,λ_ h=>bw.Tw h,λ_ _ h D=>bw.aaE h D⟩
def Rel.tr(C:Rel q aj ax):Tr w w aj ax ρ ρ (cB q) (λ_=>false):=
 ⟨Nat.le_refl _,λb _ D=>⟨rfl,C.none b D⟩,λb k D E=>⟨rfl,C.jL b k D E⟩,λ_ _=>rfl,λj i s x q=>Mj (by simp),λb L=>absurd L (C.ne b)⟩
def RV.rel(C:Rel q aj ax){k:aa Nat}{x:V}{v:Value}(h:RV w B aj k x v)(D:cB q k=false\/x.aC=true):RV w B ax k x v:=h.tr (ρ:=λ_=>.dw undef) C.tr D.symm
def amK(C:Rel q aj ax)(k:aa Nat)(u:Value)(D:cB q k=false)(h:cH w aj ρ k=some u):cH w ax ρ k=some u:=Tf C.tr k u (.inr D) (Tg k) h
def dM.rel(C:Rel q aj ax){cs:aa Lf}{us:Array Value}(h:dM w B aj ρ cs us):dM w B ax ρ (cs.map (Lf.drop q)) us:=h.tr C.tr (tF (λ_ h=>h) λ_ _=>rfl)
def RA.rel(C:Rel q aj ax){x:A}{u:Value}(h:RA w B aj ρ x u):RA w B ax ρ (x.drop q) u:=h.tr C.tr (tF (λ_ h=>h) λ_ _=>rfl)
def dx.rel(C:Rel q aj ax){r:Nat}(D:r≠q){x:aU}(h:dx w B aj ρ r x):dx w B ax ρ r (x.drop q):=h.tr C.tr (tF (λ_ h=>h) λ_ _=>rfl) (by simpa [cB]using D) rfl
def Rl.vw(h:Rl w0 N aj ρ σ a w):∀b,aj b≠some []:=λb C=>(h.cL b [] C).2.2 rfl
def Rl.rel(h:Rl w0 N aj ρ σ a w)(E:Rel q aj ax)(T:∀ b k,ax b=some k -> (∃ D,aj b=some D)/\k≠[]):Rl w0 N ax ρ (σ.drop q) a w:=by
 refine⟨h.below,λb k U=>?_,λr x C=>?_,λk=>(h.tmp k).rel E,h.size,h.defers,h.fix,h.cT⟩
 ·obtain⟨⟨D,Y⟩,hk⟩:=T b k U;have:=h.cL b D Y;simp_all
 ·have C:(bif Nat.beq r q then none else (σ.m r).map _)=some x:=C;cases L:Nat.beq r q with
  |true=>simp_all
  | false=>
   rw[L]at C;have Z:r≠q:=by rintro rfl;simp at L
   cases O:σ.m r with
   |none=>simp_all
   | some y=>
    rw[O]at C;injection C with C;subst C;exact(h.root r y O).rel E Z
def Rl.amL{z:V}(h:Rl w0 N aj ρ σ a w)(T:σ.m q=some (.sl z))(U:nk≠[]):∃ u,ρ q = .dw u/\Rl w0 N (aj.fU q nk) ρ (σ.drop q) a w/\RV w w0.heap.size (aj.fU q nk) nk z u:=by
 have E:=h.vw;have L:=h.root q _ T;generalize C:aU.sl z=x at L;cases L with
 |az=>cases C
 |mp=>cases C
 |gh=>cases C
 | sl u y Y Z=>
  injection C with C;subst C
  refine⟨u,Y,h.rel (FT E) λb k D=>?_,?_⟩
  ·unfold bw.fU at D;cases O:aj b with
   |none=>simp_all
   | some k'=>
    rw[O]at D;injection D with D;subst D;exact⟨⟨k',rfl⟩,aaC U (λe=>E b (by rw[O,e]))⟩
  ·have:=Z.fU (q:=q) (nk:=nk) E
   rwa [aaB]at this
def gi(r:Nat)(key:Nat->aa Nat):Nat->Nat->aa Lf->S->ah (aa V×S)
 |_,_,[],σ=>some ([],σ)
 |f+1,j,.v x::xs,σ=>(gi r key f (j+1) xs σ).map λp=>(x::p.1,p.2)
 | f+1,j,.own [q] :: xs,σ=>match σ.m q with
  |some (.sl z)=>bif Nat.beq q r then none else (gi r key f (j+1) (xs.map (Lf.drop q)) (σ.drop q)).map λp=>(z::p.1,p.2)
  |_=>none
 |_,_,_,_=>none
def Mk{r:Nat}{key:Nat->aa Nat}(vA:∀ j,cB r (key j)=true):∀ (f j:Nat) (xs:aa Lf) (σ L:S) (O:aa V),gi r key f j xs σ=some (O,L)->∀ aj ρ a w,Rl w0 N aj ρ σ a w->∀ us:aa Value,dM w w0.heap.size aj ρ xs us.toArray->
  ∃ ax,Rl w0 N ax ρ L a w/\O.length=xs.length/\(∀ (n:Nat) x,O[n]?=some x->∃ u,us[n]?=some u/\RV w w0.heap.size ax (key (j+n)) x u)/\(∀ k x v,cB r k=true->RV w w0.heap.size aj k x v->RV w w0.heap.size ax k x v)/\
   (∀x,σ.m r=some (.sl x)->L.m r=some (.sl x))/\(∀k u,cB r k=true->cH w aj ρ k=some u->cH w ax ρ k=some u)/\(∀b,aj b=some [r]->ax b=some [r])/\(∀b,aj b=none->ax b=none)
 | 0,j,[],σ,L,O,h,aj,ρ,a,w,C,us,T=>by
  simp only[gi,Option.some.injEq,Prod.mk.injEq]at h;obtain⟨rfl,rfl⟩:=h;exact⟨aj,C,rfl,by simp,λ_ _ _ _ h=>h,λ_ h=>h,λ_ _ _ h=>h,λ_ h=>h,λ_ h=>h⟩
 | f+1,j,[],σ,L,O,h,aj,ρ,a,w,C,us,T=>by
  simp only[gi,Option.some.injEq,Prod.mk.injEq]at h;obtain⟨rfl,rfl⟩:=h;exact⟨aj,C,rfl,by simp,λ_ _ _ _ h=>h,λ_ h=>h,λ_ _ _ h=>h,λ_ h=>h,λ_ h=>h⟩
 |0,j,x::xs,σ,L,O,h,aj,ρ,a,w,C,us,T=>by simp[gi]at h
 | f+1,j,x :: xs,σ,L,O,h,aj,ρ,a,w,C,us,T=>by
  obtain⟨Z,us,rfl⟩:∃ Z Ml,us=Z :: Ml:=by
   cases us with
   |nil=>have:=T.1;simp at this
   |cons Z us=>exact⟨_,_,rfl⟩
  have oY:dm w w0.heap.size aj ρ x Z:=by
   obtain⟨u,e,h⟩:=T.2 0 x rfl;simp at e;subst e;exact h
  have jh:dM w w0.heap.size aj ρ xs us.toArray:=⟨by have:=T.1;simpa using this,λn y D=>by
   obtain⟨u,e,h⟩:=T.2 (n+1) y D;exact⟨u,by simpa using e,h⟩⟩
  cases x with
  | v x=>
   simp only[gi,Option.map_eq_some_iff]at h;obtain⟨⟨Tx,qq⟩,h,e⟩:=h;simp only[Prod.mk.injEq]at e;obtain⟨rfl,rfl⟩:=e;obtain⟨ax,h1,h2,h3,E,h5⟩:=Mk vA f (j+1) xs σ qq Tx h aj ρ a w C us jh
   refine⟨ax,h1,by simp[h2],λn y D=>?_,E,h5⟩
   cases n with
   | zero=>
    simp at D;subst D;refine⟨Z,rfl,E _ _ _ (vA _) (oY.2.key oY.1)⟩
   | succ n=>
    obtain⟨u,e,h⟩:=h3 n y (by simpa using D);exact⟨u,by simpa using e,by rw[show j+(n+1)=j+1+n by omega];exact h⟩
  |dead=>simp[gi]at h
  | own k=>
   match k,oY,h with
   |[],_,h=>simp[gi]at h
   |_::_::_,_,h=>simp[gi]at h
   | [q],oY,h=>
    simp only[gi]at h;split at h
    ·rename_i z hz;cases Ty:Nat.beq q r with
     |true=>rw[Ty]at h;cases h
     | false=>
      rw[Ty,cond_false,Option.map_eq_some_iff]at h;obtain⟨⟨Tx,qq⟩,amM,e⟩:=h;simp only[Prod.mk.injEq]at e;obtain⟨rfl,rfl⟩:=e;have cJ:q≠r:=by rintro rfl;simp at Ty
      have hkj:key j≠[]:=by intro e;have:=vA j;rw[e]at this;simp[cB]at this
      obtain⟨u,bW,cW,iM⟩:=C.amL hz hkj;have FU:u=Z:=by
       have E:=oY.2;simp only[cH,bW]at E;injection E
      subst FU;have mj:∀ k,cB r k=true->cB q k=false:=by
       intro k U;cases hq:cB q k with
       |false=>rfl
       | true=>
        exfalso;have h1:=aaA U;have h2:=aaA hq;exact cJ (aas h1 h2)
      obtain⟨ax,h1,h2,h3,E,h5,h6,h7,h8⟩:=Mk vA f (j+1) (xs.map (Lf.drop q)) (σ.drop q) qq Tx amM _ ρ a w cW us (jh.rel (FT C.vw))
      refine⟨ax,h1,by simp[h2],λn y D=>?_,λk x v U hv=>E _ _ _ U (hv.rel (FT C.vw) (.inl (mj k U))),λx hx=>h5 x ?_,λk v U hv=>h6 k v U (amK (FT C.vw) k v (mj k U) hv),λb Y=>h7 b (bw.aaE Y (by simpa [cB]using λe=>cJ e.symm)),λb Y=>h8 b (bw.Tw Y)⟩
      ·cases n with
       | zero=>
        simp at D;subst D;exact⟨u,rfl,E _ _ _ (vA _) iM⟩
       | succ n=>
        obtain⟨u,e,h⟩:=h3 n y (by simpa using D);exact⟨u,by simpa using e,by rw[show j+(n+1)=j+1+n by omega];exact h⟩
      ·have Y:Nat.beq r q=false:=by
        cases Y:Nat.beq r q with
        |false=>rfl
        |true=>exact absurd (Nat.eq_of_beq_eq_true Y).symm cJ
       show (bif Nat.beq r q then none else (σ.m r).map (aU.drop q))=_;rw[Y,hx];rfl
    ·cases h
end
def mm:Value->Lf
 |.int k n=>.v (.int k n)
 |.bool b=>.v (.bool b)
 |.string s=>.v (.str s)
 |.slice none 0 0=>.v .nil
 |_=>.dead
def zeroV:Value->ah V
 |.int k n=>some (.int k n)
 |.bool b=>some (.bool b)
 |.string s=>some (.str s)
 |.slice none 0 0=>some .nil
 |_=>none
def FV:aa Value->ah (aa V)
 |[]=>some []
 | v :: C=>match zeroV v,FV C with
  |some x,some xs=>some (x::xs)
  |_,_=>none
def zeroOf(P:Program)(e:TypeId):ah Value:=(P.info? e).bind (·.zero)
def bytesOf(P:Program)(e:TypeId):ah Nat:=(P.info? e).map (·.bytes)
def gj{X:Type}(N:Nat)(σ:S)(d:Nat)(x:aU)(y:A)(k:S->ah X):ah X:=
 bif Nat.blt d N then k (((σ.drop d).root d x).set d y)else none
def oZ{X:Type}(P:Program)(N:Nat)(σ:S)(d:Nat)(e:TypeId)(k:S->ah X):ah X:=
 match zeroOf P e with
 |some z=>gj N σ d (.az (z.cells.toList.map mm)) (.aG d 0) k
 |none=>none
def tO(P:Program)(t:TypeId):ah (TypeId×TC):=
 match n9 P t with
 |none=>none
 | some e=>match aam e,hJ P e,bytesOf P e with
  |some C,some n,some b=>bif Nat.beq n (aA C)&&Nat.ble b 65536 then some (e,C)else none
  |_,_,_=>none
def Mm(P:Program)(e:TypeId)(C:TC):ah (T C):=
 match zeroOf P e with
 |none=>none
 | some z=>match FV z.cells.toList with
  |none=>none
  |some D=>dec C (full C) D
def xE{X:Type}(P:Program)(N:Nat)(σ:S)(d:Nat)(t:TypeId)(l c:A)(k:S->ah X):ah X:=
 match tO P t,l,c with
 | some (e,C),.lf (.v (.int _ n)),.lf (.v (.int _ c))=>match Mm P e C with
  |none=>none
  |some z=>if 0<=n/\n<=c/\c<1073741824 then gj N σ d (.sl (.sl C (full C+2) false (List.replicate n.toNat z))) (.lf (.own [d])) k else none
 |_,_,_=>none
def V.Mn(t:TC):V->ah (aa (T t))
 |.sl C _ _ l=>if h:C=t then some (h ▸ l)else none
 |.nil=>some []
 |_=>none
def rA{X:Type}(P:Program)(N:Nat)(σ:S)(d:Nat)(t:TypeId)(x y:A)(k:S->ah X):ah X:=
 match tO P t with
 | some (e,C)=>bif Nat.beq (full C) 0&&(zeroOf P e).any (λz=>Nat.beq z.cells.size (aA C))then qp σ y λD=>(match D.Mn C with
  |none=>none
  | some l2=>match x with
   |.lf (.v .nil)=>bif bD l2.length then gj N σ d (.sl (.sl C 2 false l2)) (.lf (.own [d])) k else none
   | .lf (.own [r])=>(match σ.m r with
    |some (.sl (.sl E (o+2) q l))=>if h:E=C then (bif Nat.blt d N&&(Nat.blt r N ||Nat.ble 60000 r)&&bD (l.length+l2.length)then k (((σ.drop r).root r (.sl (.sl C (o+2) false ((h ▸ l)++l2)))).set d (.lf (.own [r])))else none)else none
    |_=>none)
   |_=>none)else none
 |none=>none
section
variable {P:Program} {w w':World} {w0:Wd} {B N:Nat} {aj ax:bw} {ρ ρ':Nat->Loc} {σ:S} {a:Act} {X:Type} {d:Nat} {r:X} {q:Nat} {o:Oper}
def Mo(v:Value):dm w B aj ρ (mm v) v:=by
 unfold mm;split
 ·exact⟨rfl,.int _ _ _⟩
 ·exact⟨rfl,.bool _ _⟩
 ·exact⟨rfl,.str _ _⟩
 ·exact⟨rfl,.nil _⟩
 ·trivial
def aaF{v:Value}{x:V}(h:zeroV v=some x)(q:aa Nat):RV w B aj q x v:=by
 unfold zeroV at h;split at h<;>first|(injection h with h;subst h;first|exact .int _ _ _|exact .bool _ _|exact .str _ _|exact .nil _)|cases h
def Tz:∀ (C:aa Value) (xs:aa V),FV C=some xs -> xs.length=C.length /\ ∀ (j:Nat) x,xs[j]?=some x -> ∃ v,C[j]?=some v/\zeroV v=some x
 | [],xs,h=>by
  simp[FV]at h;simp_all
 | v :: C,xs,h=>by
  unfold FV at h;split at h
  ·rename_i y ys E D;injection h with h;subst h;obtain⟨L,O⟩:=Tz C ys D
   grind
  ·cases h
def gT.aaG(w0:Wd)(w:World)(o:Obj)(h:w0.heap.size<=w.heap.size):gT w0 w (w.alloc o):=.of ((Below.refl w0.heap.size w).alloc h o) (Nat.le_refl _)
def Rl.CY{c:Array Value}{e:TypeId}{x:aU}{ρ':Nat -> Loc}(h:Rl w0 N aj ρ σ a w)(E:w0.F d=none)(L:∀ r,r≠d -> ρ' r=ρ r)
  (O:dx (w.alloc (.cells c e)) w0.heap.size (bO aj w.heap.size (some [d])) ρ' d x):Rl w0 N (bO aj w.heap.size (some [d])) ρ' ((σ.drop d).root d x) a (w.alloc (.cells c e)):=by
 refine h.xD E (gT.aaG w0 w _ h.below.size) ⟨by simp,λb D _=>Below.heap_alloc w _ b D,λb D=>cw _ _ _ (by omega),λb D=>(h.cL b [] D).2.2 rfl⟩ (λb k D C=>?_) L O
 by_cases e:b=w.heap.size
 ·subst e;rw[bR]at C;injection C with C;subst C;simp_all
 ·rw[cw _ _ _ e]at C;have:=(h.cL b k C).2.1;omega
def nq{x:aU}{y:A}{k:S -> ah X}(h:gj N σ d x y k=some r):d<N/\k (((σ.drop d).root d x).set d y)=some r:=by
 unfold gj at h;cases C:Nat.blt d N with
 |false=>simp_all
 |true=>simp_all
def amN{e:TypeId}{k:S -> ah X}(h:oZ P N σ d e k=some r):∃ E,k E=some r /\ ∀ aj ρ a w,Rl w0 N aj ρ σ a w -> ∃ w' ax ρ' v,(Instr.alloc e true (.tuple #[])).run P w = .ok v w'/\Rl w0 N ax ρ' E (a.put (some d) v) w':=by
 unfold oZ at h;split at h
 ·rename_i z D;obtain⟨L,h⟩:=nq h
  refine⟨_,h,λaj ρ a w O=>?_⟩
  have Y:(Instr.alloc e true (.tuple #[])).run P w = .ok (.pointer (some ⟨w.heap.size,0,none⟩)) (w.alloc (.cells z.cells e)):=by
   unfold zeroOf at D;cases hi:P.info? e with
   |none=>simp_all
   | some i=>
    have D:i.zero=some z:=by simpa [hi]using D
    simp[Instr.alloc,zeroValue,typeInfo,hi,D,newVar,newRow]
  refine⟨_,bO aj w.heap.size (some [d]),bO ρ d (.az w.heap.size 0),_,Y,(O.CY (O.cT d (.inl L)) (λr Z=>cw _ _ _ Z) ?_).set ⟨w.heap.size,0,bR _ _ _,rfl⟩ L⟩
  refine .az w.heap.size 0 z.cells e _ (λj=>z.cells.getD j undef) (bR _ _ _) (bR _ _ _) (heap_alloc_new w _) (by simp) λj x C=>?_
  rw[List.getElem?_map]at C;cases T:z.cells.toList[j]? with
  |none=>simp_all
  | some v=>
   rw[T]at C;injection C with C;subst C;have U:z.cells[j]?=some v:=by simpa using T
   have hg:z.cells.getD j undef=v:=by rw[Array.getD_eq_getD_getElem?,U];rfl
   rw[hg,Nat.zero_add];exact⟨U,Mo v⟩
 ·cases h
def xF{t e:TypeId}{C:TC}(h:tO P t=some (e,C)):P.underlying t=some (.slice e)/\tid C=e /\ ∃ i,P.info? e=some i/\i.size=aA C/\i.bytes <= 65536:=by
 unfold tO at h;split at h
 ·cases h
 ·rename_i L D;split at h
  ·rename_i O n b T U Y;cases E:(Nat.beq n (aA O)&&Nat.ble b 65536)with
   |false=>simp_all
   | true=>
    rw[E,cond_true]at h;injection h with h;injection h with Z h2;subst Z h2;rw[Bool.and_eq_true]at E;refine⟨?_,amq T,?_⟩
    ·unfold n9 at D;split at D
     ·simp_all
     ·cases D
    ·unfold hJ at U;unfold bytesOf at Y;cases hi:P.info? L with
     |none=>simp_all
     |some i =>simp_all
  ·cases h
def aaH(z:Array Value)(n i j:Nat)(C:j<z.size)(h:i*z.size+j<n):(madeCells z n)[i*z.size+j]?=some z[j]:=by
 have D:(i*z.size+j) % z.size=j:=by rw[Nat.add_comm,Nat.add_mul_mod_self_right,Nat.mod_eq_of_lt C]
 simp[madeCells,Array.getElem?_map,Array.getElem?_range,h,if_true,Option.map_some,D];simp[C]
def amO{t:TypeId}{l c:A}{k:S -> ah X}(h:xE P N σ d t l c k=some r):∃ cy,k cy=some r /\ ∀ aj ρ a w,Rl w0 N aj ρ σ a w -> ∀ u v,RA w w0.heap.size aj ρ l u -> RA w w0.heap.size aj ρ c v ->
  ∃w' ax ρ' x,(Instr.makeSlice t u v).run P w = .ok x w'/\Rl w0 N ax ρ' cy (a.put (some d) x) w':=by
 unfold xE at h;split at h
 ·rename_i e D kl n kc c nt;split at h
  ·cases h
  ·rename_i z E;split at h
   ·rename_i hb;obtain⟨hd,h⟩:=nq h
    refine⟨_,h,λaj ρ a w hR u v hu U=>?_⟩
    obtain rfl:=hu.2.gf;obtain rfl:=U.2.gf;obtain⟨fj,ht,i,hi,fN,iE⟩:=xF nt;unfold Mm at E;split at E
    ·cases E
    ·rename_i C CZ;split at E
     ·cases E
     ·rename_i vs iN;have nu:i.zero=some C:=by unfold zeroOf at CZ;simpa [hi]using CZ
      obtain⟨o6,ji⟩:=Tz _ _ iN;have Y:=ko D (full D) vs z E;have T:C.cells.size=aA D:=by rw[<- jg D (full D) z,<- Y.1,o6];simp
      have SZ:(i.bytes:Int)*c <= 281474976710656:=by
       have h1:(i.bytes:Int) <= 65536:=by omega
       have h2:i.bytes*c <= 65536*c:=Int.mul_le_mul_of_nonneg_right h1 (by omega);omega
      have cV:=run_make (P:=P) w t e i C fj hi nu kl kc n c hb.1 hb.2.1 SZ (by omega);rw[fN,<- T]at cV
      refine⟨_,bO aj w.heap.size (some [d]),bO ρ d (.dw (.slice (some ⟨w.heap.size,0,none⟩) n.toNat c.toNat)),_,cV,(hR.CY (hR.cT d (.inl hd)) (λr hr=>cw _ _ _ hr) ?_).set ⟨rfl,?_⟩ hd⟩
      ·refine .sl _ _ (bR _ _ _) ?_;have hlen:(List.replicate n.toNat z).length=n.toNat:=by simp
       have:=RV.own (w:=w.alloc (.cells (madeCells C.cells (c.toNat*C.cells.size)) e)) (B:=w0.heap.size) (aj:=bO aj w.heap.size (some [d])) [d] D (full D) false (List.replicate n.toNat z) w.heap.size c.toNat (madeCells C.cells (c.toNat*C.cells.size)) (λ_ j=>C.cells.getD j undef)
        (bR _ _ _) (by rw[ht];exact heap_alloc_new w _) (by rw[size_madeCells,T]) (by rw[hlen];omega) ⟨by unfold maxLen;omega,λh=>by cases h⟩ (λZ h' j x L=>?_) (λZ h' j x L=>?_)
       ·rw[hlen]at this;exact this
       ·rw[List.getElem_replicate]at L;have O:j<aA D:=by have:=(List.getElem?_eq_some_iff.1 L).1;rwa [jg]at this
        rw[hlen]at h';rw[<- T]at O;rw[<- T,aaH C.cells _ Z j O (by
         have:(Z+1)*C.cells.size <= c.toNat*C.cells.size:=Nat.mul_le_mul_right _ (by omega);rw[Nat.succ_mul]at this;omega)]
        simp[Array.getD_eq_getD_getElem?,O]
       ·rw[List.getElem_replicate]at L;have O:j<(enc D (full D) z).length:=(List.getElem?_eq_some_iff.1 L).1;rw[<- Y.1]at O;have hy:=List.getElem?_eq_getElem O;generalize vs[j]=y at hy;obtain⟨v,U,TA⟩:=ji j y hy;have rq:C.cells[j]?=some v:=by simpa using U
        have hg:C.cells.getD j undef=v:=by rw[Array.getD_eq_getD_getElem?,rq];rfl
        rw[hg];exact(aaF TA _).wk (Y.2 j y x hy L)
      ·simp[cH,bR]
   ·cases h
 ·cases h
def C0(t:TC)(h:full t=0)(o C:Nat)(x:T t):enc t o x=enc t C x:=by
 have key:∀ o,enc t o x=enc t 0 x:=by
  intro o;rw[aan t o x];have:=xm t o x h
  conv=>lhs;rw[<- List.map_id (enc t o x)]
  apply List.map_congr_left;intro y D;have E:=this y D;cases y<;>first|rfl|cases E
 simp_all
def vB(u:Nat->Nat->Value)(n s:Nat):aa Value:=(List.range (n*s)).map λk=>u (k / s) (k % s)
def aaI(u:Nat -> Nat -> Value)(n s i j:Nat)(hi:i<n)(C:j<s):(vB u n s)[i*s+j]?=some (u i j):=by
 have D:i*s+j<n*s:=by
  have:(i+1)*s <= n*s:=Nat.mul_le_mul_right _ hi
  grind
 have E:(i*s+j) / s=i:=by rw[Nat.add_comm,Nat.add_mul_div_right _ _ (by omega),Nat.div_eq_of_lt C,Nat.zero_add]
 have L:(i*s+j) % s=j:=by rw[Nat.add_comm,Nat.add_mul_mod_self_right,Nat.mod_eq_of_lt C]
 simp[vB,D,E,L]
def Mp(u:Nat -> Nat -> Value)(n s k:Nat)(v:Value)(D:0<s)(h:(vB u n s)[k]?=some v):∃ i j,k=i*s+j/\i<n/\j<s/\v=u i j:=by
 have C:k<n*s:=by
  have:=(List.getElem?_eq_some_iff.1 h).1
  simpa [vB]using this
 refine⟨k / s,k % s,by rw[Nat.mul_comm];exact(Nat.div_add_mod k s).symm,Nat.div_lt_of_lt_mul (by rw[Nat.mul_comm];exact C),Nat.mod_lt _ D,?_⟩;simp[vB,List.getElem?_map,List.getElem?_range C,Option.map_some,Option.some.injEq]at h;simp_all
def Ai(t:TC)(o:Nat)(x:T t)(j:Nat)(C:j<aA t):∃y,(enc t o x)[j]?=some y:=⟨_,List.getElem?_eq_getElem (by rw[jg];exact C)⟩
def vC(t:TC)(l:aa (T t))(C:aa Value):Prop:=
 ∀i (hi:i<l.length) (o j:Nat) x,(enc t o l[i])[j]?=some x->∃v,C[i*aA t+j]?=some v/\v.oneCell'=true/\∀(w':World) (B':Nat) (ax:bw) (D:aa Nat),RV w' B' ax D x v
def RV.reads{q:aa Nat}{t:TC}{g:Nat}{qn:Bool}{l:aa (T t)}{u:Value}(h:RV w B aj q (.sl t g qn l) u)(Y:full t=0):
  ∃A c news,u = .slice A l.length c/\Reads w w.heap.size (aA t) A l.length news/\(∀v∈news,v.oneCell'=true)/\vC t l news:=by
 cases h with
 |dH=>exact⟨none,0,[],rfl,Reads.none_,by simp,λi hi=>by simp at hi⟩
 |eF=>exact⟨_,_,[],rfl,⟨by simp,λh=>by simp at h⟩,by simp,λi hi=>by simp at hi⟩
 |eP=>exact⟨_,_,[],rfl,⟨by simp,λh=>by simp at h⟩,by simp,λi hi=>by simp at hi⟩
 | aC _ _ _ _ _ b off cap us ho hl hb h1 gH hc O=>
  have U:∀ i (hi:i<l.length) j,j<aA t -> (us i j).oneCell'=true:=by
   intro i hi j C;obtain⟨y,L⟩:=Ai t g l[i] j C;exact(O i hi j y L).one
  refine⟨_,cap,vB us l.length (aA t),rfl,⟨by simp[vB],λhn=>⟨b,off,rfl,hb,λk v E=>?_⟩⟩,λv E=>?_,λi hi o j x D=>?_⟩
  ·obtain⟨i,j,rfl,hi,C,rfl⟩:=Mp us _ _ k v (mY t) E;obtain⟨y,L⟩:=Ai t g l[i] j C;exact hc i hi j y L
  ·obtain⟨k,Z⟩:=List.mem_iff_getElem?.1 E;obtain⟨i,j,rfl,hi,C,rfl⟩:=Mp us _ _ k v (mY t) Z;exact U i hi j C
  ·have C:j<aA t:=by have:=(List.getElem?_eq_some_iff.1 D).1;rwa [jg]at this
   rw[C0 t Y o g]at D
   refine⟨us i j,aaI us _ _ i j hi C,U i hi j C,λw' B' ax q'=>(O i hi j x D).ru (xm t g l[i] Y x (List.mem_of_getElem? D))⟩
 | own _ _ o _ _ b cap cs us hl hh hs hn hm hc O=>
  have U:∀ i (hi:i<l.length) j,j<aA t -> (us i j).oneCell'=true:=by
   intro i hi j C;obtain⟨y,L⟩:=Ai t o l[i] j C;exact(O i hi j y L).one
  refine⟨_,cap,vB us l.length (aA t),rfl,⟨by simp[vB],λhn=>⟨b,0,rfl,(Array.getElem?_eq_some_iff.1 hh).1,λk v E=>?_⟩⟩,λv E=>?_,λi hi o' j x D=>?_⟩
  ·obtain⟨i,j,rfl,hi,C,rfl⟩:=Mp us _ _ k v (mY t) E;obtain⟨y,L⟩:=Ai t o l[i] j C;rw[Nat.zero_add,cell_of_row w b _ cs _ _ hh];simp_all
  ·obtain⟨k,Z⟩:=List.mem_iff_getElem?.1 E;obtain⟨i,j,rfl,hi,C,rfl⟩:=Mp us _ _ k v (mY t) Z;exact U i hi j C
  ·have C:j<aA t:=by have:=(List.getElem?_eq_some_iff.1 D).1;rwa [jg]at this
   rw[C0 t Y o' o]at D
   refine⟨us i j,aaI us _ _ i j hi C,U i hi j C,λw' B' ax q'=>(O i hi j x D).ru (xm t o l[i] Y x (List.mem_of_getElem? D))⟩
def RV.aaJ{q:aa Nat}{t:TC}{o:Nat}{D:Bool}{l:aa (T t)}{u:Value}(h:RV w B aj q (.sl t (o+2) D l) u)(E:full t=0){B':Nat}(hB:∀ b,aj b=some q -> B' <= b):
  ∃xs,w.ownsRow B' (tid t) (aA t) u l.length xs/\(∀b,u.ownBlock=some b -> aj b=some q)/\(D=true -> u.ownBlock≠none)/\vC t l xs:=by
 cases h with
 |eF=>omega
 |eP=>omega
 |dH=>exact⟨[],⟨by simp,.inl ⟨rfl,rfl⟩⟩,by simp[Value.ownBlock],by simp,λi hi=>by simp at hi⟩
 |aC _ _ _ _ _ _ _ _ _ ho=>omega
 | own _ _ _ _ _ b cap cs us O U Y Z hm hc L=>
  refine⟨cs.toList.take _,⟨?_,.inr ⟨b,cap,cs,rfl,hB b O,U,Z,hm.1,Y,rfl⟩⟩,λb' vD=>?_,λ_=>by simp[Value.ownBlock],λi hi o' j x C=>?_⟩
  ·simp_all
  ·have:b=b':=by simpa [Value.ownBlock]using vD
   simp_all
  ·have hj:j<aA t:=by have:=(List.getElem?_eq_some_iff.1 C).1;rwa [jg]at this
   have cU:i*aA t+j<l.length*aA t:=by
    have:(i+1)*aA t <= l.length*aA t:=Nat.mul_le_mul_right _ hi;rw[Nat.succ_mul]at this;omega
   rw[C0 t E o' o]at C
   refine⟨us i j,?_,(L i hi j x C).one,λw' B' ax q'=>(L i hi j x C).ru (xm t o l[i] E x (List.mem_of_getElem? C))⟩
   grind
def vC.append{t:TC}{l l2:aa (T t)}{xs ys:aa Value}(h:vC t l xs)(E:vC t l2 ys)(L:xs.length=l.length*aA t):vC t (l++l2) (xs++ys):=by
 intro i hi o j x C;by_cases D:i<l.length
 ·rw[List.getElem_append_left D]at C;obtain⟨v,O,r⟩:=h i D o j x C
  grind
 ·rw[List.getElem_append_right (by omega)]at C;have U:i-l.length<l2.length:=by rw[List.length_append]at hi;omega
  obtain⟨v,O,r⟩:=E _ U o j x C;refine⟨v,?_,r⟩;have e:i*aA t+j=xs.length+((i-l.length)*aA t+j):=by
   rw[L,Nat.sub_mul];have:l.length*aA t <= i*aA t:=Nat.mul_le_mul_right _ (by omega);omega
  grind
def TB{q:aa Nat}{t:TC}{o:Nat}{l:aa (T t)}{u:Value}{xs:aa Value}{B':Nat}(h:w.ownsRow B' (tid t) (aA t) u l.length xs)(D:vC t l xs)(E:∀ b,u.ownBlock=some b -> aj b=some q):
  RV w B aj q (.sl t (o+2) false l) u:=by
 rcases h.2 with ⟨rfl,L⟩|⟨b,cap,cs,rfl,hB,O,U,Y,Z,ht⟩
 ·have:=List.eq_nil_of_length_eq_zero L;subst this;exact .dH _ _ _
 ·have oa:∀ i _ j x,(enc t o l[i])[j]?=some x -> ∃ v,cs[i*aA t+j]?=some v /\ ∀ w' B' ax q',RV w' B' ax q' x v:=by
   intro i hi j x C;obtain⟨v,hv,_,r⟩:=D i hi o j x C
   grind
  refine .own q t o false l b cap cs (λi j=>(cs[i*aA t+j]?).getD undef) (E b rfl) O Z U ⟨Y,λh=>by cases h⟩ (λi hi j x C=>?_) (λi hi j x C=>?_)
  ·grind
  ·grind
def Rl.append{t e ty:TypeId}{D:TC}{i:TypeInfo}{z:Value}{rr o g:Nat}{q qn:Bool}{l l2:aa (T D)}{u v:Value}{q':aa Nat}{Bx:Nat}{TD:bw}(h:Rl w0 N aj ρ σ a w)(hF:w0.F rr=none)(fj:P.underlying t=some (.slice e))(ht:tid D=e)(hi:P.info? e=some i)(hz:i.zero=some z)
  (fN:i.size=aA D) (iE:i.bytes <= 65536) (kR:z.cells.size=aA D) (hf:full D=0) (hd:RV w w0.heap.size aj [rr] (.sl D (o+2) q l) u) (hs:RV w Bx TD q' (.sl D g qn l2) v) (hlen:l.length+l2.length<1073741824):
  ∃E w' ax,(Builtin.append_ #[t,t] ty #[u,v]).run P w = .ok E w'/\Rl w0 N ax (bO ρ rr (.dw E)) ((σ.drop rr).root rr (.sl (.sl D (o+2) false (l++l2)))) a w'/\kZ E=true:=by
 subst ht;obtain⟨xs,xH,Z,FW,gz⟩:=hd.aaJ hf (B':=0) (λb _=>Nat.zero_le b);obtain⟨A,c,news,rfl,o7,jP,FX⟩:=hs.reads hf;have fQ:(l.length+l2.length)*i.bytes <= 140737488355328:=by
  have h1:(l.length+l2.length)*i.bytes <= 1073741824*65536:=Nat.mul_le_mul (by omega) iE;omega
 obtain⟨E,w',cV,U,O,ku⟩:=SY (P:=P) w 0 t ty (tid D) i z (aA D) i.bytes fj hi hz fN rfl kR (mY D) u l.length xs xH _ A l2.length c news o7 jP (by unfold maxLen;omega) fQ (Nat.zero_le _);have FY:(l++l2).length=l.length+l2.length:=List.length_append;rw[<- FY]at U;have Aj:=gz.append FX xH.1;have fh:kZ E=true:=by rcases U.2 with ⟨rfl,_⟩|⟨_,_,_,rfl,_⟩<;>rfl
 have Mq:Below 0 w w':=(Below.refl 0 w).grown O (Nat.zero_le _) (λ_ _=>Nat.zero_le _);have jj:gT w0 w w':=⟨Mq.os,Mq.tape,Mq.output,Mq.size,λk L hL=>O.block k (Nat.lt_of_lt_of_le L h.below.size) (λY=>by
  rcases(h.cL k _ (Z k Y.symm)).1 with h1|h1
  ·exact absurd L (Nat.not_lt.2 h1)
  ·exact h1 hL)⟩
 by_cases rB:E.ownBlock=some w.heap.size
 ·have cU:w.heap.size<w'.heap.size:=by
   rcases U.2 with ⟨rfl,_⟩|⟨b,cap,cs,rfl,_,hh,_⟩
   ·cases rB
   ·have:b=w.heap.size:=by simpa [Value.ownBlock]using rB
    grind
  refine⟨E,w',bO aj w.heap.size (some [rr]),cV,h.xD hF jj ⟨O.size,λb C cJ=>O.block b C (λY=>cJ (Z b Y.symm)),λb C=>cw _ _ _ (by omega),λb C=>(h.cL b [] C).2.2 rfl⟩ (λb k C L=>?_) (λr hr=>cw _ _ _ hr) (.sl E _ (bR _ _ _) (TB U Aj (λb C=>?_))),fh⟩
  ·by_cases e:b=w.heap.size
   ·subst e;rw[bR]at L
    grind
   ·rw[cw _ _ _ e]at L;have:=(h.cL b k L).2.1;omega
  ·rw[rB]at C;injection C with C;subst C;exact bR _ _ _
 ·have TE:E.ownBlock=u.ownBlock:=by
   rcases ku with ku|ku
   ·exact ku
   ·exact absurd ku rB
  refine⟨E,w',aj,cV,h.xD hF jj ⟨O.size,λb C cJ=>O.block b C (λY=>cJ (Z b Y.symm)),λ_ _=>rfl,λb C=>(h.cL b [] C).2.2 rfl⟩ (λb k C L=>?_) (λr hr=>cw _ _ _ hr) (.sl E _ (bR _ _ _) (TB U Aj (λb C=>Z b (by rw[<- TE];exact C)))),fh⟩
  have:=(h.cL b k L).2.1;omega
def TF{t:TC}{x:V}{l:aa (T t)}(h:x.Mn t=some l){q:aa Nat}{u:Value}(C:RV w B aj q x u):∃ g D,RV w B aj q (.sl t g D l) u:=by
 unfold V.Mn at h;split at h
 ·grind
 ·injection h with h;subst h;cases C;exact⟨0,false,.dH _ _ _⟩
 ·cases h
def TG{x:Lf}{k:V -> ah X}(h:nj σ x k=some r):∃ y,(∀ aj ρ a w,Rl w0 N aj ρ σ a w -> ∀ u,dm w w0.heap.size aj ρ x u -> ∃ q,RV w w0.heap.size aj q y u)/\k y=some r:=by
 cases x with
 |v z=>exact⟨z,λaj ρ a w _ u C=>⟨[],C.2⟩,h⟩
 |dead=>cases h
 | own q=>
  obtain⟨z,D,h⟩:=qm q _ h
  refine⟨z,λaj ρ a w E u C=>?_,h⟩
  obtain⟨v,L,O⟩:=D.ok E.root;have T:=C.2
  grind
def aaK{y:A}{k:V -> ah X}(h:qp σ y k=some r):∃ z,(∀ aj ρ a w,Rl w0 N aj ρ σ a w -> ∀ u,RA w w0.heap.size aj ρ y u -> ∃ q B' ax,RV w B' ax q z u)/\k z=some r:=by
 unfold qp at h;split at h
 ·obtain⟨z,C,D⟩:=TG h;exact⟨z,λaj ρ a w E u L=>let ⟨q,O⟩:=C aj ρ a w E u L;⟨q,_,_,O⟩,D⟩
 ·obtain⟨z,D,_,C⟩:=aav h;exact⟨z,λaj ρ a w E u L=>⟨[],0,_,C _ _ _ _ _ _ E u L 0⟩,D⟩
 ·cases h
def amP{t ty:TypeId}{x y:A}{k:S -> ah X}(h:rA P N σ d t x y k=some r):∃ cy,k cy=some r /\ ∀ aj ρ a w,Rl w0 N aj ρ σ a w -> ∀ u v,RA w w0.heap.size aj ρ x u -> RA w w0.heap.size aj ρ y v ->
  ∃w' ax ρ' z,(Builtin.append_ #[t,t] ty #[u,v]).run P w = .ok z w'/\Rl w0 N ax ρ' cy (a.put (some d) z) w':=by
 unfold rA at h;split at h
 ·rename_i e tc nt;obtain⟨fj,ht,i,hi,fN,iE⟩:=xF nt;cases U:(Nat.beq (full tc) 0&&(zeroOf P e).any (λz=>Nat.beq z.cells.size (aA tc)))with
  |false=>grind
  | true=>
   rw[U,cond_true]at h;rw[Bool.and_eq_true]at U;have hf:=Nat.eq_of_beq_eq_true U.1;obtain⟨z,hz,Y⟩:=(Option.any_eq_true _ _).1 U.2;have Y:=Nat.eq_of_beq_eq_true Y;have nu:i.zero=some z:=by unfold zeroOf at hz;simpa [hi]using hz
   obtain⟨yv,Mr,C⟩:=aaK (w0:=w0) (N:=N) h;clear h;split at C
   ·cases C
   ·rename_i l2 ji;split at C
    ·cases D:bD l2.length with
     |false=>grind
     | true=>
      rw[D,cond_true]at C;have D:l2.length<1073741824:=by simpa [bD]using D
      obtain⟨Z,h3⟩:=nq C
      refine⟨_,h3,λaj ρ a w E u v T hv=>?_⟩
      have T:u = .slice none 0 0:=by cases T.2;rfl
      subst T;obtain⟨q',_,_,L⟩:=Mr aj ρ a w E v hv;obtain⟨g,qn,L⟩:=TF ji L;obtain⟨v',w',ax,cV,cW,fh⟩:=E.append (ty:=ty) (rr:=d) (o:=0) (q:=false) (l:=[]) (E.cT d (.inl Z)) fj ht hi nu fN iE Y hf (.dH _ _ _) L (by simpa using D);exact⟨w',ax,_,v',cV,cW.set ⟨fh,by simp[cH,bR]⟩ Z⟩
    ·rename_i rr;split at C
     ·rename_i t' o q l hm;split at C
      ·rename_i lD;subst lD;cases D:(Nat.blt d N&&(Nat.blt rr N || Nat.ble 60000 rr)&&bD (l.length+l2.length))with
       |false=>grind
       | true=>
        rw[D,cond_true]at C;rw[Bool.and_eq_true,Bool.and_eq_true,Bool.or_eq_true]at D;have FZ:l.length+l2.length<1073741824:=by simpa [bD]using D.2
        have Z:d<N:=by have:=Nat.le_of_ble_eq_true D.1.1;omega
        have lz:rr<N \/ 60000 <= rr:=D.1.2.imp (λh=>by have:=Nat.le_of_ble_eq_true h;omega) (λh=>Nat.le_of_ble_eq_true h)
        refine⟨_,C,λaj ρ a w E u v T hv=>?_⟩
        obtain⟨q',_,_,L⟩:=Mr aj ρ a w E v hv;obtain⟨g,qn,L⟩:=TF ji L;have dN:=E.root rr _ hm;generalize O:aU.sl (.sl t' (o+2) q l)=x at dN;cases dN with
        |az=>cases O
        |mp=>cases O
        |gh=>cases O
        | sl uu y bW hr=>
         injection O with O;subst O;have FU:uu=u:=by
          have h4:=T.2;simp only[cH,bW]at h4;simp_all
         subst FU;obtain⟨v',w',ax,cV,cW,fh⟩:=E.append (ty:=ty) (E.cT rr lz) fj ht hi nu fN iE Y hf hr L FZ;exact⟨w',ax,_,v',cV,cW.set ⟨fh,by simp[cH,bR]⟩ Z⟩
      ·cases C
     ·cases C
    ·cases C
 ·cases h
def Rl.aaL{t:TC}{g p:Nat}{qn:Bool}{l ys:aa (T t)}{news:aa Value}(h:Rl w0 N aj ρ σ a w)(hm:σ.m q=some (.sl (.sl t (g+2) qn l)))(hf:full t=0)(hp:p+ys.length <= l.length)(mj:0<l.length)(gz:vC t ys news)(o8:news.length=ys.length*aA t):
  ∃ b cap,ρ q = .dw (.slice (some ⟨b,0,none⟩) l.length cap)/\l.length <= cap/\(∀ n,n<news.length -> (w.cell? ⟨b,p*aA t+n,none⟩).isSome=true/\w.frozen? ⟨b,p*aA t+n,none⟩=false) /\
   Rl w0 N aj ρ ⟨σ.t,bO σ.m q (some (.sl (.sl t (g+2) qn (splice l p ys))))⟩ a (w.setCells b (p*aA t) news):=by
 have dN:=h.root q _ hm;generalize U:aU.sl (.sl t (g+2) qn l)=x at dN;cases dN with
 |az=>cases U
 |mp=>cases U
 |gh=>cases U
 | sl v y bW gA=>
  injection U with U;subst U;cases gA with
  |dH=>exact absurd mj (Nat.lt_irrefl 0)
  |eF=>exact absurd mj (Nat.lt_irrefl 0)
  |eP=>exact absurd mj (Nat.lt_irrefl 0)
  |aC _ _ _ _ _ _ _ _ _ ho=>omega
  | own _ _ _ _ _ b cap cs u oc hh hs hn qj hc hr=>
   have vp:(p+ys.length)*aA t <= cap*aA t:=Nat.mul_le_mul_right _ (by omega);rw[Nat.add_mul]at vp;have jM:p*aA t+news.length <= cs.size:=by rw[o8,hs];exact vp
   have hW:=Me w b (p*aA t) news;obtain⟨L,fQ,n7⟩:=Fz b (tid t) news (p*aA t) w cs hh jM;have rz:∀ n,L[n]?=if n<p*aA t then cs[n]? else if n<p*aA t+news.length then news[n-p*aA t]? else cs[n]?:=by
    intro n;have e2:L[n]?=(splice cs.toList (p*aA t) news)[n]?:=by
     rw[show L[n]?=L.toList[n]? by simp,n7];rfl
    rw[e2,vo _ _ _ (by simpa using jM)];simp
   have FJ:L.size=cs.size:=by
    rw[<- Array.length_toList,n7];have:=rm cs.toList (p*aA t) news (by simpa using jM);simp only[splice]at this;simp_all
   have rC:=mY t;have hC:oW w (w.setCells b (p*aA t) news) aj ρ:=by
    intro k ad v ha E fh;by_cases cJ:ad.block=b
    ·obtain⟨D,C,s',q',rfl,Ac,amx,tH,_⟩:=Ab k ad ha;have ni:ad=⟨b,ad.off,none⟩:=by cases ad;simp_all
     rw[ni,cell_of_row w b _ cs _ _ hh]at E;rw[ni,cell_of_row _ b _ L _ _ fQ,rz];by_cases Y:ad.off<p*aA t
     ·rw[if_pos Y];exact E
     ·by_cases h2:ad.off<p*aA t+news.length
      ·exfalso;have hk:ad.off=(ad.off / aA t)*aA t+ad.off % aA t:=by rw[Nat.mul_comm];exact(Nat.div_add_mod _ _).symm
       have cU:ad.off<l.length*aA t:=by
        have:(p+ys.length)*aA t <= l.length*aA t:=Nat.mul_le_mul_right _ hp;rw[Nat.add_mul]at this;omega
       have hi:ad.off / aA t<l.length:=Nat.div_lt_of_lt_mul (by rw[Nat.mul_comm];exact cU);obtain⟨y,hy⟩:=Ai t g l[ad.off / aA t] (ad.off % aA t) (Nat.mod_lt _ rC);have h3:=hc _ hi _ y hy;rw[<- hk,E]at h3;injection h3 with h3;have:=(hr _ hi _ y hy).aat (xm t g _ hf y (List.mem_of_getElem? hy));rw[<- h3,fh]at this;cases this
      ·rw[if_neg Y,if_neg h2];exact E
    ·exact(World.cell?_of_block (hW.block _ cJ)).trans E
   have Ad:cH w aj ρ [q]=some (.slice (some ⟨b,0,none⟩) l.length cap):=by simp only[cH,bW]
   refine⟨b,cap,bW,hn,λn n8=>⟨?_,frozen_of_row w b _ cs _ hh⟩,h.wrote hW oc hC ((xq.root q _ _ hm).ok h.root hW oc (List.suffix_refl _) hC Ad ?_)⟩
   ·rw[cell_of_row w b _ cs _ _ hh];simp;omega
   ·have hlen:(splice l p ys).length=l.length:=rm l p ys hp;have key:∀ C (h:C<(splice l p ys).length) (D:Nat) x,(enc t g (splice l p ys)[C])[D]?=some x -> ∃ v,L[C*aA t+D]?=some v/\RV (w.setCells b (p*aA t) news) w0.heap.size aj (D :: C :: aA t :: [q]) x v:=by
     intro C h' D x Z;have mg:D<aA t:=by have:=(List.getElem?_eq_some_iff.1 Z).1;rwa [jg]at this
     have O:=List.getElem?_eq_getElem h';generalize (splice l p ys)[C]=e at O Z;rw[vo l p ys hp]at O;have qk:=xm t g e hf x (List.mem_of_getElem? Z);have old:l[C]?=some e -> ∃ v,cs[C*aA t+D]?=some v/\RV (w.setCells b (p*aA t) news) w0.heap.size aj (D :: C :: aA t :: [q]) x v:=λhle=>by
      obtain⟨hi,rfl⟩:=List.getElem?_eq_some_iff.1 hle;exact⟨_,hc C hi D x Z,(hr C hi D x Z).ru qk⟩
     by_cases Y:C<p
     ·rw[if_pos Y]at O;have cU:(C+1)*aA t <= p*aA t:=Nat.mul_le_mul_right _ Y;rw[Nat.succ_mul]at cU;rw[rz,if_pos (by omega)];exact old O
     ·rw[if_neg Y]at O;by_cases h2:C<p+ys.length
      ·rw[if_pos h2]at O;obtain⟨hi,rfl⟩:=List.getElem?_eq_some_iff.1 O;obtain⟨v,E,_,iM⟩:=gz (C-p) hi g D x Z;have aFX:(C-p)*aA t=C*aA t-p*aA t:=Nat.sub_mul _ _ _;have hle:p*aA t <= C*aA t:=Nat.mul_le_mul_right _ (by omega);have cU:=(List.getElem?_eq_some_iff.1 E).1;refine⟨v,?_,iM _ _ _ _⟩;rw[rz,if_neg (by omega),if_pos (by omega),<- E];congr 1;omega
      ·rw[if_neg h2]at O;have ng:(p+ys.length)*aA t <= C*aA t:=Nat.mul_le_mul_right _ (by omega);rw[Nat.add_mul]at ng;rw[rz,if_neg (by omega),if_neg (by rw[o8];omega)];exact old O
    rw[<- hlen]
    refine .own [q] t g qn (splice l p ys) b cap L (λC D=>(L[C*aA t+D]?).getD undef) oc fQ (FJ.trans hs) (by rw[hlen];exact hn) ⟨qj.1,λh=>by rw[hlen];exact qj.2 h⟩ (λC h D x jO=>?_) (λC h D x jO=>?_)
    ·obtain⟨v,E,_⟩:=key C h D x jO;rw[E];rfl
    ·obtain⟨v,E,hr⟩:=key C h D x jO;rw[E];exact hr
def aaM(b i c s:Nat):sliced (some ⟨b,0,none⟩) 0 i c s = .slice (some ⟨b,0,none⟩) i c:=by
 unfold sliced;split
 ·rfl
 ·rw[Option.map_some,Addr.add_lit];simp
def F0{X:Type}(P:Program)(N:Nat)(σ:S)(d:Nat)(t:TypeId)(x y:A)(k:S->ah X):ah X:=
 match x,y with
 | .view [q] s 0 i,.view [E] L j m=>(match tO P t with
  | some (e,C)=>bif Nat.beq E q&&Nat.beq s (aA C)&&Nat.beq L (aA C)&&Nat.beq (full C) 0&&Nat.blt d N then (match σ.m q with
   |some (.sl (.sl D (o+2) O l))=>bif Nat.beq (full D) 0&&Nat.beq (aA D) (aA C)then (if i<=j/\j<=m/\m<=l.length/\0<l.length then k ((σ.root q (.sl (.sl D (o+2) O (splice l i ((l.take m).drop j))))).set d (.view [q] s 0 (i+(m-j))))else none)else none
   |_=>none)else none
  |none=>none)
 |_,_=>none
def amQ{t ty:TypeId}{x y:A}{k:S -> ah X}(h:F0 P N σ d t x y k=some r):∃ cy,k cy=some r /\ ∀ aj ρ a w,Rl w0 N aj ρ σ a w -> ∀ u v,RA w w0.heap.size aj ρ x u -> RA w w0.heap.size aj ρ y v ->
  ∃w' ax ρ' z,(Builtin.append_ #[t,t] ty #[u,v]).run P w = .ok z w'/\Rl w0 N ax ρ' cy (a.put (some d) z) w':=by
 unfold F0 at h;split at h
 ·rename_i q s i q' s' j m;split at h
  ·rename_i e D nt;obtain⟨fj,ht,inf,hi,O,iE⟩:=xF nt;cases hc:(Nat.beq q' q&&Nat.beq s (aA D)&&Nat.beq s' (aA D)&&Nat.beq (full D) 0&&Nat.blt d N)with
   |false=>grind
   | true=>
    rw[hc,cond_true]at h;simp only[Bool.and_eq_true]at hc;obtain⟨⟨⟨⟨c1,c2⟩,c3⟩,c4⟩,c5⟩:=hc;obtain rfl:=Nat.eq_of_beq_eq_true c1;obtain rfl:=Nat.eq_of_beq_eq_true c2;obtain rfl:=Nat.eq_of_beq_eq_true c3;have hd:d<N:=by have:=Nat.le_of_ble_eq_true c5;omega
    split at h
    ·rename_i T g qn l hm;cases U:(Nat.beq (full T) 0&&Nat.beq (aA T) (aA D))with
     |false=>grind
     | true=>
      rw[U,cond_true]at h;rw[Bool.and_eq_true]at U;have hf:=Nat.eq_of_beq_eq_true U.1;have Y:=Nat.eq_of_beq_eq_true U.2;split at h
      ·rename_i hb;obtain⟨b1,b2,b3,b4⟩:=hb
       refine⟨_,h,λaj ρ a w hR u v hu hv=>?_⟩
       obtain⟨A,n,c,hva,a1,a2,rfl⟩:=hu;obtain⟨A',n',c',Z,a1',a2',rfl⟩:=hv;rw[hva]at Z;injection Z with Z;injection Z with C e2 e3;subst C e2 e3
       -- what is moved
       have dN:=hR.root q' _ hm;generalize E:aU.sl (.sl T (g+2) qn l)=x at dN;cases dN with
       |az=>cases E
       |mp=>cases E
       |gh=>cases E
       | sl Ak y bW gA=>
        injection E with E;subst E;have Ms:Ak = .slice A n c:=by
         simp only[cH,bW]at hva;simp_all
        subst Ms;have Mt:RV w 0 (λ_=>none) [] (.sl T 0 qn l) (.slice A n c):=gA.fA;have hn:n=l.length:=by cases Mt<;>rfl
        obtain⟨hp,C1,Al⟩:=Mt.part (a:=j) (h:=m) (by omega) b2 (by omega);obtain⟨A2,c2,news,fh,o7,jP,gz⟩:=hp.reads hf;have hlen:((l.take m).drop j).length=m-j:=by rw[List.length_drop,List.length_take];omega
        obtain⟨b,cap,fR,gH,hU,cW⟩:=hR.aaL hm hf (p:=i) (ys:=(l.take m).drop j) (news:=news) (by rw[hlen];omega) b4 gz (by rw[hlen];exact hlen ▸ o7.1);rw[bW]at fR;injection fR with fR;injection fR with C e2 e3;subst C e2 e3;rw[hlen]at fh;have oY:sliced (some ⟨b,0,none⟩) 0 i c (aA D) = .slice (some ⟨b,0,none⟩) i c:=aaM b i c _;obtain⟨ad,Ak⟩:∃ ad,sliced (some ⟨b,0,none⟩) j m c (aA D) = .slice (some ad) (m-j) (c-j):=by
         unfold sliced;by_cases hcj:c=j
         ·grind
         ·grind
        have TH:A2=some ad:=by
         grind
        subst TH;have o8:news.length=(m-j)*inf.size:=by rw[o7.1,hlen,O,Y]
        have cV:=run_append_room_cells (P:=P) w t ty e inf fj hi b 0 i c ad (m-j) (c-j) news o8 (λk u L=>by
         have ny:=(List.getElem?_eq_some_iff.1 L).1;have rC:0<((l.take m).drop j).length:=by
          rcases Nat.eq_zero_or_pos ((l.take m).drop j).length with h0|h0
          ·grind
          ·exact h0
         obtain⟨b',FP,C,_,tP⟩:=o7.2 rC;injection C with C;subst C;rw[Addr.add_lit];exact tP k u L) jP (by omega) (λk L=>by rw[Nat.zero_add,O,<- Y];exact(hU k L).1) (λk L=>by rw[Nat.zero_add,O,<- Y];exact(hU k L).2)
        refine⟨_,aj,ρ,_,by rw[oY,Ak];exact cV,?_⟩;rw[Nat.zero_add,O,<- Y];exact cW.set ⟨some ⟨b,0,none⟩,l.length,c,by simp only[cH,bW],Nat.zero_le _,by omega,(aaM b _ c _).symm⟩ hd
      ·cases h
    ·cases h
  ·cases h
 ·cases h
def amR{t:TypeId}{x y:A}:cv λX k=>F0 (X:=X) P N σ d t x y k:=λX Y k g=>by
 unfold F0
 repeat' first|rfl|refine cN ?_ ?_|split
def F1{X:Type}(P:Program)(σ:S)(t:TypeId)(x:A)(k:S->ah X):ah X:=
 match x with
 | .view [q] s i j=>(match tO P t with
  | some (e,C)=>(match Mm P e C with
   | some z=>(match σ.m q with
    |some (.sl (.sl D (o+2) E l))=>if h:C=D then (bif Nat.beq s (aA C)&&Nat.beq (full C) 0 then (if i<=j/\j<=l.length then k (σ.root q (.sl (.sl D (o+2) E (splice l i (List.replicate (j-i) (h ▸ z))))))else none)else none)else none
    |_=>none)
   |none=>none)
  |none=>none)
 |_=>none
def amS{t ty:TypeId}{x:A}{k:S->ah X}(h:F1 P σ t x k=some r):∃ cy,k cy=some r/\∀ aj ρ a w,Rl w0 N aj ρ σ a w->∀ u,RA w w0.heap.size aj ρ x u->
  ∃w',(Builtin.clear_ #[t] ty #[u]).run P w = .ok (.tuple #[]) w'/\Rl w0 N aj ρ cy a w':=by
 unfold F1 at h;split at h
 ·rename_i q s i j;split at h
  ·rename_i e C nt;obtain⟨fj,ht,inf,hi,fN,iE⟩:=xF nt;split at h
   ·rename_i z U;split at h
    ·rename_i t' g qn l hm;split at h
     ·rename_i lD;subst lD;cases Y:(Nat.beq s (aA C)&&Nat.beq (full C) 0)with
      |false=>rw[Y]at h;cases h
      | true=>
       rw[Y,cond_true]at h;rw[Bool.and_eq_true]at Y;obtain rfl:=Nat.eq_of_beq_eq_true Y.1;have hf:=Nat.eq_of_beq_eq_true Y.2;split at h
       ·rename_i hb
        refine⟨_,h,λaj ρ a w hR u hu=>?_⟩
        obtain⟨A,n,c,Z,a1,a2,rfl⟩:=hu;unfold Mm at U;split at U
        ·cases U
        ·rename_i D CZ;split at U
         ·cases U
         ·rename_i vs iN;have nu:inf.zero=some D:=by unfold zeroOf at CZ;simpa [hi]using CZ
          obtain⟨o6,ji⟩:=Tz _ _ iN;have E:=ko C (full C) vs z U;have kR:D.cells.size=aA C:=by rw[<-jg C (full C) z,<-E.1,o6];simp
          have hzr:∀w:World,(zeroValue e).run P w = .ok D w:=λw=>by simp[zeroValue,typeInfo,hi,nu]
          rcases Nat.eq_zero_or_pos (j-i)with h0|h0
          ·have tH:splice l i (List.replicate (j-i) z)=l:=by rw[h0];simp[splice]
           refine⟨w,?_,?_⟩
           ·unfold sliced;rw[h0];cases (if c=i then A else A.map (·.add (i*aA C)))<;>simp[Builtin.clear_,run_underlying fj]
           ·show Rl w0 N aj ρ (σ.root q (.sl (.sl C (g+2) qn (splice l i (List.replicate (j-i) z))))) a w;rw[tH];have:σ.root q (.sl (.sl C (g+2) qn l))=σ:=by
             unfold S.root;have:bO σ.m q (some (.sl (.sl C (g+2) qn l)))=σ.m:=by
              funext k;by_cases E:k=q
              ·subst E;rw[bR,hm]
              ·rw[cw _ _ _ E]
             rw[this]
            rw[this];exact hR
          ·have nA:(Builtin.zeroCells D.cells (j-i))=madeCells D.cells ((j-i)*D.cells.size):=rfl;have gz:vC C (List.replicate (j-i) z) (Builtin.zeroCells D.cells (j-i)).toList:=by
            intro i' h' o' L x O;rw[List.getElem_replicate]at O;have hj:L<aA C:=by have:=(List.getElem?_eq_some_iff.1 O).1;rwa [jg]at this
            rw[List.length_replicate]at h';have mg:=hj;rw[<-kR]at mg;have hU:(Builtin.zeroCells D.cells (j-i)).toList[i'*aA C+L]?=some D.cells[L]:=by
             rw[nA,Array.getElem?_toList,<-kR];exact aaH D.cells _ i' L mg (by
              have:(i'+1)*D.cells.size<=(j-i)*D.cells.size:=Nat.mul_le_mul_right _ (by omega);rw[Nat.succ_mul]at this;omega)
            rw[C0 C hf o' (full C)]at O;have F2:L<(enc C (full C) z).length:=(List.getElem?_eq_some_iff.1 O).1;rw[<-E.1]at F2;have hy:=List.getElem?_eq_getElem F2;generalize vs[L]=y at hy;obtain⟨v,hv,TA⟩:=ji L y hy;have T:D.cells[L]=v:=by
             have e1:D.cells.toList[L]?=some D.cells[L]:=by simp[mg]
             rw[e1]at hv;injection hv
            have iM:∀(w':World) (B':Nat) (ax:bw) (q':aa Nat),RV w' B' ax q' x v:=λw' B' ax q'=>(aaF TA _).wk (E.2 L y x hy O)
            exact⟨_,hU,by rw[T];exact(iM w 0 (λ_=>none) []).one,λw' B' ax q'=>by rw[T];exact iM _ _ _ _⟩
           have o8:(Builtin.zeroCells D.cells (j-i)).toList.length=(List.replicate (j-i) z).length*aA C:=by rw[nA,List.length_replicate,Array.length_toList,size_madeCells,kR]
           obtain⟨b,cap,bW,gH,hU,cW⟩:=hR.aaL hm hf (p:=i) (ys:=List.replicate (j-i) z) (by rw[List.length_replicate];omega) (by omega) gz o8;simp only[cH,bW]at Z;injection Z with Z;injection Z with e1 e2 e3;subst e1 e2 e3;refine⟨_,?_,cW⟩;have fh:sliced (some ⟨b,0,none⟩) i j cap (aA C) = .slice (some ⟨b,i*aA C,none⟩) (j-i) (cap-i):=by
            unfold sliced;rw[if_neg (by omega),Option.map_some,Addr.add_lit,Nat.zero_add]
           have iO:=run_storeCells_cells (P:=P) b (i*aA C) (Builtin.zeroCells D.cells (j-i)).toList 0 w (λk E=>(hU k E).1) (λk E=>(hU k E).2) (λv hv=>by
            obtain⟨k,E⟩:=List.mem_iff_getElem?.1 hv;have ny:=(List.getElem?_eq_some_iff.1 E).1;rw[o8,List.length_replicate]at ny;have rC:=mY C;obtain⟨x,O⟩:=Ai C 0 z (k % aA C) (Nat.mod_lt _ rC);have cU:k / aA C<(List.replicate (j-i) z).length:=by rw[List.length_replicate];exact Nat.div_lt_of_lt_mul (by rw[Nat.mul_comm];exact ny)
            obtain⟨v',T,jP,_⟩:=gz (k / aA C) cU 0 (k % aA C) x (by rw[List.getElem_replicate];exact O);rw[Nat.mul_comm,Nat.div_add_mod,E]at T;injection T with T;rw[T];exact jP)
           simp only[Nat.add_zero]at iO;rw[fh];obtain⟨n',n8⟩:∃n',j-i=n'+1:=⟨j-i-1,by omega⟩
           rw[n8]at iO ⊢;simp[Builtin.clear_,run_underlying fj,hzr,iO]
       ·cases h
     ·cases h
    ·cases h
   ·cases h
  ·cases h
 ·cases h
def amT{t:TypeId}{x:A}:cv λX k=>F1 (X:=X) P σ t x k:=λX Y k g=>by
 unfold F1
 repeat' first|rfl|refine cN ?_ ?_|split
end
def xJ(place:Nat->ah (Nat×Nat))(cells:aa Lf):aa (Nat×A)->ah (aa Lf)
 |[]=>some cells
 | (i,x) :: rest=>match place i,x.xx with
  |some (off,n),some xs=>if xs.length=n/\off+n<=cells.length then (bif xs.all Lf.live then xJ place (splice cells off xs) rest else none)else none
  |_,_=>none
def aaN(P:Program)(t:TypeId):ah (Nat->ah (Nat×Nat)):=
 match P.underlying t with
 |some (.array _ e)=>(P.info? e).map λC=>λi=>some (i*C.size,C.size)
 |some (.struct fields)=>(fields.toList.mapM (λf=>(P.info? f.type).map λi=>(f.offset,i.size))).map λps=>(ps.toArray[·]?)
 |_=>none
def C2{X:Type}(P:Program)(σ:S)(t:TypeId)(parts:aa (Nat×Operand))(k:A->ah X):ah X:=
 match zeroOf P t,aaN P t with
 | some z,some pl=>match xJ pl (z.cells.toList.map mm) (parts.map λp=>(p.1,aH σ p.2))with
  |some cs=>k (.agg cs)
  |none=>none
 |_,_=>none
def Lf.asV:Lf->ah V
 |.v x=>some x
 |_=>none
def tQ:aa Lf->ah (aa V)
 |[]=>some []
 | x :: xs=>match x.asV,tQ xs with
  |some y,some ys=>some (y::ys)
  |_,_=>none
def F3(t:TC)(g:Nat):Nat->aa V->ah (aa (T t))
 |0,[]=>some []
 |0,_=>none
 | n+1,C=>match dec t g (C.take (aA t)),F3 t g n (C.drop (aA t))with
  |some x,some xs=>some (x::xs)
  |_,_=>none
def xK{X:Type}(P:Program)(N:Nat)(σ:S)(d:Nat)(t:TypeId)(len:Nat)(parts:aa (Nat×Operand))(k:S->ah X):ah X:=
 match tO P t with
 | some (e,C)=>match zeroOf P e with
  | some z=>bif Nat.beq (full C) 0&&Nat.beq z.cells.size (aA C)&&Nat.blt (len*aA C) 16777217 then (match xJ (λi=>some (i*aA C,aA C)) (List.replicate len (z.cells.toList.map mm)).flatten (parts.map λp=>(p.1,aH σ p.2))with
   | some cs=>(match tQ cs with
    | some D=>(match F3 C 0 len D with
     |some l=>gj N σ d (.sl (.sl C 2 true l)) (.lf (.own [d])) k
     |none=>none)
    |none=>none)
   |none=>none)else none
  |none=>none
 |none=>none
section
variable {P:Program} {w w':World} {w0:Wd} {B N:Nat} {aj ax:bw} {ρ ρ':Nat->Loc} {σ:S} {a:Act} {X:Type} {d:Nat} {r:X}
def aaO(off:Nat):∀ (l:aa Value) (n:Nat) (cs:Array Value),off+n+l.length <= cs.size ->
  ((l.zipIdx n).foldl (λ(cs:Array Value) (p:Value×Nat)=>cs.setIfInBounds (off+p.2) p.1) cs).toList=splice cs.toList (off+n) l
 |[],n,cs,_=>by simp[splice]
 | v :: l,n,cs,h=>by
  simp at h;rw[List.zipIdx_cons,List.foldl_cons,aaO off l (n+1) _ (by simp;omega)];have C:off+n<cs.toList.length:=by simp;omega
  simp only[splice,Array.toList_setIfInBounds,List.length_cons];have D:(cs.toList.set (off+n) v).take (off+(n+1))=cs.toList.take (off+n)++[v]:=by
   rw[show off+(n+1)=off+n+1 by omega,List.take_succ_eq_append_getElem (by simpa using C),List.getElem_set_self,List.take_set_of_le (Nat.le_refl _)]
  have E:(cs.toList.set (off+n) v).drop (off+(n+1)+l.length)=cs.toList.drop (off+(n+1)+l.length):=by
   rw[List.drop_set_of_lt (by omega)]
  grind
def dM.splice{cs xs:aa Lf}{D E:Array Value}(h:dM w B aj ρ cs D)(L:dM w B aj ρ xs E){off:Nat}(O:off+xs.length <= cs.length){T:Array Value}(Y:T.toList=Proofs.YtnilicojgkhpnaaGreat.splice D.toList off E.toList):dM w B aj ρ (Proofs.YtnilicojgkhpnaaGreat.splice cs off xs) T:=by
 have Z:off+E.toList.length <= D.toList.length:=by rw[Array.length_toList,Array.length_toList,L.1,h.1];exact O
 refine⟨?_,λj x C=>?_⟩
 ·rw[rm _ _ _ O,<- Array.length_toList,Y,rm _ _ _ Z,Array.length_toList,h.1]
 ·have e:T[j]?=(Proofs.YtnilicojgkhpnaaGreat.splice D.toList off E.toList)[j]?:=by rw[<- Y,Array.getElem?_toList]
  rw[e,vo _ _ _ Z,Array.length_toList,L.1];rw[vo _ _ _ O]at C;by_cases U:j<off
  ·simp[U,Array.getElem?_toList]at C ⊢;exact h.2 j x C
  ·by_cases h2:j<off+xs.length
   ·simp[U,h2,Array.getElem?_toList]at C ⊢;exact L.2 _ x C
   ·simp[U,h2,Array.getElem?_toList]at C ⊢;exact h.2 j x C
def Mv{place:Nat -> ah (Nat×Nat)}:∀ (parts:aa (Nat×A)) (cells:aa Lf) (C:Array Value) (D:aa (Nat×Value)) (out:aa Lf),xJ place cells parts=some out -> dM w B aj ρ cells C -> D.length=parts.length ->
  (∀(j:Nat) p q,parts[j]?=some p -> D[j]?=some q -> p.1=q.1/\RA w B aj ρ p.2 q.2) -> ∃E,Instr.fill place C D=some E/\dM w B aj ρ out E
 | [],cells,C,D,out,h,L,O,T=>by
  have:D=[]:=List.eq_nil_of_length_eq_zero O;subst this;injection h with h;subst h;exact⟨C,rfl,L⟩
 | (i,x) :: rest,cells,C,D,out,h,L,O,T=>by
  cases D with
  |nil=>simp at O
  | cons v D=>
   obtain⟨i',v⟩:=v;obtain⟨e,Y⟩:=T 0 _ _ rfl rfl;simp only at e Y;subst e;unfold xJ at h;split at h
   ·rename_i off n xs qk lC;split at h
    ·rename_i U;cases Z:xs.all Lf.live with
     |false=>grind
     | true=>
      rw[Z,cond_true]at h;obtain⟨hlx,_⟩:=FQ lC Z Y;have TI:v.cells.size=n:=by rw[hlx.1];exact U.1
      have jM:¬ (off+v.cells.size > C.size):=by rw[TI,L.1];omega
      have amU:(v.cells.zipIdx.foldl (λ(cs:Array Value) (p:Value×Nat)=>cs.setIfInBounds (off+p.2) p.1) C).toList=Proofs.YtnilicojgkhpnaaGreat.splice C.toList off v.cells.toList:=by
       have:=aaO off v.cells.toList 0 C (by rw[Array.length_toList];omega);rw[<- Array.foldl_toList,Array.toList_zipIdx];exact this
      have tH:=L.splice hlx (off:=off) (by rw[U.1];exact U.2) amU;obtain⟨E,tK,cW⟩:=Mv rest _ _ D out h tH (by simpa using O) (λj p q hp' Ac=>T (j+1) p q (by simpa using hp') (by simpa using Ac));refine⟨E,?_,cW⟩;have cJ:(v.cells.size≠n || off+v.cells.size > C.size)=false:=by
       grind
      simp only[Instr.fill,qk];rw[if_neg (by rw[cJ];simp)];exact tK
    ·cases h
   ·cases h
def amV(z:Value):dM w B aj ρ (z.cells.toList.map mm) z.cells:=by
 refine⟨by simp,λj x C=>?_⟩
 rw[List.getElem?_map]at C;cases D:z.cells.toList[j]? with
 |none=>simp_all
 | some v=>
  rw[D]at C;injection C with C;subst C;exact⟨v,by simpa using D,Mo v⟩
def amW{t:TypeId}{parts:Array (Nat×Operand)}{k:A -> ah X}(h:C2 P σ t parts.toList k=some r):∃ y,k y=some r /\ ∀ aj ρ a w,Rl w0 N aj ρ σ a w ->
  ∃v,(Instr.build t (parts.map λ(i,x)=>(i,a.eval x))).run P w = .ok v w/\RA w w0.heap.size aj ρ y v:=by
 unfold C2 at h;split at h
 ·rename_i z pl E C;split at h
  ·rename_i cs fB
   refine⟨_,h,λaj ρ a w hR=>?_⟩
   obtain⟨U,Y,cW⟩:=Mv (w:=w) (B:=w0.heap.size) (aj:=aj) (ρ:=ρ) _ _ z.cells (parts.toList.map λp=>(p.1,a.eval p.2)) cs fB (amV z) (by simp) (λj p q D L=>by
    rw[List.getElem?_map]at D L;cases Z:parts.toList[j]? with
    |none=>rw[Z]at D;cases D
    | some x=>
     rw[Z]at D L;injection D with D;injection L with L;subst D L;exact⟨rfl,hR.aH x.2⟩)
   refine⟨_,run_build (P:=P) w t _ U ?_,U,rfl,cW⟩;have F4:(parts.map λ(i,x)=>(i,a.eval x)).toList=parts.toList.map λp=>(p.1,a.eval p.2):=by simp
   rw[F4];unfold zeroOf at E;unfold Program.built;cases hi:P.info? t with
   |none=>simp[hi]at E
   | some i=>
    have E:i.zero=some z:=by simpa [hi]using E
    unfold aaN at C;split at C
    ·rename_i n e O;cases T:P.info? e with
     |none=>simp[T]at C
     | some ie=>
      rw[T]at C;injection C with C;subst C;simp[O,E,T];exact Y
    ·rename_i fields O;cases D:fields.toList.mapM (λf=>(P.info? f.type).map λi=>(f.offset,i.size))with
     |none=>rw[D]at C;cases C
     | some ps=>
      rw[D]at C;injection C with C;subst C;simp only[O,E,D];exact Y
    ·cases C
  ·cases h
 ·cases h
def Mw:∀ (cs:aa Lf) (C:aa V),tQ cs=some C->cs=C.map .v
 |[],C,h=>by injection h with h;subst h;rfl
 | x :: xs,C,h=>by
  unfold tQ at h;split at h
  next y ys D E=>injection h with h;subst h;rw[Mw xs ys E,List.map_cons];cases x<;>first|(injection D with D;rw[D])|cases D
  ·cases h
def TJ(t:TC)(g:Nat):∀ (n:Nat) (C:aa V) (l:aa (T t)),F3 t g n C=some l -> l.length=n/\C.length=n*aA t /\ ∀ i (hi:i<l.length) (j:Nat) x,(enc t g l[i])[j]?=some x -> ∃ y,C[i*aA t+j]?=some y/\Wk y x
 | 0,[],l,h=>by
  injection h with h;subst h;exact⟨rfl,by simp,λi hi=>by simp at hi⟩
 |0,_::_,l,h=>by cases h
 | n+1,C,l,h=>by
  unfold F3 at h;split at h
  ·rename_i x xs L O;injection h with h;subst h;obtain⟨U,h2,h3⟩:=TJ t g n _ xs O;have D:=ko t g _ x L;have hlen:(C.take (aA t)).length=aA t:=by rw[D.1,jg]
   have ng:aA t <= C.length:=by rw[List.length_take]at hlen;omega
   refine⟨by simp[U],?_,λi hi j y E=>?_⟩
   ·grind
   ·cases i with
    | zero=>
     have Y:j<aA t:=by have:=(List.getElem?_eq_some_iff.1 E).1;rwa [jg]at this
     have Z:=List.getElem?_eq_getElem (by rw[hlen];exact Y);refine⟨_,?_,D.2 j _ y Z E⟩;simp_all
    |succ i =>grind
  ·cases h
def RV.under{k:aa Nat}{x:V}{v:Value}{n:Nat}(h:RV w B aj k x v)(O:1<k.length\/x.aC=true)(T:w.heap.size<=w'.heap.size)(D:∀ b,b<w.heap.size->aj b≠some [n]->w'.heap[b]?=w.heap[b]?)(E:∀ b,b<w.heap.size->ax b=aj b):RV w' B ax k x v:=
 h.map (Q:=λk L=>k=L/\1<k.length) T (λb C h=>⟨D b C (by rw[h];simp),(E b C).trans h⟩) (λb k L C h e=>by
  obtain⟨rfl,e⟩:=e;exact⟨D b C (by rw[h];rintro⟨⟩;simp at e),(E b C).trans h,λ_ _ _=>⟨rfl,by simp⟩⟩) (O.symm.imp_right λh=>⟨rfl,h⟩)
def rD(w:World)(B:Nat)(aj:bw)(n C:Nat)(t:TC)(o:Nat)(l:aa (T t))(D:aa Value):Prop:=
 ∀i (hi:i<l.length) j x,(enc t o l[i])[j]?=some x->∃v,D[i*aA t+j]?=some v/\RV w B aj (j::(C+i)::aA t::[n]) x v
def RV.amX{n:Nat}{t:TC}{o:Nat}{C:Bool}{l:aa (T t)}{u:Value}(h:RV w B aj [n] (.sl t (o+2) C l) u){B':Nat}(hB:∀ b,aj b=some [n] -> B' <= b):
  ∃xs,w.ownsRow B' (tid t) (aA t) u l.length xs/\(∀b,u.ownBlock=some b -> aj b=some [n])/\(C=true -> u.ownBlock≠none)/\rD w B aj n 0 t o l xs:=by
 cases h with
 |eF=>omega
 |eP=>omega
 |dH=>exact⟨[],⟨by simp,.inl ⟨rfl,rfl⟩⟩,by simp[Value.ownBlock],by simp,λi hi=>by simp at hi⟩
 |aC _ _ _ _ _ _ _ _ _ ho=>omega
 | own _ _ _ _ _ b cap cs us D E L O U hc hr=>
  refine⟨cs.toList.take _,⟨?_,.inr ⟨b,cap,cs,rfl,hB b D,E,O,U.1,L,rfl⟩⟩,λY Z=>?_,λ_=>by simp[Value.ownBlock],λi hi j x hx=>?_⟩
  ·simp_all
  ·have:b=Y:=by simpa [Value.ownBlock]using Z
   simp_all
  ·have hj:j<aA t:=by have:=(List.getElem?_eq_some_iff.1 hx).1;rwa [jg]at this
   have cU:i*aA t+j<l.length*aA t:=by
    have:(i+1)*aA t <= l.length*aA t:=Nat.mul_le_mul_right _ hi;rw[Nat.succ_mul]at this;omega
   grind
def rD.append{n:Nat}{t:TC}{o:Nat}{l l2:aa (T t)}{xs ys:aa Value}(h:rD w B aj n 0 t o l xs)(E:rD w B aj n l.length t o l2 ys)(U:xs.length=l.length*aA t):rD w B aj n 0 t o (l++l2) (xs++ys):=by
 intro i hi j x C;by_cases D:i<l.length
 ·rw[List.getElem_append_left D]at C;obtain⟨v,L,r⟩:=h i D j x C
  grind
 ·rw[List.getElem_append_right (by omega)]at C;have O:i-l.length<l2.length:=by rw[List.length_append]at hi;omega
  obtain⟨v,L,r⟩:=E _ O j x C;refine⟨v,?_,?_⟩
  ·have e:i*aA t+j=xs.length+((i-l.length)*aA t+j):=by
    rw[ Nat.sub_mul];have:l.length*aA t <= i*aA t:=Nat.mul_le_mul_right _ (by omega);omega
   grind
  ·grind
def rD.under{n C:Nat}{t:TC}{o:Nat}{l:aa (T t)}{D:aa Value}(h:rD w B aj n C t o l D)(E:w.heap.size<=w'.heap.size)(L:∀ b,b<w.heap.size->aj b≠some [n]->w'.heap[b]?=w.heap[b]?)(O:∀ b,b<w.heap.size->ax b=aj b):rD w' B ax n C t o l D:=
 λi hi j x U=>let ⟨v,Y,r⟩:=h i hi j x U;⟨v,Y,r.under (.inl (by simp)) E L O⟩
def aaP{n:Nat}{t:TC}{o:Nat}{l:aa (T t)}{u:Value}{xs:aa Value}{B':Nat}(h:w.ownsRow B' (tid t) (aA t) u l.length xs)(D:rD w B aj n 0 t o l xs)(E:∀ b,u.ownBlock=some b -> aj b=some [n]):
  RV w B aj [n] (.sl t (o+2) false l) u:=by
 rcases h.2 with ⟨rfl,L⟩|⟨b,cap,cs,rfl,hB,O,U,Y,Z,ht⟩
 ·have:=List.eq_nil_of_length_eq_zero L;subst this;exact .dH _ _ _
 ·have oa:∀ i _ j x,(enc t o l[i])[j]?=some x -> ∃ v,cs[i*aA t+j]?=some v/\RV w B aj (j :: i :: aA t :: [n]) x v:=by
   intro i hi j x C;obtain⟨v,hv,r⟩:=D i hi j x C
   grind
  refine .own [n] t o false l b cap cs (λi j=>(cs[i*aA t+j]?).getD undef) (E b rfl) O Z U ⟨Y,λh=>by cases h⟩ (λi hi j x C=>?_) (λi hi j x C=>?_)
  ·grind
  ·grind
def Rl.amY{t e ty:TypeId}{D:TC}{i:TypeInfo}{z:Value}{rr o m c:Nat}{q:Bool}{l l2:aa (T D)}{u:Value}{ad:ah Addr}{news:aa Value}(h:Rl w0 N aj ρ σ a w)(hF:w0.F rr=none)(fj:P.underlying t=some (.slice e))(ht:tid D=e)(hi:P.info? e=some i)(hz:i.zero=some z)
  (fN:i.size=aA D) (iE:i.bytes <= 65536) (kR:z.cells.size=aA D) (hd:RV w w0.heap.size aj [rr] (.sl D (o+2) q l) u) (o7:Reads w w.heap.size (aA D) ad m news) (jP:∀v∈news,v.oneCell'=true) (hm:m=l2.length)
  (FX:rD w w0.heap.size aj rr l.length D o l2 news) (hlen:l.length+l2.length<1073741824):
  ∃E w' ax,(Builtin.append_ #[t,t] ty #[u,.slice ad m c]).run P w = .ok E w'/\Rl w0 N ax (bO ρ rr (.dw E)) ((σ.drop rr).root rr (.sl (.sl D (o+2) false (l++l2)))) a w'/\kZ E=true:=by
 subst ht hm;obtain⟨xs,xH,Mx,FW,gz⟩:=hd.amX (B':=0) (λb _=>Nat.zero_le b);have fQ:(l.length+l2.length)*i.bytes <= 140737488355328:=by
  have h1:(l.length+l2.length)*i.bytes <= 1073741824*65536:=Nat.mul_le_mul (by omega) iE;omega
 obtain⟨E,w',cV,U,O,ku⟩:=SY (P:=P) w 0 t ty (tid D) i z (aA D) i.bytes fj hi hz fN rfl kR (mY D) u l.length xs xH _ ad l2.length c news o7 jP (by unfold maxLen;omega) fQ (Nat.zero_le _);have FY:(l++l2).length=l.length+l2.length:=List.length_append;rw[<- FY]at U;have Aj:=gz.append FX xH.1;have fh:kZ E=true:=by rcases U.2 with ⟨rfl,_⟩|⟨_,_,_,rfl,_⟩<;>rfl
 have Y:Below 0 w w':=(Below.refl 0 w).grown O (Nat.zero_le _) (λ_ _=>Nat.zero_le _);have jj:gT w0 w w':=⟨Y.os,Y.tape,Y.output,Y.size,λk L hL=>O.block k (Nat.lt_of_lt_of_le L h.below.size) (λe'=>by
  rcases(h.cL k _ (Mx k e'.symm)).1 with h1|h1
  ·exact absurd L (Nat.not_lt.2 h1)
  ·exact h1 hL)⟩
 have Z:∀b,b<w.heap.size -> aj b≠some [rr] -> w'.heap[b]?=w.heap[b]?:=λb C cJ=>O.block b C (λe'=>cJ (Mx b e'.symm))
 by_cases rB:E.ownBlock=some w.heap.size
 ·have cU:w.heap.size<w'.heap.size:=by
   rcases U.2 with ⟨rfl,_⟩|⟨b,cap,cs,rfl,_,hh,_⟩
   ·cases rB
   ·have:b=w.heap.size:=by simpa [Value.ownBlock]using rB
    grind
  have vE:∀b,b<w.heap.size -> bO aj w.heap.size (some [rr]) b=aj b:=λb C=>cw _ _ _ (by omega)
  refine⟨E,w',bO aj w.heap.size (some [rr]),cV,h.xD hF jj ⟨O.size,Z,vE,λb C=>(h.cL b [] C).2.2 rfl⟩ (λb k C L=>?_) (λr hr=>cw _ _ _ hr) (.sl E _ (bR _ _ _) (aaP U (Aj.under O.size Z vE) (λb C=>?_))),fh⟩
  ·by_cases e:b=w.heap.size
   ·subst e;rw[bR]at L
    grind
   ·rw[cw _ _ _ e]at L;have:=(h.cL b k L).2.1;omega
  ·rw[rB]at C;injection C with C;subst C;exact bR _ _ _
 ·have TE:E.ownBlock=u.ownBlock:=by
   rcases ku with ku|ku
   ·exact ku
   ·exact absurd ku rB
  refine⟨E,w',aj,cV,h.xD hF jj ⟨O.size,Z,λ_ _=>rfl,λb C=>(h.cL b [] C).2.2 rfl⟩ (λb k C L=>?_) (λr hr=>cw _ _ _ hr) (.sl E _ (bR _ _ _) (aaP U (Aj.under O.size Z (λ_ _=>rfl)) (λb C=>Mx b (by rw[<- TE];exact C)))),fh⟩
  have:=(h.cL b k L).2.1;omega
end
end Go.Proofs.YtnilicojgkhpnaaGreat
