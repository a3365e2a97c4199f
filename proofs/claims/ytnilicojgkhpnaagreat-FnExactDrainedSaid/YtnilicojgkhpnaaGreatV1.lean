/-
  Running the program over pure contents, and that it follows (part 1). Nothing here is a claim.
-/
import Derived.Test.YtnilicojgkhpnaaGreatAppend
import Derived.Test.YtnilicojgkhpnaaGreatLaws
import Derived.Handy
import Derived.Great.BuildSlice
import Derived.ArgAppend
set_option linter.unusedSimpArgs false
namespace Go.Proofs.YtnilicojgkhpnaaGreat
open Go.RowKit
set_option linter.defProp false
abbrev aa:=List
abbrev ah:=Option
abbrev af:=Unit
def au:=@cond_true
def eB:=@Bool.or_eq_true
def aN:=@Bool.and_eq_true
def cD:=@Nat.eq_of_beq_eq_true
def cQ:=@Nat.le_of_ble_eq_true
def gN:=@List.mem_of_getElem?
def eF:=@List.getElem?_map
def iH:=@Array.getElem?_eq_some_iff
def dM:=@Nat.le_refl
def fk:=@Nat.zero_add
def aq:=@cond_false
def cw:=@List.all_eq_true
def aY:=@congrArg
theorem bL.{u}{c:Prop}{h:Decidable c}(k:c:=by omega){α:Sort u}{t e:α}:ite c t e=t:=if_pos k
def eG:=@List.length_map
def ir:=@Array.getD_eq_getD_getElem?
def kY:=@Array.length_toList
theorem bX.{u}{c:Prop}{h:Decidable c}(k:¬c:=by omega){α:Sort u}{t e:α}:ite c t e=e:=if_neg k
def gz:=@List.length_set
def dQ:=@List.getElem?_eq_some_iff
def bZ:=@List.getElem?_eq_getElem
def jD:=@Nat.mul_le_mul_right
def fV:=@Sem.run_bind
def lS:=@Result.andThen_ok
def gO:=@run_underlying
def cV:=@List.getElem_mem
def js:=@Nat.ble_eq_true_of_le
def iu:=@Option.some.injEq
def fJ:=@List.length_take
def mH:=@List.getElem_set_self
def eY:=@List.getD_eq_getElem?_getD
def hU:=@Bool.not_eq_true'
def gW:=@List.mem_cons
def cu:=@Bool.true_and
theorem az.{u}{c:Prop}{h:Decidable c}(k:c:=by omega){α:Sort u}{t:c->α}{e:¬c->α}:dite c t e=t k:=dif_pos k
def gk:=@List.mem_range
def iU:=@List.getElem_range
theorem aW{p:Prop}[Decidable p](k:p:=by omega):decide p=true:=decide_eq_true k
def iV:=@decide_eq_true_eq
def bB:=@Bool.not_true
def bC:=@Int.toNat_natCast
theorem aV{p:Prop}[Decidable p](k:¬p:=by omega):decide p=false:=decide_eq_false k
def eH:=@Sum.elim_inl
def cv:=@Int.natCast_zero
def iw:=@Int.eq_ofNat_of_zero_le
def dV:=@bne_self_eq_false
def iW:=@List.take_length
def dR:=@beq_self_eq_true
def jh:=@List.mem_iff_getElem
def pG:=@List.findIdx?_eq_some_iff_getElem
def cO:=@List.length_range
def iX:=@Bool.not_false
def rH:=@Int.tdiv_eq_ediv_of_nonneg
def rI:=@Int.tmod_eq_emod_of_nonneg
def qw:=@decide_eq_false_iff_not
def gA:=@beq_iff_eq
def lT:=@List.length_singleton
set_option linter.unusedVariables false
set_option linter.unusedSimpArgs false
structure aU where
 cF:Int
 aB:Int
 rows:Int
 aT:Int
structure aI where
 ay:Int
 row:Int
 bR:Int
structure jE where
 order:Int
 hash:Bool
structure aG where
 kind:Int
 ay:Int
 row:Int
 bR:Int
structure c9 where
 jF:Int
 rp:Int
 gH:Int
 mI:Int
 jG:Int
 jH:Int
 mJ:Int
 mK:Int
 ji:Int
 wr:Int
 mL:Int
 mM:Int
 pH:Int
 mN:Int
 nJ:Int
 xp:Int
 xs:Int
structure cR where
 open_:Bool
 row:Int
structure cy where
 aB:List cR
 aZ:Int
structure cP where
 at_:Int
 cmd:aG
structure dn where
 last:List Int
 bx:List Int
structure bK where
 symbols:List Int
 iy:Bool
structure cZ where
 cells:List bK
 bz:List Int
 bu:List Int
structure iY where
 bz:Int
 bu:Int
structure bQ where
 rows:List Int
 counts:List Int
 cY:Int
structure eZ where
 cr:Int
 map:List Int
structure de where
 aH:List Int
 wait:Int
 dS:Bool
structure bA where
 id:Int
 dN:Int
 line:Int
 write:Bool
 data:Int
 at_:Int
structure bV where
 weight:Int
 eP:Int
structure gB where
 on:Bool
 low:Int
 high:Int
structure eC where
 state:Int
 since:Int
 idle:Int
structure kL where
 down:Int
 sleep:Int
structure bU where
 line:Int
 code:Int
 times:Int
structure kZ where
 next:Int
 every:Int
 wait:Int
structure fz where
 eN:Int
 cap:Int
 fD:Int
 low:Int
 high:Int
 weights:List Int
 eI:kL
structure gI where
 bI:fz
 next:fz
 waits:Bool
structure ia where
 aE:aU
 ck:c9
 mapping:jE
 cr:Int
 interval:Int
 iz:Int
 dO:iY
structure cX where
 id:Int
 at_:Int
 data:Int
 code:Int
structure ax where
 config:ia
 box:gI
 now:Int
 bq:cy
 ready:dn
 array:cZ
 spare:eZ
 aP:de
 bH:List bQ
 guard:List Int
 pending:List aI
 queue:List bA
 shares:List bV
 drain:gB
 aZ:eC
 cK:kZ
 errors:List bU
 trace:List cP
 cT:List cX
structure anc where
 kind:Int
 request:bA
 n:Int
 ane:Int
 addr:aI
 yJ:fz
inductive TC where
 |int|u8|bool|str
 |fe
 |Addr
 |nK
 |Command
 |jI
 |fQ
 |iI
 |Event
 |ki
 |Cell
 |Array
 |mO
 |eR
 |kj
 |kM
 |dw
 |ef
 |kN
 |Power
 |nL
 |eo
 |nM
 |lU
 |jJ
 |Config
 |gd
 |cN
 |Act
 |sl (t:TC)
 |ld
 |A6 (g:Nat)
 |GD (g:Nat)
 |A7 (g:Nat)
 |fnCommand (g:Nat)
deriving DecidableEq
def T:TC->Type
 |.int=>Int
 |.u8=>Int
 |.bool=>Bool
 |.str=>ByteArray
 |.fe=>aU
 |.Addr=>aI
 |.nK=>jE
 |.Command=>aG
 |.jI=>c9
 |.fQ=>cR
 |.iI=>cy
 |.Event=>cP
 |.ki=>dn
 |.Cell=>bK
 |.Array=>cZ
 |.mO=>iY
 |.eR=>bQ
 |.kj=>eZ
 |.kM=>de
 |.dw=>bA
 |.ef=>bV
 |.kN=>gB
 |.Power=>eC
 |.nL=>kL
 |.eo=>bU
 |.nM=>kZ
 |.lU=>fz
 |.jJ=>gI
 |.Config=>ia
 |.gd=>cX
 |.cN=>ax
 |.Act=>anc
 |.sl t=>aa (T t)
 |.ld=>ax
 |.A6 _=>Int
 |.GD _=>bA
 |.A7 _=>aI
 |.fnCommand _=>aG
def aD:TC->Nat
 |.ld=>76
 |.A6 _=>3
 |.GD _=>8
 |.A7 _=>5
 |.fnCommand _=>6
 |.fe=>4
 |.Addr=>3
 |.nK=>2
 |.Command=>4
 |.jI=>17
 |.fQ=>2
 |.iI=>2
 |.Event=>5
 |.ki=>2
 |.Cell=>2
 |.Array=>3
 |.mO=>2
 |.eR=>3
 |.kj=>2
 |.kM=>3
 |.dw=>6
 |.ef=>2
 |.kN=>3
 |.Power=>3
 |.nL=>2
 |.eo=>3
 |.nM=>3
 |.lU=>8
 |.jJ=>17
 |.Config=>28
 |.gd=>4
 |.cN=>75
 |.Act=>20
 |_=>1
def full:TC->Nat
 |.int|.u8|.bool|.str=>0
 |.fe=>0
 |.Addr=>0
 |.nK=>0
 |.Command=>0
 |.jI=>0
 |.fQ=>0
 |.iI=>2
 |.Event=>0
 |.ki=>2
 |.Cell=>2
 |.Array=>4
 |.mO=>0
 |.eR=>2
 |.kj=>2
 |.kM=>2
 |.dw=>0
 |.ef=>0
 |.kN=>0
 |.Power=>0
 |.nL=>0
 |.eo=>0
 |.nM=>0
 |.lU=>2
 |.jJ=>2
 |.Config=>0
 |.gd=>0
 |.cN=>4
 |.Act=>2
 |.sl t=>full t+2
 |.ld=>4
 |.A6 _=>0
 |.GD _=>0
 |.A7 _=>0
 |.fnCommand _=>0
def tid:TC->TypeId
 |.int=>3
 |.u8=>5
 |.bool=>4
 |.str=>9
 |.fe=>67
 |.Addr=>130
 |.nK=>69
 |.Command=>188
 |.jI=>68
 |.fQ=>356
 |.iI=>80
 |.Event=>287
 |.ki=>81
 |.Cell=>306
 |.Array=>84
 |.mO=>70
 |.eR=>255
 |.kj=>85
 |.kM=>86
 |.dw=>129
 |.ef=>279
 |.kN=>91
 |.Power=>92
 |.nL=>73
 |.eo=>283
 |.nM=>93
 |.lU=>75
 |.jJ=>77
 |.Config=>72
 |.gd=>293
 |.cN=>98
 |.Act=>132
 |.sl .int=>32
 |.sl .bool=>422
 |.sl .str=>0
 |_=>0
inductive V where
 |int (k:IntKind) (n:Int)
 |bool (b:Bool)
 |str (s:ByteArray)
 |nil
 |sl (t:TC) (o:Nat) (q:Bool) (l:List (T t))
def V.bh:V->ah Int|.int .i64 n=>some n|_=>none
def V.T6:V->ah Int|.int .u8 n=>some n|_=>none
def V.nN:V->ah Bool|.bool b=>some b|_=>none
def V.T7:V->ah ByteArray|.str s=>some s|_=>none
def V.ff(t:TC)(o:Nat):V->ah (aa (T t))
 |.sl D C _ l=>bif Nat.beq C o ||(Nat.ble (full t+2) C&&Nat.ble (full t+2) o)then (if h:D=t then some (h ▸ l)else none)else none
 |.nil=>some []
 |_=>none
inductive Wk:V->V->Prop
 |same (x:V):Wk x x
 |nil (t:TC) (o:Nat):Wk .nil (.sl t o false [])
 |q (t:TC) (o:Nat) (l:List (T t)):Wk (.sl t o true l) (.sl t o false l)
 |gr (t:TC) (o o':Nat) (qn:Bool) (l:List (T t)) (h:full t+2<=o) (h':full t+2<=o'):Wk (.sl t o' qn l) (.sl t o false l)
def kO(xs ys:aa V):Prop:=xs.length=ys.length/\∀(j:Nat) (x y:V),xs[j]?=some x->ys[j]?=some y->Wk x y
def kO.nil:kO [] []:=⟨rfl,by simp⟩
def kO.cons{x y:V}{xs ys:aa V}(h:Wk x y)(k:kO xs ys):kO (x :: xs) (y :: ys):=by
 refine⟨by simp[k.1],λj a b C D=>?_⟩
 cases j with
 |zero=>simp_all
 |succ j=>simp at C D;exact k.2 j a b C D
def V.anf{x:V}{n:Int}(h:x.bh=some n):Wk x (.int .i64 n):=by
 unfold V.bh at h;split at h<;>first|(injection h with h;subst h;exact .same _)|cases h
def V.ang{x:V}{n:Int}(h:x.T6=some n):Wk x (.int .u8 n):=by
 unfold V.T6 at h;split at h<;>first|(injection h with h;subst h;exact .same _)|cases h
def V.anh{x:V}{n:Bool}(h:x.nN=some n):Wk x (.bool n):=by
 unfold V.nN at h;split at h<;>first|(injection h with h;subst h;exact .same _)|cases h
def V.ani{x:V}{n:ByteArray}(h:x.T7=some n):Wk x (.str n):=by
 unfold V.T7 at h;split at h<;>first|(injection h with h;subst h;exact .same _)|cases h
def V.GF{x:V}{t:TC}{o:Nat}{l:aa (T t)}(h:x.ff t o=some l):Wk x (.sl t o false l):=by
 unfold V.ff at h;split at h
 ·rename_i E C q L;cases hc:(Nat.beq C o || (Nat.ble (full t+2) C&&Nat.ble (full t+2) o))with
  |false=>simp_all
  | true=>
   rw[hc,au]at h;split at h
   ·rename_i D;subst D;injection h with h;subst h;rw[eB,aN]at hc;rcases hc with hc | hc
    ·obtain rfl:=cD hc;cases q
     ·exact .same _
     ·exact .q _ _ _
    ·exact .gr _ _ _ _ _ (cQ hc.2) (cQ hc.1)
   ·cases h
 ·injection h with h;subst h;exact .nil _ _
 ·cases h
def DI(x:aI)(o:Nat):aa V:=[.int .i64 x.ay,.int .i64 x.row,.int .i64 x.bR]
def DJ(x:aG)(o:Nat):aa V:=[.int .i64 x.kind,.int .i64 x.ay,.int .i64 x.row,.int .i64 x.bR]
def DK(x:bA)(o:Nat):aa V:=[.int .i64 x.id,.int .i64 x.dN,.int .i64 x.line,.bool x.write,.int .i64 x.data,.int .i64 x.at_]
def DL(x:ax)(o:Nat):aa V:=[.int .i64 x.config.aE.cF,.int .i64 x.config.aE.aB,.int .i64 x.config.aE.rows,.int .i64 x.config.aE.aT,.int .i64 x.config.ck.jF,.int .i64 x.config.ck.rp,.int .i64 x.config.ck.gH,.int .i64 x.config.ck.mI,.int .i64 x.config.ck.jG,.int .i64 x.config.ck.jH,.int .i64 x.config.ck.mJ,.int .i64 x.config.ck.mK,.int .i64 x.config.ck.ji,.int .i64 x.config.ck.wr,.int .i64 x.config.ck.mL,.int .i64 x.config.ck.mM,.int .i64 x.config.ck.pH,.int .i64 x.config.ck.mN,.int .i64 x.config.ck.nJ,.int .i64 x.config.ck.xp,.int .i64 x.config.ck.xs,.int .i64 x.config.mapping.order,.bool x.config.mapping.hash,.int .i64 x.config.cr,.int .i64 x.config.interval,.int .i64 x.config.iz,.int .i64 x.config.dO.bz,.int .i64 x.config.dO.bu,.int .i64 x.box.bI.eN,.int .i64 x.box.bI.cap,.int .i64 x.box.bI.fD,.int .i64 x.box.bI.low,.int .i64 x.box.bI.high,.sl .int o false x.box.bI.weights,.int .i64 x.box.bI.eI.down,.int .i64 x.box.bI.eI.sleep,.int .i64 x.box.next.eN,.int .i64 x.box.next.cap,.int .i64 x.box.next.fD,.int .i64 x.box.next.low,.int .i64 x.box.next.high,.sl .int o false x.box.next.weights,.int .i64 x.box.next.eI.down,.int .i64 x.box.next.eI.sleep,.bool x.box.waits,.int .i64 x.now,.sl .fQ o false x.bq.aB,.int .i64 x.bq.aZ,.sl .int o false x.ready.last,.sl .int o false x.ready.bx,.sl .Cell o false x.array.cells,.sl .int o false x.array.bz,.sl .int o false x.array.bu,.int .i64 x.spare.cr,.sl .int o false x.spare.map,.sl .int o false x.aP.aH,.int .i64 x.aP.wait,.bool x.aP.dS,.sl .eR o false x.bH,.sl .int o false x.guard,.sl .Addr o false x.pending,.sl .dw o false x.queue,.sl .ef o false x.shares,.bool x.drain.on,.int .i64 x.drain.low,.int .i64 x.drain.high,.int .i64 x.aZ.state,.int .i64 x.aZ.since,.int .i64 x.aZ.idle,.int .i64 x.cK.next,.int .i64 x.cK.every,.int .i64 x.cK.wait,.sl .eo o false x.errors,.sl .Event o false x.trace,.sl .gd o false x.cT]
def enc:(t:TC)->(o:Nat)->T t->aa V
 |.int,_,x=>[.int .i64 x]
 |.u8,_,x=>[.int .u8 x]
 |.bool,_,x=>[.bool x]
 |.str,_,x=>[.str x]
 |.fe,o,x=>[.int .i64 x.cF,.int .i64 x.aB,.int .i64 x.rows,.int .i64 x.aT]
 |.Addr,o,x=>DI x o
 |.nK,o,x=>[.int .i64 x.order,.bool x.hash]
 |.Command,o,x=>DJ x o
 |.jI,o,x=>[.int .i64 x.jF,.int .i64 x.rp,.int .i64 x.gH,.int .i64 x.mI,.int .i64 x.jG,.int .i64 x.jH,.int .i64 x.mJ,.int .i64 x.mK,.int .i64 x.ji,.int .i64 x.wr,.int .i64 x.mL,.int .i64 x.mM,.int .i64 x.pH,.int .i64 x.mN,.int .i64 x.nJ,.int .i64 x.xp,.int .i64 x.xs]
 |.fQ,o,x=>[.bool x.open_,.int .i64 x.row]
 |.iI,o,x=>[.sl .fQ o false x.aB,.int .i64 x.aZ]
 |.Event,o,x=>[.int .i64 x.at_,.int .i64 x.cmd.kind,.int .i64 x.cmd.ay,.int .i64 x.cmd.row,.int .i64 x.cmd.bR]
 |.ki,o,x=>[.sl .int o false x.last,.sl .int o false x.bx]
 |.Cell,o,x=>[.sl .int o false x.symbols,.bool x.iy]
 |.Array,o,x=>[.sl .Cell o false x.cells,.sl .int o false x.bz,.sl .int o false x.bu]
 |.mO,o,x=>[.int .i64 x.bz,.int .i64 x.bu]
 |.eR,o,x=>[.sl .int o false x.rows,.sl .int o false x.counts,.int .i64 x.cY]
 |.kj,o,x=>[.int .i64 x.cr,.sl .int o false x.map]
 |.kM,o,x=>[.sl .int o false x.aH,.int .i64 x.wait,.bool x.dS]
 |.dw,o,x=>DK x o
 |.ef,o,x=>[.int .i64 x.weight,.int .i64 x.eP]
 |.kN,o,x=>[.bool x.on,.int .i64 x.low,.int .i64 x.high]
 |.Power,o,x=>[.int .i64 x.state,.int .i64 x.since,.int .i64 x.idle]
 |.nL,o,x=>[.int .i64 x.down,.int .i64 x.sleep]
 |.eo,o,x=>[.int .i64 x.line,.int .i64 x.code,.int .i64 x.times]
 |.nM,o,x=>[.int .i64 x.next,.int .i64 x.every,.int .i64 x.wait]
 |.lU,o,x=>[.int .i64 x.eN,.int .i64 x.cap,.int .i64 x.fD,.int .i64 x.low,.int .i64 x.high,.sl .int o false x.weights,.int .i64 x.eI.down,.int .i64 x.eI.sleep]
 |.jJ,o,x=>[.int .i64 x.bI.eN,.int .i64 x.bI.cap,.int .i64 x.bI.fD,.int .i64 x.bI.low,.int .i64 x.bI.high,.sl .int o false x.bI.weights,.int .i64 x.bI.eI.down,.int .i64 x.bI.eI.sleep,.int .i64 x.next.eN,.int .i64 x.next.cap,.int .i64 x.next.fD,.int .i64 x.next.low,.int .i64 x.next.high,.sl .int o false x.next.weights,.int .i64 x.next.eI.down,.int .i64 x.next.eI.sleep,.bool x.waits]
 |.Config,o,x=>[.int .i64 x.aE.cF,.int .i64 x.aE.aB,.int .i64 x.aE.rows,.int .i64 x.aE.aT,.int .i64 x.ck.jF,.int .i64 x.ck.rp,.int .i64 x.ck.gH,.int .i64 x.ck.mI,.int .i64 x.ck.jG,.int .i64 x.ck.jH,.int .i64 x.ck.mJ,.int .i64 x.ck.mK,.int .i64 x.ck.ji,.int .i64 x.ck.wr,.int .i64 x.ck.mL,.int .i64 x.ck.mM,.int .i64 x.ck.pH,.int .i64 x.ck.mN,.int .i64 x.ck.nJ,.int .i64 x.ck.xp,.int .i64 x.ck.xs,.int .i64 x.mapping.order,.bool x.mapping.hash,.int .i64 x.cr,.int .i64 x.interval,.int .i64 x.iz,.int .i64 x.dO.bz,.int .i64 x.dO.bu]
 |.gd,o,x=>[.int .i64 x.id,.int .i64 x.at_,.int .i64 x.data,.int .i64 x.code]
 |.cN,o,x=>DL x o
 |.Act,o,x=>[.int .i64 x.kind,.int .i64 x.request.id,.int .i64 x.request.dN,.int .i64 x.request.line,.bool x.request.write,.int .i64 x.request.data,.int .i64 x.request.at_,.int .i64 x.n,.int .i64 x.ane,.int .i64 x.addr.ay,.int .i64 x.addr.row,.int .i64 x.addr.bR,.int .i64 x.yJ.eN,.int .i64 x.yJ.cap,.int .i64 x.yJ.fD,.int .i64 x.yJ.low,.int .i64 x.yJ.high,.sl .int o false x.yJ.weights,.int .i64 x.yJ.eI.down,.int .i64 x.yJ.eI.sleep]
 |.sl t,o,x=>[.sl t o false x]
 |.ld,o,x=>.bool true::DL x o
 |.A6 g,o,x=>.bool false::.int .i64 (g:Int)::[.int .i64 x]
 |.GD g,o,x=>.bool false::.int .i64 (g:Int)::DK x o
 |.A7 g,o,x=>.bool false::.int .i64 (g:Int)::DI x o
 |.fnCommand g,o,x=>.bool false::.int .i64 (g:Int)::DJ x o
def dF{α β:Type}(g:V->ah β)(f:β->aa V->ah α):aa V->ah α
 |x::cs=>(g x).bind λy=>f y cs
 |[]=>none
def dE{α:Type}(x:α):aa V->ah α
 |[]=>some x
 |_=>none
def V.dW(b:Bool):V->ah Bool|.bool c=>bif c==b then some c else none|_=>none
def V.DM(n:Int):V->ah Int|.int .i64 m=>if m=n then some m else none|_=>none
def DQ{α:Type}(e:α->aa V)(p:aa V->aa V)(d:aa V->ah α):Prop:=∀cs x,d cs=some x->∃L,e x=p L/\kO cs L
def anj{α:Type}{e:α->aa V}{p:aa V->aa V}{x:α}(h:e x=p []):DQ e p (dE x):=λcs y C=>by
 cases cs with
 |nil=>injection C with C;subst C;exact⟨[],h,.nil⟩
 |cons=>cases C
def bind_some{α β:Type}{a:ah α}{f:α -> ah β}{b:β}(h:a.bind f=some b):∃ x,a=some x/\f x=some b:=by
 cases a with
 |none=>cases h
 |some x=>simp_all
def A8{α β:Type}{e:α->aa V}{p:aa V->aa V}{g:V->ah β}{k:β->V}(D:∀ {x y},g x=some y->Wk x (k y)){f:β->aa V->ah α}(E:∀ y,DQ e (λL=>p (k y :: L)) (f y)):DQ e p (dF g f):=λcs x C=>by
 cases cs with
 |nil=>cases C
 | cons c cs=>
  obtain⟨y,O,T⟩:=bind_some C;obtain⟨L,U,Y⟩:=E y cs x T;exact⟨k y::L,U,.cons (D O) Y⟩
def V.ank{b:Bool}{x:V}{c:Bool}(h:x.dW b=some c):Wk x (.bool b):=by
 unfold V.dW at h;split at h
 next C=>cases C<;>cases b<;>first|exact .same _|cases h
 ·cases h
def V.anl{n:Int}{x:V}{c:Int}(h:x.DM n=some c):Wk x (.int .i64 n):=by
 unfold V.DM at h;split at h
 ·split at h
  next C=>subst C;exact .same _
  ·cases h
 ·cases h
abbrev abc (o:Nat):aa V->ah aI:=dF V.bh λC=>dF V.bh λD=>dF V.bh λE=>dE ⟨C,D,E⟩
abbrev abd (o:Nat):aa V->ah aG:=dF V.bh λC=>dF V.bh λD=>dF V.bh λE=>dF V.bh λL=>dE ⟨C,D,E,L⟩
abbrev abe (o:Nat):aa V->ah bA:=dF V.bh λC=>dF V.bh λD=>dF V.bh λE=>dF V.nN λL=>dF V.bh λO=>dF V.bh λT=>dE ⟨C,D,E,L,O,T⟩
abbrev abf (o:Nat):aa V->ah ax:=dF V.bh λC=>dF V.bh λD=>dF V.bh λE=>dF V.bh λL=>dF V.bh λO=>dF V.bh λT=>dF V.bh λU=>dF V.bh λY=>dF V.bh λZ=>dF V.bh λx9=>dF V.bh λwE=>dF V.bh λwF=>dF V.bh λwG=>dF V.bh λwH=>dF V.bh λwI=>dF V.bh λwJ=>dF V.bh λwK=>dF V.bh λGG=>dF V.bh λGH=>dF V.bh λGI=>dF V.bh λT8=>dF V.bh λT9=>dF V.nN λUa=>dF V.bh λUb=>dF V.bh λUc=>dF V.bh λUd=>dF V.bh λUe=>dF V.bh λUf=>dF V.bh λx28=>dF V.bh λx29=>dF V.bh λx30=>dF V.bh λx31=>dF V.bh λx32=>dF (V.ff .int o) λx33=>dF V.bh λx34=>dF V.bh λx35=>dF V.bh λx36=>dF V.bh λx37=>dF V.bh λx38=>dF V.bh λx39=>dF V.bh λx40=>dF (V.ff .int o) λx41=>dF V.bh λx42=>dF V.bh λx43=>dF V.nN λx44=>dF V.bh λx45=>dF (V.ff .fQ o) λx46=>dF V.bh λx47=>dF (V.ff .int o) λx48=>dF (V.ff .int o) λx49=>dF (V.ff .Cell o) λx50=>dF (V.ff .int o) λx51=>dF (V.ff .int o) λx52=>dF V.bh λx53=>dF (V.ff .int o) λx54=>dF (V.ff .int o) λx55=>dF V.bh λx56=>dF V.nN λx57=>dF (V.ff .eR o) λx58=>dF (V.ff .int o) λx59=>dF (V.ff .Addr o) λx60=>dF (V.ff .dw o) λx61=>dF (V.ff .ef o) λx62=>dF V.nN λx63=>dF V.bh λx64=>dF V.bh λx65=>dF V.bh λx66=>dF V.bh λx67=>dF V.bh λx68=>dF V.bh λx69=>dF V.bh λx70=>dF V.bh λx71=>dF (V.ff .eo o) λx72=>dF (V.ff .Event o) λx73=>dF (V.ff .gd o) λx74=>dE ⟨⟨⟨C,D,E,L⟩,⟨O,T,U,Y,Z,x9,wE,wF,wG,wH,wI,wJ,wK,GG,GH,GI,T8⟩,⟨T9,Ua⟩,Ub,Uc,Ud,⟨Ue,Uf⟩⟩,⟨⟨x28,x29,x30,x31,x32,x33,⟨x34,x35⟩⟩,⟨x36,x37,x38,x39,x40,x41,⟨x42,x43⟩⟩,x44⟩,x45,⟨x46,x47⟩,⟨x48,x49⟩,⟨x50,x51,x52⟩,⟨x53,x54⟩,⟨x55,x56,x57⟩,x58,x59,x60,x61,x62,⟨x63,x64,x65⟩,⟨x66,x67,x68⟩,⟨x69,x70,x71⟩,x72,x73,x74⟩
def dec:(t:TC)->(o:Nat)->aa V->ah (T t)
 |.int,_=>dF V.bh dE
 |.u8,_=>dF V.T6 dE
 |.bool,_=>dF V.nN dE
 |.str,_=>dF V.T7 dE
 |.fe,o=>dF V.bh λC=>dF V.bh λD=>dF V.bh λE=>dF V.bh λL=>dE ⟨C,D,E,L⟩
 |.Addr,o=>abc o
 |.nK,o=>dF V.bh λC=>dF V.nN λD=>dE ⟨C,D⟩
 |.Command,o=>abd o
 |.jI,o=>dF V.bh λC=>dF V.bh λD=>dF V.bh λE=>dF V.bh λL=>dF V.bh λO=>dF V.bh λU=>dF V.bh λY=>dF V.bh λZ=>dF V.bh λx8=>dF V.bh λx9=>dF V.bh λwE=>dF V.bh λwF=>dF V.bh λwG=>dF V.bh λwH=>dF V.bh λwI=>dF V.bh λwJ=>dF V.bh λwK=>dE ⟨C,D,E,L,O,U,Y,Z,x8,x9,wE,wF,wG,wH,wI,wJ,wK⟩
 |.fQ,o=>dF V.nN λC=>dF V.bh λD=>dE ⟨C,D⟩
 |.iI,o=>dF (V.ff .fQ o) λC=>dF V.bh λD=>dE ⟨C,D⟩
 |.Event,o=>dF V.bh λC=>dF V.bh λD=>dF V.bh λE=>dF V.bh λL=>dF V.bh λO=>dE ⟨C,⟨D,E,L,O⟩⟩
 |.ki,o=>dF (V.ff .int o) λC=>dF (V.ff .int o) λD=>dE ⟨C,D⟩
 |.Cell,o=>dF (V.ff .int o) λC=>dF V.nN λD=>dE ⟨C,D⟩
 |.Array,o=>dF (V.ff .Cell o) λC=>dF (V.ff .int o) λD=>dF (V.ff .int o) λE=>dE ⟨C,D,E⟩
 |.mO,o=>dF V.bh λC=>dF V.bh λD=>dE ⟨C,D⟩
 |.eR,o=>dF (V.ff .int o) λC=>dF (V.ff .int o) λD=>dF V.bh λE=>dE ⟨C,D,E⟩
 |.kj,o=>dF V.bh λC=>dF (V.ff .int o) λD=>dE ⟨C,D⟩
 |.kM,o=>dF (V.ff .int o) λC=>dF V.bh λD=>dF V.nN λE=>dE ⟨C,D,E⟩
 |.dw,o=>abe o
 |.ef,o=>dF V.bh λC=>dF V.bh λD=>dE ⟨C,D⟩
 |.kN,o=>dF V.nN λC=>dF V.bh λD=>dF V.bh λE=>dE ⟨C,D,E⟩
 |.Power,o=>dF V.bh λC=>dF V.bh λD=>dF V.bh λE=>dE ⟨C,D,E⟩
 |.nL,o=>dF V.bh λC=>dF V.bh λD=>dE ⟨C,D⟩
 |.eo,o=>dF V.bh λC=>dF V.bh λD=>dF V.bh λE=>dE ⟨C,D,E⟩
 |.nM,o=>dF V.bh λC=>dF V.bh λD=>dF V.bh λE=>dE ⟨C,D,E⟩
 |.lU,o=>dF V.bh λC=>dF V.bh λD=>dF V.bh λE=>dF V.bh λL=>dF V.bh λO=>dF (V.ff .int o) λU=>dF V.bh λY=>dF V.bh λZ=>dE ⟨C,D,E,L,O,U,⟨Y,Z⟩⟩
 |.jJ,o=>dF V.bh λC=>dF V.bh λD=>dF V.bh λE=>dF V.bh λL=>dF V.bh λO=>dF (V.ff .int o) λU=>dF V.bh λY=>dF V.bh λZ=>dF V.bh λx8=>dF V.bh λx9=>dF V.bh λwE=>dF V.bh λwF=>dF V.bh λwG=>dF (V.ff .int o) λwH=>dF V.bh λwI=>dF V.bh λwJ=>dF V.nN λwK=>dE ⟨⟨C,D,E,L,O,U,⟨Y,Z⟩⟩,⟨x8,x9,wE,wF,wG,wH,⟨wI,wJ⟩⟩,wK⟩
 |.Config,o=>dF V.bh λC=>dF V.bh λD=>dF V.bh λE=>dF V.bh λL=>dF V.bh λO=>dF V.bh λU=>dF V.bh λY=>dF V.bh λZ=>dF V.bh λx8=>dF V.bh λx9=>dF V.bh λwE=>dF V.bh λwF=>dF V.bh λwG=>dF V.bh λwH=>dF V.bh λwI=>dF V.bh λwJ=>dF V.bh λwK=>dF V.bh λGG=>dF V.bh λGH=>dF V.bh λGI=>dF V.bh λT8=>dF V.bh λT9=>dF V.nN λUa=>dF V.bh λUb=>dF V.bh λUc=>dF V.bh λUd=>dF V.bh λUe=>dF V.bh λUf=>dE ⟨⟨C,D,E,L⟩,⟨O,U,Y,Z,x8,x9,wE,wF,wG,wH,wI,wJ,wK,GG,GH,GI,T8⟩,⟨T9,Ua⟩,Ub,Uc,Ud,⟨Ue,Uf⟩⟩
 |.gd,o=>dF V.bh λC=>dF V.bh λD=>dF V.bh λE=>dF V.bh λL=>dE ⟨C,D,E,L⟩
 |.cN,o=>abf o
 |.Act,o=>dF V.bh λC=>dF V.bh λD=>dF V.bh λE=>dF V.bh λL=>dF V.nN λO=>dF V.bh λU=>dF V.bh λY=>dF V.bh λZ=>dF V.bh λx8=>dF V.bh λx9=>dF V.bh λwE=>dF V.bh λwF=>dF V.bh λwG=>dF V.bh λwH=>dF V.bh λwI=>dF V.bh λwJ=>dF V.bh λwK=>dF (V.ff .int o) λGG=>dF V.bh λGH=>dF V.bh λGI=>dE ⟨C,⟨D,E,L,O,U,Y⟩,Z,x8,⟨x9,wE,wF⟩,⟨wG,wH,wI,wJ,wK,GG,⟨GH,GI⟩⟩⟩
 |.sl t,o=>dF (V.ff t o) dE
 |.ld,o=>dF (V.dW true) λ_=>abf o
 |.A6 g,o=>dF (V.dW false) λ_=>dF (V.DM g) λ_=>dF V.bh dE
 |.GD g,o=>dF (V.dW false) λ_=>dF (V.DM g) λ_=>abe o
 |.A7 g,o=>dF (V.dW false) λ_=>dF (V.DM g) λ_=>abc o
 |.fnCommand g,o=>dF (V.dW false) λ_=>dF (V.DM g) λ_=>abd o
def shp:TC->Nat->aa V
 |.cN,o=>DL ⟨⟨⟨0,0,0,0⟩,⟨0,0,0,0,0,0,0,0,0,0,0,0,0,0,0,0,0⟩,⟨0,false⟩,0,0,0,⟨0,0⟩⟩,⟨⟨0,0,0,0,0,[],⟨0,0⟩⟩,⟨0,0,0,0,0,[],⟨0,0⟩⟩,false⟩,0,⟨[],0⟩,⟨[],[]⟩,⟨[],[],[]⟩,⟨0,[]⟩,⟨[],0,false⟩,[],[],[],[],[],⟨false,0,0⟩,⟨0,0,0⟩,⟨0,0,0⟩,[],[],[]⟩ o
 |_,_=>[]
def ko(t:TC)(o:Nat)(x:T t):(enc t o x).length=aD t:=by cases t<;>rfl
def oA(t:TC):0<aD t:=by cases t<;>simp[aD]
def anm(t:TC)(o:Nat):DQ (enc t o) id (dec t o):=by
 cases t<;>dsimp only[dec]<;>(repeat' first|exact anj rfl|refine A8 V.anf λ_=>?_|refine A8 V.anh λ_=>?_|refine A8 V.GF λ_=>?_|refine A8 V.ani λ_=>?_|refine A8 V.ang λ_=>?_|refine A8 V.ank λ_=>?_|refine A8 V.anl λ_=>?_)
def lV(t:TC)(o:Nat)(cs:aa V)(x:T t)(h:dec t o cs=some x):kO cs (enc t o x):=by
 obtain⟨L,C,D⟩:=anm t o cs x h;rw[C];exact D
def V.low(n:Nat):V->Bool
 |.sl t _ _ _=>Nat.ble (full t+2) n
 |_=>true
def Na(t:TC)(o:Nat)(x:T t):∀ y∈enc t o x,y.low (full t)=true:=by
 cases t<;>simp[enc,V.low,full,DI,DJ,DK,DL]
def V.plain:V->Bool
 |.int _ _|.bool _|.str _=>true
 |_=>false
def yK(t:TC)(o:Nat)(x:T t)(h:full t=0):∀ y∈enc t o x,y.plain=true:=by
 cases t<;>first|(simp[full]at h;done)|simp[enc,V.plain,DI,DJ,DK]
def V.jK:V->Bool
 |.nil=>false
 |_=>true
def Ug(t:TC)(o:Nat)(x:T t):∀ y∈enc t o x,y.jK=true:=by
 cases t<;>simp[enc,V.jK,DI,DJ,DK,DL]
def tcs:aa TC:=[.int,.u8,.bool,.str,.sl .int,.sl .bool,.sl .str,.fe,.Addr,.nK,.Command,.jI,.fQ,.iI,.Event,.ki,.Cell,.Array,.mO,.eR,.kj,.kM,.dw,.ef,.kN,.Power,.nL,.eo,.nM,.lU,.jJ,.Config,.gd,.cN,.Act]
def abg(e:TypeId):ah TC:=tcs.find? λt=>Nat.beq (tid t) e
def ann{e:TypeId}{t:TC}(h:abg e=some t):tid t=e:=cD (List.find?_some (p:=λt=>Nat.beq (tid t) e) h)
def V.gr(o:Nat):V->Bool
 |.sl _ C _ _=>C==o
 |_=>true
def yL(t:TC)(o:Nat)(x:T t):∀ y∈enc t o x,y.gr o=true:=by
 cases t<;>simp[enc,V.gr,DI,DJ,DK,DL]
def V.aF:V->Bool
 |.sl _ o _ _=>decide (o<2)
 |_=>true
def V.gn:V->V
 |.sl t _ q l=>.sl t 0 q l
 |x=>x
def ano(t:TC)(o:Nat)(x y:T t):(enc t o x).map (λv=>(v.plain,v.aF))=(enc t o y).map (λv=>(v.plain,v.aF)):=by cases t<;>rfl
def V.anp(x:V):x.gn.aF=true:=by cases x<;>simp[V.gn,V.aF]
def rJ(t:TC)(o:Nat)(x:T t)(C:o<2)(j:Nat)(y:V)(h:(enc t o x)[j]?=some y):y.aF=true:=by
 have:=yL t o x y (gN h);cases y<;>simp_all [V.gr,V.aF]
def abh(t:TC)(o:Nat)(x:T t):enc t 0 x=(enc t o x).map V.gn:=by cases t<;>rfl
def wL(t:TC)(o:Nat)(x:T t)(j:Nat)(y:V)(h:(enc t 0 x)[j]?=some y):∃ z,(enc t o x)[j]?=some z/\y=z.gn:=by
 rw[abh t o x,eF]at h
 grind
def inner:Nat->Nat
 |0=>0
 |1=>1
 |n+2=>n
abbrev bG:=Nat->ah (aa Nat)
inductive RV (w:World) (B:Nat) (aj:bG):List Nat->V->Value->Prop
 |int (q:List Nat) (k:IntKind) (n:Int):RV w B aj q (.int k n) (.int k n)
 |bool (q:List Nat) (b:Bool):RV w B aj q (.bool b) (.bool b)
 |str (q:List Nat) (s:ByteArray):RV w B aj q (.str s) (.string s)
 |nil (q:List Nat):RV w B aj q .nil (.slice none 0 0)
 |ep (q:List Nat) (t:TC) (o:Nat):RV w B aj q (.sl t o false []) (.slice none 0 0)
 |fA (q:List Nat) (t:TC) (o:Nat) (A:Addr) (c:Nat) (ho:o<2):RV w B aj q (.sl t o false []) (.slice (some A) 0 c)
 |fK (q:List Nat) (t:TC) (o:Nat) (A:Addr) (c:Nat) (ho:o<2):RV w B aj q (.sl t o true []) (.slice (some A) 0 c)
 | aF (q:List Nat) (t:TC) (o:Nat) (qn:Bool) (l:List (T t)) (b off cap:Nat) (u:Nat->Nat->Value) (ho:o<2) (hl:aj b=none) (hb:b<w.heap.size) (h1:o=1->B<=b) (iJ:l.length<=cap)
   (hc:∀i (h:i<l.length) j x,(enc t o l[i])[j]?=some x->w.cell? ⟨b,off+(i*aD t+j),none⟩=some (u i j))
   (hr:∀i (h:i<l.length) j x,(enc t o l[i])[j]?=some x->RV w B aj [] x (u i j)):RV w B aj q (.sl t o qn l) (.slice (some ⟨b,off,none⟩) l.length cap)
 | own (q:List Nat) (t:TC) (o:Nat) (qn:Bool) (l:List (T t)) (b cap:Nat) (cs:Array Value) (u:Nat->Nat->Value) (hl:aj b=some q) (hh:w.heap[b]?=some (.cells cs (tid t) (0,0)))
   (hs:cs.size=cap*aD t) (hn:l.length<=cap) (hm:cap<=maxLen/\(qn=true->cap=l.length))
   (hc:∀i (h:i<l.length) j x,(enc t o l[i])[j]?=some x->cs[i*aD t+j]?=some (u i j))
   (hr:∀i (h:i<l.length) j x,(enc t o l[i])[j]?=some x->RV w B aj (j::i::aD t::q) x (u i j)):RV w B aj q (.sl t (o+2) qn l) (.slice (some ⟨b,0,none⟩) l.length cap)
section
variable {w w':World} {B:Nat} {aj aA:bG}
def V.GJ(n:Nat):V->V
 |.sl t _ q l=>.sl t n q l
 |x=>x
def anq(t:TC)(o n:Nat)(x:T t):enc t n x=(enc t o x).map (V.GJ n):=by cases t<;>rfl
def V.fu(n:Nat):V->Prop
 |.sl t o _ _=>full t+2<=o/\full t+2<=n
 |_=>True
def RV.GJ{q:aa Nat}{x:V}{v:Value}(h:RV w B aj q x v):∀ n,x.fu n -> RV w B aj q (x.GJ n) v:=by
 induction h with
 |int=>exact λ_ _=>.int _ _ _
 |bool=>exact λ_ _=>.bool _ _
 |str=>exact λ_ _=>.str _ _
 |nil=>exact λ_ _=>.nil _
 |ep=>exact λ_ _=>.ep _ _ _
 |fA q t o A c L=>exact λn C=>by have:=C.1;omega
 |fK q t o A c L=>exact λn C=>by have:=C.1;omega
 |aF q t o T l b off cap u L O hb U iJ Y Z ih=>exact λn C=>by have:=C.1;omega
 | own q t o T l b cap cs u O hh hs C hm Y Z ih=>
  intro n hf;obtain⟨U,h2⟩:=hf;obtain⟨m,rfl⟩:∃m,n=m+2:=⟨n-2,by omega⟩
  have key:∀ (i:Nat) (h:i<l.length) (j:Nat) (x:V),(enc t m l[i])[j]?=some x -> ∃ y:V,(enc t o l[i])[j]?=some y/\y.GJ m=x/\y.fu m:=by
   intro i h j x D;rw[anq t o m l[i],eF]at D;cases E:(enc t o l[i])[j]? with
   |none=>simp_all
   | some y=>
    rw[E]at D;injection D with D;refine⟨y,rfl,D,?_⟩;have g1:=yL t o l[i] y (gN E);have g2:=Na t o l[i] y (gN E);cases y with
    | sl t' o' q' l'=>
     have e:o'=o:=by simpa [V.gr]using g1
     have:=cQ (show Nat.ble _ _=true from g2);exact⟨by omega,by omega⟩
    |_=>trivial
  refine .own _ _ _ _ _ _ _ cs u O hh hs C hm (λi h j x D=>?_) (λi h j x D=>?_)
  ·grind
  ·grind
def RV.wk{q:aa Nat}{x y:V}{v:Value}(h:RV w B aj q x v)(k:Wk x y):RV w B aj q y v:=by
 cases k with
 |same=>exact h
 |nil t o=>cases h;exact .ep _ _ _
 | gr t o o' O l T h2=>
  have h:=h.GJ o ⟨h2,T⟩;cases h with
  |ep=>exact .ep _ _ _
  |fA q t o A c C=>grind
  |fK q t o A c C=>grind
  |aF q t o O l b off cap u C D hb T iJ E L=>grind
  |own q t o O l b cap cs u D U Y Z hm E L=>exact .own _ _ _ _ _ _ _ cs u D U Y Z ⟨hm.1,λh=>by cases h⟩ E L
 | q t o l=>
  cases h with
  |fK q t o A c C=>exact .fA _ _ _ _ _ C
  |aF q t o O l b off cap u C D hb T iJ E L=>exact .aF _ _ _ _ _ _ _ _ u C D hb T iJ E L
  |own q t o O l b cap cs u D U Y Z hm E L=>exact .own _ _ _ _ _ _ _ cs u D U Y Z ⟨hm.1,λh=>by cases h⟩ E L
def RV.map{Q:aa Nat->aa Nat->Prop}(hz:w.heap.size<=w'.heap.size)(h0:∀ b,b<w.heap.size->aj b=none->w'.heap[b]?=w.heap[b]?/\aA b=none)
  (h1:∀b q C,b<w.heap.size->aj b=some q->Q q C->w'.heap[b]?=w.heap[b]?/\aA b=some C/\∀j i s,Q (j::i::s::q) (j::i::s::C)) {q C:aa Nat} {x:V} {v:Value} (h:RV w B aj q x v) (hq:x.aF=true\/Q q C):RV w' B aA C x v:=by
 induction h generalizing C with
 |int=>exact .int _ _ _
 |bool=>exact .bool _ _
 |str=>exact .str _ _
 |nil=>exact .nil _
 |ep=>exact .ep _ _ _
 |fA _ _ _ _ _ D=>exact .fA _ _ _ _ _ D
 |fK _ _ _ _ _ D=>exact .fK _ _ _ _ _ D
 | aF q t o qn l b off cap u D L Z h1' iJ O hr T=>
  obtain⟨U,Y⟩:=h0 b Z L;exact .aF _ _ _ _ _ _ _ _ u D Y (Nat.lt_of_lt_of_le Z hz) h1' iJ (λi h j x E=>(World.cell?_of_block (a:=⟨b,_,none⟩) U).trans (O i h j x E)) (λi h j x E=>T i h j x E (.inl (rJ t o l[i] D j x E)))
 | own q t o qn l b cap cs u L hh hs hn hm O hr T=>
  obtain⟨U,Y,e3⟩:=h1 b q C (iH.1 hh).1 L (hq.resolve_left (by simp[V.aF]));exact .own _ _ _ _ _ _ _ cs u Y (U.trans hh) hs hn hm O (λi h j x E=>T i h j x E (.inr (e3 _ _ _)))
def RV.abi{q C:aa Nat}{x:V}{v:Value}(h:RV w B aj q x v)(D:x.aF=true)(E:∀ b,aj b=none->aA b=none):RV w B aA C x v:=
 h.map (Q:=λ_ _=>False) (dM _) (λb _ h=>⟨rfl,E b h⟩) (λ_ _ _ _ _ h=>h.elim) (.inl D)
def RV.Nb{q:aa Nat}{x:V}{v:Value}(h:RV w B aj q x v)(C:x.aF=true)(D:∀b,aj b=none->aA b=none):RV w B aA q x v:=h.abi C D
def RV.key{q C:aa Nat}{x:V}{v:Value}(h:RV w B aj q x v)(D:x.aF=true):RV w B aj C x v:=h.abi D λ_ h=>h
def mP:Value->Bool
 |.slice ..=>true
 |_=>false
def RV.Uh{q:aa Nat}{x:V}{u:Value}(h:RV w B aj q x u)(C:x.aF=false):mP u=true:=by
 cases h<;>first|rfl|cases C
def RV.one{q:aa Nat}{x:V}{u:Value}(h:RV w B aj q x u):u.oneCell'=true:=by
 cases h<;>rfl
def RV.lu{q:aa Nat}{x:V}{v:Value}(h:RV w B aj q x v)(L:w.heap.size<=w'.heap.size)(D:∀ b,b<w.heap.size->w'.heap[b]?=w.heap[b]?/\aA b=aj b):RV w' B aA q x v:=
 h.map (Q:=Eq) L (λb C E=>⟨(D b C).1,(D b C).2.trans E⟩) (λb q O C E e=>by subst e;exact⟨(D b C).1,(D b C).2.trans E,λ_ _ _=>rfl⟩) (.inr rfl)
def RV.apart{q kt:aa Nat}{x:V}{v:Value}{bt:Nat}(h:RV w B aj q x v)(C:aj bt=some kt)(O:¬ q <:+ kt\/x.aF=true)(T:w.heap.size<=w'.heap.size)(E:∀ b,b≠bt->w'.heap[b]?=w.heap[b]?):RV w' B aj q x v:=
 h.map (Q:=λq L=>q=L/\¬ q <:+ kt) T (λb _ D=>⟨E b (by rintro rfl;rw[D]at C;cases C),D⟩) (λb q L _ D e=>by
  obtain⟨rfl,e⟩:=e;exact⟨E b (by rintro rfl;rw[D]at C;injection C with C;subst C;exact e (List.suffix_refl _)),D,λj i s=>⟨rfl,λU=>e (List.IsSuffix.trans ⟨[j,i,s],rfl⟩ U)⟩⟩) (O.symm.imp_right λh=>⟨rfl,h⟩)
def RV.gn{q E:aa Nat}{x:V}{v:Value}(h:RV w B aj q x v){B':Nat}:RV w B' (λ_=>none) E x.gn v:=by
 induction h generalizing E with
 |int=>exact .int _ _ _
 |bool=>exact .bool _ _
 |str=>exact .str _ _
 |nil=>exact .nil _
 |ep=>exact .ep _ _ _
 |fA=>exact .fA _ _ _ _ _ (by first|assumption|omega)
 |fK=>exact .fK _ _ _ _ _ (by first|assumption|omega)
 | aF q t o T l b off cap u ho U Y h1 Z L hr ih=>
  refine .aF _ _ _ _ _ _ _ _ u (by omega) rfl Y (by omega) Z (λi h j x C=>?_) (λi h j x C=>?_)
  ·obtain⟨y,D,_⟩:=wL t o l[i] j x C;simp_all
  ·obtain⟨y,D,rfl⟩:=wL t o l[i] j x C;simp_all
 | own q t o T l b cap cs u U O hs hn hm L hr ih=>
  refine .aF _ _ _ _ _ _ _ _ u (by omega) rfl (iH.1 O).1 (by omega) hn (λi h j x C=>?_) (λi h j x C=>?_)
  ·obtain⟨y,D,_⟩:=wL t o l[i] j x C;have:=L i h j y D;rw[fk,cell_of_row w b _ cs _ _ O];exact this
  ·obtain⟨y,D,rfl⟩:=wL t o l[i] j x C;simp_all
end
set_option linter.unusedVariables false
inductive Lf where
 |v (x:V)
 |own (k:List Nat)
 |dead
inductive A where
 |undef
 |skip
 |lf (x:Lf)
 |agg (cs:List Lf)
 |eS (xs:List (Bool×List Lf))
 |ptr (k:List Nat)
 |aJ (r j:Nat)
 |iZ (cs:List V)
 |mQ (f:Nat) (cs:List V)
 |pk (r n:Nat)
 |view (k:List Nat) (s i j:Nat)
 |fn (f:Nat) (cap:List (Nat×Nat))
inductive bg where
 |aC (cs:List Lf)
 |sl (y:V)
 |mp (l:List (Int×Bool))
 |gh (xs:List A)
structure S where
 t:Nat->A
 m:Nat->Option bg
inductive Loc where
 |aC (b off:Nat)
 |dX (v:Value)
 |bY (us:List Value)
def addrAt(w:World)(aj:bG)(ρ:Nat->Loc):aa Nat->ah Addr
 | j :: i :: s :: [r]=>match ρ r with
  |.dX (.slice (some ⟨b,0,none⟩) _ _)=>if aj b=some [r]then some ⟨b,i*s+j,none⟩else none
  |_=>none
 | j :: i :: s :: q=>match (addrAt w aj ρ q).bind w.cell? with
  |some (.slice (some ⟨b,0,none⟩) _ _)=>if aj b=some q then some ⟨b,i*s+j,none⟩else none
  |_=>none
 |_=>none
def c8(w:World)(aj:bG)(ρ:Nat->Loc):aa Nat->ah Value
 | [r]=>match ρ r with
  |.dX v=>some v
  |_=>none
 |q=>(addrAt w aj ρ q).bind w.cell?
def dU(w:World)(B:Nat)(aj:bG)(ρ:Nat->Loc):Lf->Value->Prop
 |.v x,u=>x.aF=true/\RV w B aj [] x u
 |.own k,u=>mP u=true/\c8 w aj ρ k=some u
 |.dead,_=>True
def eD(w:World)(B:Nat)(aj:bG)(ρ:Nat->Loc)(cs:aa Lf)(us:Array Value):Prop:=
 us.size=cs.length/\∀(j:Nat) x,cs[j]?=some x->∃u,us[j]?=some u/\dU w B aj ρ x u
def RP(w:World)(B:Nat)(aj:bG)(ρ:Nat->Loc)(p:Bool×aa Lf)(u:Value):Prop:=
 match p with
 |(true,cs)=>∃us,u = .agg us/\eD w B aj ρ cs us
 |(false,cs)=>eD w B aj ρ cs #[u]
def qx:Nat:=4294967296
def Nc(b n:Nat):Value:=bif Nat.beq n qx then .map (some b)else .slice (some ⟨b,0,none⟩) n n
def Ui{b n:Nat}(h:n<qx):Nc b n = .slice (some ⟨b,0,none⟩) n n:=by
 unfold Nc;cases C:Nat.beq n qx with
 |true=>simp_all
 |false=>rfl
def Uj(b:Nat):Nc b qx = .map (some b):=rfl
def RF(w:World)(B:Nat)(aj:bG)(cs:aa V)(u:Value):Prop:=
 ∃b off,u = .pointer (some ⟨b,off,none⟩)/\b<w.heap.size/\aj b=none/\∀(j:Nat) x,cs[j]?=some x->x.aF=true/\∃v,w.cell? ⟨b,off+j,none⟩=some v/\RV w B aj [] x v
def RA(w:World)(B:Nat)(aj:bG)(ρ:Nat->Loc):A->Value->Prop
 |.undef,_=>True
 |.skip,u=>u=Go.undef
 |.lf x,u=>dU w B aj ρ x u
 |.agg cs,u=>RP w B aj ρ (true,cs) u
 |.eS xs,u=>∃us:Array Value,u = .tuple us/\us.size=xs.length/\∀(j:Nat) p,xs[j]?=some p->∃v,us[j]?=some v/\RP w B aj ρ p v
 |.ptr k,u=>∃ad,u = .pointer (some ad)/\addrAt w aj ρ k=some ad
 |.aJ r j,u=>∃b off,ρ r = .aC b off/\u = .pointer (some ⟨b,off+j,none⟩)
 |.iZ cs,u=>RF w B aj cs u
 |.mQ f cs,u=>∃pv,u = .func (.func f) #[] #[pv]/\RF w B aj cs pv
 |.pk r n,u=>∃b,ρ r = .aC b 0/\u=Nc b n
 |.view k s i j,u=>∃A n c,c8 w aj ρ k=some (.slice A n c)/\i<=j/\j<=n/\u=sliced A i j c s
 |.fn f cap,u=>∃C:Array Value,u = .func (.func f) #[] C/\C.size=cap.length/\∀(j:Nat) p,cap[j]?=some p->∃b off,ρ p.1 = .aC b off/\C[j]?=some (.pointer (some ⟨b,off+p.2,none⟩))
inductive dY (w:World) (B:Nat) (aj:bG) (ρ:Nat->Loc) (r:Nat):bg->Prop
 | aC (b off:Nat) (cells:Array Value) (e:TypeId) (cs:List Lf) (us:Nat->Value) (cz:ρ r = .aC b off) (hl:aj b=some [r]) (hh:w.heap[b]?=some (.cells cells e (0,0))) (hs:off+cs.length<=cells.size)
   (hc:∀(j:Nat) x,cs[j]?=some x->cells[off+j]?=some (us j)/\dU w B aj ρ x (us j)):dY w B aj ρ r (.aC cs)
 |sl (v:Value) (y:V) (cz:ρ r = .dX v) (hr:RV w B aj [r] y v):dY w B aj ρ r (.sl y)
 |mp (b clock:Nat) (es:Array MapEntry) (l:List (Int×Bool)) (cz:ρ r = .aC b 0) (hl:aj b=some [r]) (hh:w.heap[b]?=some (.map es clock)) (he:es.toList.map (λe=>(e.key,e.val))=l.map λp=>(.int .i64 p.1,.bool p.2)):dY w B aj ρ r (.mp l)
 |gh (us:List Value) (xs:List A) (cz:ρ r = .bY us) (hx:∀(j:Nat) x,xs[j]?=some x->RA w B aj ρ x (us.getD j undef)):dY w B aj ρ r (.gh xs)
def Qw(_:World):Prop:=True
structure anr (n:Nat) (L:bG) (w w':World):Prop where
 os:w'.os=w.os
 tape:w'.tape=w.tape
 output:w'.output=w.output
 size:w.heap.size<=w'.heap.size
 block:∀k,k<n->L k=none->w'.heap[k]?=w.heap[k]?
def Hd(w:World)(L:bG):Prop:=∀w',anr w.heap.size L w w'->Qw w'
def ans(w:World)(L:bG):Hd w L:=λ_ _=>trivial
structure Wd where
 w:World
 L:bG
 F:Nat->Option Loc
 held:Hd w L
 low:∀r,r<20000->F r=none
def Wd.heap(d:Wd):Array Obj:=d.w.heap
def Wd.of(w:World)(h:Hd w λ_=>none):Wd:=⟨w,λ_=>none,λ_=>none,h,λ_ _=>rfl⟩
structure ja (d:Wd) (w w':World):Prop where
 os:w'.os=w.os
 tape:w'.tape=w.tape
 output:w'.output=w.output
 size:w.heap.size<=w'.heap.size
 block:∀k,k<d.heap.size->d.L k=none->w'.heap[k]?=w.heap[k]?
def ja.trans{d:Wd}{a b c:World}(h:ja d a b)(k:ja d b c):ja d a c:=
 ⟨k.os.trans h.os,k.tape.trans h.tape,k.output.trans h.output,Nat.le_trans h.size k.size,λi hi C=>(k.block i hi C).trans (h.block i hi C)⟩
def Wd.on(d:Wd){w:World}(h:ja d d.w w){L:bG}(O:∀ b k,L b=some k->d.heap.size<=b\/d.L b≠none):Hd w L:=λw' C=>
 d.held w' ⟨C.os.trans h.os,C.tape.trans h.tape,C.output.trans h.output,Nat.le_trans h.size C.size,λk D E=>by
  have e:L k=none:=by
   cases e:L k with
   |none=>rfl
   | some q=>
    rcases O k q e with h1|h1
    ·exact absurd D (Nat.not_lt.2 h1)
    ·exact absurd E h1
  exact(C.block k (Nat.lt_of_lt_of_le D h.size) e).trans (h.block k D E)⟩
def ja.of{d:Wd}{a b:World}{B:Nat}(h:Below B a b)(hB:d.heap.size<=B):ja d a b:=
 ⟨h.os,h.tape,h.output,h.size,λi hi _=>h.block i (Nat.lt_of_lt_of_le hi hB)⟩
structure Rl (w0:Wd) (N:Nat) (aj:bG) (ρ:Nat->Loc) (σ:S) (a:Act) (w:World):Prop where
 below:ja w0 w0.w w
 dg:∀b k,aj b=some k->(w0.heap.size<=b\/w0.L b≠none)/\b<w.heap.size/\k≠[]
 root:∀r x,σ.m r=some x->dY w w0.heap.size aj ρ r x
 tmp:∀k,RA w w0.heap.size aj ρ (σ.t k) (a.tmps.getD k undef)
 size:a.tmps.size=N
 defers:a.defers=[]
 fix:∀r l,w0.F r=some l->ρ r=l
 dz:∀r,(r<N\/60000<=r)->w0.F r=none
def R(w0:Wd)(N:Nat)(σ:S)(a:Act)(w:World):Prop:=∃aj ρ,Rl w0 N aj ρ σ a w
/-! Reading along a key. -/
inductive wM (m:Nat->Option bg):List Nat->V->Prop
 |root (r:Nat) (y:V) (h:m r=some (.sl y)):wM m [r] y
 |elem (j i:Nat) (q:List Nat) (t:TC) (o:Nat) (qn:Bool) (l:List (T t)) (y:V) (h:wM m q (.sl t (o+2) qn l)) (hi:i<l.length) (hy:(enc t o l[i])[j]?=some y):wM m (j::i::aD t::q) y
section
variable {w w':World} {w0:Wd} {B N:Nat} {aj aA:bG} {ρ ρ':Nat->Loc} {m:Nat->ah bg} {σ:S} {a:Act}
def A9{q:aa Nat}(j i s:Nat){b n c:Nat}(h:c8 w aj ρ q=some (.slice (some ⟨b,0,none⟩) n c))(C:aj b=some q):addrAt w aj ρ (j :: i :: s :: q)=some ⟨b,i*s+j,none⟩:=by
 match q,h,C with
 | [r],h,C=>
  simp[c8]at h;simp[addrAt]
  grind
 | x :: y :: q,h,C=>
  simp[c8]at h;simp[addrAt,h,C,if_true]
def Nd{j i s:Nat}{q:aa Nat}:c8 w aj ρ (j::i::s::q)=(addrAt w aj ρ (j::i::s::q)).bind w.cell?:=rfl
def wM.ok{k:aa Nat}{y:V}(h:wM m k y)(D:∀ r x,m r=some x -> dY w B aj ρ r x):∃ u,c8 w aj ρ k=some u/\RV w B aj k y u:=by
 induction h with
 | root r y h=>
  cases D _ _ h with
  |sl v y E C=>exact⟨v,by simp[c8,E],C⟩
 | elem j i q t o Z l y h hi L O=>
  obtain⟨u,T,C⟩:=O;cases C with
  |ep=>simp at hi
  |fA=>simp at hi
  |fK=>simp at hi
  |aF _ _ _ _ _ _ _ _ _ ho=>omega
  | own _ _ _ _ _ b cap cs us U Y hs hn D hc C=>
   refine⟨us i j,?_,C i hi j y L⟩;rw[Nd,A9 j i _ T U];show w.cell? _=_;rw[cell_of_row w b _ cs _ _ Y];simp_all
def Ba:∀ (k:aa Nat) (ad:Addr),addrAt w aj ρ k=some ad -> ∃ j i s q,k=j :: i :: s :: q/\aj ad.block=some q/\ad.off=i*s+j/\ad.spot=none/\(∀ r,q=[r] -> ∃ v,ρ r = .dX v)
 |[],_,h=>by simp[addrAt]at h
 | [j,i,s,r],ad,h=>by
  simp only[addrAt]at h
  grind
 | j :: i :: s :: x :: y :: q,ad,h=>by
  simp only[addrAt]at h
  grind
/-! What is forgotten: keys of leaves,of addresses,roots. -/
structure mR where
 l:List Nat->Bool
 p:List Nat->Bool
 r:Nat->Bool
def Lf.cE(f:aa Nat->Bool):Lf->Lf
 |.own k=>bif f k then .dead else .own k
 |x=>x
def A.cE(K:mR):A->A
 |.lf x=>.lf (x.cE K.l)
 |.agg cs=>.agg (cs.map (Lf.cE K.l))
 |.eS xs=>.eS (xs.map λp=>(p.1,p.2.map (Lf.cE K.l)))
 |.ptr k=>bif K.p k then .undef else .ptr k
 |.aJ r j=>bif K.r r then .undef else .aJ r j
 |.pk r n=>bif K.r r then .undef else .pk r n
 |.view k s i j=>bif K.p k then .undef else .view k s i j
 |.fn f cap=>bif cap.any (λp=>K.r p.1)then .undef else .fn f cap
 |x=>x
def bg.cE(K:mR):bg->bg
 |.aC cs=>.aC (cs.map (Lf.cE K.l))
 |.gh xs=>.gh (xs.map (A.cE K))
 |x=>x
/-! What names nothing that is forgotten. -/
def Lf.fr(f:aa Nat->Bool):Lf->Bool
 |.own k=>!f k
 |_=>true
def A.fr(K:mR):A->Bool
 |.lf x=>x.fr K.l
 |.agg cs=>cs.all (Lf.fr K.l)
 |.eS xs=>xs.all λq=>q.2.all (Lf.fr K.l)
 |.ptr k=>!K.p k
 |.aJ r _=>!K.r r
 |.pk r _=>!K.r r
 |.view k _ _ _=>!K.p k
 |.fn _ cap=>cap.all λq=>!K.r q.1
 |_=>true
def Lf.qy{f:aa Nat->Bool}{x:Lf}(h:x.fr f=true):x.cE f=x:=by
 cases x with
 |own k=>simp only[Lf.cE,show f k=false by simpa [Lf.fr]using h,aq]
 |_=>rfl
def qz.qy{f:aa Nat->Bool}{cs:aa Lf}(h:cs.all (Lf.fr f)=true):cs.map (Lf.cE f)=cs:=
 (List.map_congr_left λx C=>Lf.qy (cw.1 h x C)).trans (List.map_id cs)
def A.qy{K:mR}{x:A}(h:x.fr K=true):x.cE K=x:=by
 cases x with
 |lf x=>exact aY A.lf (Lf.qy h)
 |agg cs=>exact aY A.agg (qz.qy h)
 |eS xs=>exact aY A.eS ((List.map_congr_left λq C=>by rw[qz.qy (cw.1 h q C)];rfl).trans (List.map_id xs))
 |ptr k=>simp only[A.cE,show K.p k=false by simpa [A.fr]using h,aq]
 |view k=>simp only[A.cE,show K.p k=false by simpa [A.fr]using h,aq]
 |aJ r=>simp only[A.cE,show K.r r=false by simpa [A.fr]using h,aq]
 |pk r=>simp only[A.cE,show K.r r=false by simpa [A.fr]using h,aq]
 |fn f cap=>simp only[A.cE,show (cap.any λp=>K.r p.1)=false from List.any_eq_false.2 λp D=>by simpa using cw.1 h p D,aq]
 |_=>rfl
def Lf.uW{f g:aa Nat->Bool}(C:∀ k,f k=true->g k=true){x:Lf}(h:x.fr g=true):x.fr f=true:=by
 cases x with
 | own k=>
  have h:(!g k)=true:=h;show (!f k)=true;cases D:f k with
  |false=>rfl
  |true=>rw[C k D]at h;cases h
 |_=>rfl
def A.uW{K J:mR}(C:∀ k,K.l k=true->J.l k=true)(O:∀ k,K.p k=true->J.p k=true)(T:∀ r,K.r r=true->J.r r=true){x:A}(h:x.fr J=true):x.fr K=true:=by
 have D:∀r,(!J.r r)=true->(!K.r r)=true:=λr h=>Lf.uW (x:=.own []) (f:=λ_=>K.r r) (λ_=>T r) h
 cases x with
 |lf x=>exact Lf.uW C h
 |agg cs=>exact cw.2 λc E=>Lf.uW C (cw.1 h c E)
 |eS xs=>exact cw.2 λq L=>cw.2 λc E=>Lf.uW C (cw.1 (cw.1 h q L) c E)
 |ptr k=>exact Lf.uW (x:=.own k) O h
 |view k=>exact Lf.uW (x:=.own k) O h
 |aJ r=>exact D r h
 |pk r=>exact D r h
 |fn f cap=>exact cw.2 λq L=>D _ (cw.1 h q L)
 |_=>rfl
def Lf.oB(x:Lf)(f g:aa Nat->Bool):(x.cE f).cE g=(x.cE g).cE f:=by
 cases x with
 |own k=>cases C:f k<;>cases D:g k<;>simp[Lf.cE,C,D]
 |_=>rfl
def qz.oB(cs:aa Lf)(f g:aa Nat->Bool):(cs.map (Lf.cE f)).map (Lf.cE g)=(cs.map (Lf.cE g)).map (Lf.cE f):=by
 rw[List.map_map,List.map_map];exact List.map_congr_left λx _=>Lf.oB x f g
def A.oB(x:A)(K J:mR):(x.cE K).cE J=(x.cE J).cE K:=by
 cases x with
 |lf x=>exact aY A.lf (Lf.oB x _ _)
 |agg cs=>exact aY A.agg (qz.oB cs _ _)
 | eS xs=>
  refine aY A.eS ?_;rw[List.map_map,List.map_map];exact List.map_congr_left λq _=>aY (Prod.mk q.1) (qz.oB q.2 _ _)
 |ptr k=>cases C:K.p k<;>cases D:J.p k<;>simp[A.cE,C,D]
 |view k=>cases C:K.p k<;>cases D:J.p k<;>simp[A.cE,C,D]
 |aJ r=>cases C:K.r r<;>cases D:J.r r<;>simp[A.cE,C,D]
 |pk r=>cases C:K.r r<;>cases D:J.r r<;>simp[A.cE,C,D]
 |fn f cap=>cases C:(cap.any λp=>K.r p.1)<;>cases D:(cap.any λp=>J.r p.1)<;>simp only[A.cE,C,D,au,aq]
 |_=>rfl
def bg.oB(x:bg)(K J:mR):(x.cE K).cE J=(x.cE J).cE K:=by
 cases x with
 |aC cs=>exact aY bg.aC (qz.oB cs _ _)
 | gh xs=>
  refine aY bg.gh ?_;rw[List.map_map,List.map_map];exact List.map_congr_left λx _=>A.oB x K J
 |_=>rfl
def cU(d:Nat)(k:aa Nat):Bool:=k.getLast?==some d
def wN(d:Nat):mR:=⟨cU d,cU d,λr=>Nat.beq r d⟩
def Lf.drop(d:Nat):Lf->Lf:=Lf.cE (cU d)
def A.drop(d:Nat):A->A:=A.cE (wN d)
def bg.drop(d:Nat):bg->bg:=bg.cE (wN d)
def jj(c:Nat->Bool)(k:aa Nat):Bool:=match k.getLast? with
 |some r=>c r
 |none=>false
structure Tr (w w':World) (aj aA:bG) (ρ ρ':Nat->Loc) (t:List Nat->Bool) (c:Nat->Bool):Prop where
 size:w.heap.size<=w'.heap.size
 no:∀b,b<w.heap.size->aj b=none->w'.heap[b]?=w.heap[b]?/\aA b=none
 so:∀b k,aj b=some k->t k=false->w'.heap[b]?=w.heap[b]?/\aA b=some k
 eT:∀r,c r=false->ρ' r=ρ r
 up:∀j i s x q,t (j::i::s::x::q)=t (x::q)
 ne:∀b,aj b=some []->∀k,t k=false
structure mR.OK (K:mR) (t:List Nat->Bool) (c:Nat->Bool):Prop where
 l:∀k,K.l k=false->(k.length=1\/t k=false)/\jj c k=false
 p:∀k,K.p k=false->t k=false/\jj c k=false
 r:∀r,K.r r=false->c r=false
section
variable {t:aa Nat->Bool} {c:Nat->Bool} {K:mR}
def RV.tr(T:Tr w w' aj aA ρ ρ' t c){q:aa Nat}{x:V}{v:Value}(h:RV w B aj q x v)(E:x.aF=true\/t q=false):RV w' B aA q x v:=
 h.map (Q:=λq D=>q=D/\t q=false) T.size T.no (λb q D _ C e=>by
  obtain⟨rfl,e⟩:=e;exact⟨(T.so b q C e).1,(T.so b q C e).2,λj i s=>⟨rfl,by
   cases q with
   |nil=>exact T.ne b C _
   |cons x q=>rw[T.up];exact e⟩⟩) (E.imp_right λh=>⟨rfl,h⟩)
def Nf(j i s x:Nat)(q:aa Nat):jj c (j::i::s::x::q)=jj c (x::q):=by simp[jj,List.getLast?_cons_cons]
def Uk(T:Tr w w' aj aA ρ ρ' t c):∀ (k:aa Nat) (ad:Addr),t k=false->jj c k=false->addrAt w aj ρ k=some ad->addrAt w' aA ρ' k=some ad
 |[],_,_,_,h=>by simp[addrAt]at h
 |[_],_,_,_,h=>by simp[addrAt]at h
 |[_,_],_,_,_,h=>by simp[addrAt]at h
 |[_,_,_],_,_,_,h=>by simp[addrAt]at h
 | [j,i,s,r],_,C,D,h=>by
  rw[T.up]at C;rw[Nf]at D;simp only[addrAt]at h ⊢;rw[T.eT r D];split at h
  ·split at h
   next L=>rw[bL (T.so _ _ L C).2];exact h
   ·cases h
  ·cases h
 | j :: i :: s :: x :: y :: q,ad,C,D,h=>by
  rw[T.up]at C;rw[Nf]at D;simp only[addrAt]at h ⊢;cases E:addrAt w aj ρ (x::y::q)with
  |none=>rw[E]at h;cases h
  | some Y=>
   rw[Uk T _ _ C D E];rw[E]at h;cases O:w.cell? Y with
   |none=>simp[O]at h
   | some v=>
    obtain⟨j',i',s',U,hk,Z,_,_⟩:=Ba _ _ E;have Bb:t U=false:=by
     cases U with
     |nil=>exact T.ne _ Z _
     |cons z U=>rw[<-T.up j' i' s',<-hk];exact C
    have e:w'.cell? Y=some v:=(World.cell?_of_block (T.so _ _ Z Bb).1).trans O;simp only[Option.bind_some,O]at h;simp only[Option.bind_some,e];split at h
    ·split at h
     next L=>rw[bL (T.so _ _ L C).2];exact h
     ·cases h
    ·cases h
def Ul(T:Tr w w' aj aA ρ ρ' t c)(k:aa Nat)(u:Value)(C:k.length=1\/t k=false)(D:jj c k=false)(h:c8 w aj ρ k=some u):c8 w' aA ρ' k=some u:=by
 match k,C,D,h with
 |[],_,_,h=>simp[c8,addrAt]at h
 | [r],_,D,h=>
  simp only[c8]at h ⊢;rw[T.eT r D];exact h
 | x :: y :: q,C,D,h=>
  have C:t (x::y::q)=false:=C.resolve_left (by simp);simp only[c8]at h ⊢;cases E:addrAt w aj ρ (x::y::q)with
  |none=>rw[E]at h;cases h
  | some ad=>
   rw[Uk T _ _ C D E];rw[E]at h;have h:w.cell? ad=some u:=h;obtain⟨U,Y,Z,L,hk,O,_,_⟩:=Ba _ _ E;have Bb:t L=false:=by
    cases L with
    |nil=>exact T.ne _ O _
    |cons z L=>rw[<-T.up U Y Z,<-hk];exact C
   exact(World.cell?_of_block (T.so _ _ O Bb).1).trans h
def dU.tr(T:Tr w w' aj aA ρ ρ' t c)(C:K.OK t c){x:Lf}{u:Value}(h:dU w B aj ρ x u):dU w' B aA ρ' (x.cE K.l) u:=by
 cases x with
 |v x=>exact⟨h.1,h.2.tr T (.inl h.1)⟩
 |dead=>trivial
 | own k=>
  show dU w' B aA ρ' (bif K.l k then .dead else .own k) u;cases D:K.l k with
  |true=>trivial
  |false=>exact⟨h.1,Ul T k u (C.l k D).1 (C.l k D).2 h.2⟩
def eD.tr(T:Tr w w' aj aA ρ ρ' t c)(D:K.OK t c){cs:aa Lf}{us:Array Value}(h:eD w B aj ρ cs us):eD w' B aA ρ' (cs.map (Lf.cE K.l)) us:=by
 refine⟨by rw[eG];exact h.1,λj x C=>?_⟩
 rw[eF]at C;obtain⟨y,E,rfl⟩:=Option.map_eq_some_iff.1 C;obtain⟨u,L,r⟩:=h.2 j y E;exact⟨u,L,r.tr T D⟩
def RP.tr(T:Tr w w' aj aA ρ ρ' t c)(C:K.OK t c){p:Bool×aa Lf}{u:Value}(h:RP w B aj ρ p u):RP w' B aA ρ' (p.1,p.2.map (Lf.cE K.l)) u:=by
 obtain⟨b,cs⟩:=p;cases b with
 |true=>obtain⟨us,e,h⟩:=h;exact⟨us,e,h.tr T C⟩
 |false=>exact eD.tr T C h
def RF.tr(T:Tr w w' aj aA ρ ρ' t c){cs:aa V}{u:Value}(h:RF w B aj cs u):RF w' B aA cs u:=by
 obtain⟨b,off,e,C,E,h⟩:=h;obtain⟨L,O⟩:=T.no b C E
 refine⟨b,off,e,Nat.lt_of_lt_of_le C T.size,O,λj x U=>?_⟩
 obtain⟨D,v,Y,Z⟩:=h j x U;exact⟨D,v,(World.cell?_of_block (a:=⟨b,_,none⟩) L).trans Y,Z.tr T (.inl D)⟩
def RA.tr(T:Tr w w' aj aA ρ ρ' t c)(D:K.OK t c){x:A}{u:Value}(h:RA w B aj ρ x u):RA w' B aA ρ' (x.cE K) u:=by
 cases x with
 |undef=>trivial
 |skip=>exact h
 |lf x=>exact dU.tr T D h
 |agg cs=>exact RP.tr T D (p:=(true,cs)) h
 | eS xs=>
  obtain⟨us,e,L,h⟩:=h
  refine⟨us,e,by rw[eG];exact L,λj p E=>?_⟩
  rw[eF]at E;obtain⟨y,O,rfl⟩:=Option.map_eq_some_iff.1 E;obtain⟨v,U,r⟩:=h j y O;exact⟨v,U,r.tr T D⟩
 | ptr k=>
  simp only[A.cE];cases C:K.p k with
  |true=>trivial
  |false=>obtain⟨ad,e,h⟩:=h;exact⟨ad,e,Uk T k ad (D.p k C).1 (D.p k C).2 h⟩
 | view k s i j=>
  simp only[A.cE];cases C:K.p k with
  |true=>trivial
  |false=>obtain⟨A,n,c,h,g⟩:=h;exact⟨A,n,c,Ul T k _ (.inr (D.p k C).1) (D.p k C).2 h,g⟩
 | pk r n=>
  simp only[A.cE];cases C:K.r r with
  |true=>trivial
  |false=>obtain⟨b,e,h⟩:=h;exact⟨b,(T.eT r (D.r r C)).trans e,h⟩
 | aJ r j=>
  simp only[A.cE];cases C:K.r r with
  |true=>trivial
  |false=>obtain⟨b,off,e,h⟩:=h;exact⟨b,off,(T.eT r (D.r r C)).trans e,h⟩
 |iZ cs=>exact RF.tr T h
 |mQ f cs=>obtain⟨pv,e,h⟩:=h;exact⟨pv,e,h.tr T⟩
 | fn f cap=>
  simp only[A.cE];cases C:cap.any (λp=>K.r p.1)with
  |true=>trivial
  | false=>
   obtain⟨Y,e,L,h⟩:=h
   refine⟨Y,e,L,λj p E=>?_⟩
   obtain⟨b,off,Z,h2⟩:=h j p E;exact⟨b,off,(T.eT _ (D.r _ (by simpa using List.any_eq_false.1 C p (gN E)))).trans Z,h2⟩
def dY.tr(T:Tr w w' aj aA ρ ρ' t c)(Z:K.OK t c){r:Nat}{x:bg}(h:dY w B aj ρ r x)(D:t [r]=false)(L:c r=false):dY w' B aA ρ' r (x.cE K):=by
 cases h with
 | aC b off cells e cs us C E Y hs hc=>
  refine .aC b off cells e _ us ((T.eT r L).trans C) (T.so b _ E D).2 ((T.so b _ E D).1.trans Y) (by rw[eG];exact hs) (λj x O=>?_)
  rw[eF]at O;obtain⟨y,U,rfl⟩:=Option.map_eq_some_iff.1 O;exact⟨(hc j y U).1,(hc j y U).2.tr T Z⟩
 |sl v y C hr=>exact .sl v y ((T.eT r L).trans C) (hr.tr T (.inr D))
 |mp b clock es l C E Y he=>exact .mp b clock es l ((T.eT r L).trans C) (T.so b _ E D).2 ((T.so b _ E D).1.trans Y) he
 | gh us xs C O=>
  refine .gh us _ ((T.eT r L).trans C) (λj x hj=>?_)
  rw[eF]at hj;obtain⟨y,U,rfl⟩:=Option.map_eq_some_iff.1 hj;exact(O j y U).tr T Z
end
/-! Nothing is forgotten where old memory stays. -/
def Ng:mR:=⟨λ_=>false,λ_=>false,λ_=>false⟩
def A.GK(x:A):x.cE Ng=x:=by
 have h:∀cs:aa Lf,cs.all (Lf.fr Ng.l)=true:=λcs=>cw.2 λc _=>by cases c<;>rfl
 refine A.qy ?_;cases x with
 |lf x=>cases x<;>rfl
 |agg cs=>exact h cs
 |eS xs=>exact cw.2 λq _=>h q.2
 |fn f cap=>exact cw.2 λ_ _=>rfl
 |_=>rfl
def bg.GK(x:bg):x.cE Ng=x:=by
 cases x with
 |aC cs=>exact aY bg.aC (A.agg.inj (A.GK (.agg cs)))
 |gh xs=>exact aY bg.gh ((List.map_congr_left λx _=>A.GK x).trans (List.map_id xs))
 |_=>rfl
def Um(k:aa Nat):jj (λ_=>false) k=false:=by unfold jj;split<;>rfl
def abj:Ng.OK (λ_=>false) (λ_=>false):=⟨λk _=>⟨.inr rfl,Um k⟩,λk _=>⟨rfl,Um k⟩,λ_ _=>rfl⟩
def Tr.lu(O:w.heap.size<=w'.heap.size)(D:∀ b,b<w.heap.size->w'.heap[b]?=w.heap[b]?/\aA b=aj b)(E:∀ b k,aj b=some k->b<w.heap.size):Tr w w' aj aA ρ ρ (λ_=>false) (λ_=>false):=
 ⟨O,λb L C=>⟨(D b L).1,(D b L).2.trans C⟩,λb k C _=>⟨(D b (E b k C)).1,(D b (E b k C)).2.trans C⟩,λ_ _=>rfl,λ_ _ _ _ _=>rfl,λ_ _ _=>rfl⟩
def RA.lu{x:A}{u:Value}(h:RA w B aj ρ x u)(C:w.heap.size<=w'.heap.size)(D:∀ b,b<w.heap.size->w'.heap[b]?=w.heap[b]?/\aA b=aj b)(E:∀ b k,aj b=some k->b<w.heap.size):RA w' B aA ρ x u:=by
 have:=h.tr (.lu C D E) abj
 rwa [A.GK]at this
def dU.lu{x:Lf}{u:Value}(h:dU w B aj ρ x u)(C:w.heap.size<=w'.heap.size)(D:∀b,b<w.heap.size->w'.heap[b]?=w.heap[b]?/\aA b=aj b)(E:∀b k,aj b=some k->b<w.heap.size):dU w' B aA ρ x u:=RA.lu (x:=.lf x) h C D E
def eD.lu{cs:aa Lf}{us:Array Value}(h:eD w B aj ρ cs us)(C:w.heap.size<=w'.heap.size)(D:∀ b,b<w.heap.size->w'.heap[b]?=w.heap[b]?/\aA b=aj b)(E:∀ b k,aj b=some k->b<w.heap.size):eD w' B aA ρ cs us:=
 ⟨h.1,λj x L=>let ⟨u,hu,r⟩:=h.2 j x L;⟨u,hu,r.lu C D E⟩⟩
def dY.lu{r:Nat}{x:bg}(h:dY w B aj ρ r x)(C:w.heap.size<=w'.heap.size)(D:∀ b,b<w.heap.size->w'.heap[b]?=w.heap[b]?/\aA b=aj b)(E:∀ b k,aj b=some k->b<w.heap.size):dY w' B aA ρ r x:=by
 have:=h.tr (.lu C D E) abj rfl rfl
 rwa [bg.GK]at this
/-! A root's name is given anew. -/
def uX{d:Nat}{t:aa Nat->Bool}{c:Nat->Bool}(E:∀ k,cU d k=false->t k=false)(L:∀ r,r≠d->c r=false):(wN d).OK t c:=by
 have h:∀ k,cU d k=false->jj c k=false:=λk C=>by
  unfold jj;split
  next r D=>exact L r (by rintro rfl;simp[cU,D]at C)
  ·rfl
 exact⟨λk C=>⟨.inr (E k C),h k C⟩,λk C=>⟨E k C,h k C⟩,λr D=>L r (by rintro rfl;simp[wN]at D)⟩
def oC{d r:Nat}(h:r≠d):Nat.beq r d=false:=Bool.eq_false_iff.2 λe=>h (cD e)
def Tr.GL{d:Nat}(C:∀ r,r≠d->ρ' r=ρ r):Tr w w aj aj ρ ρ' (λ_=>false) (λr=>Nat.beq r d):=
 ⟨dM _,λ_ _ h=>⟨rfl,h⟩,λ_ _ h _=>⟨rfl,h⟩,λr D=>C r (by rintro rfl;simp at D),λ_ _ _ _ _=>rfl,λ_ _ _=>rfl⟩
def RP.eT{d:Nat}(C:∀r,r≠d->ρ' r=ρ r){p:Bool×aa Lf}{u:Value}(h:RP w B aj ρ p u):RP w B aj ρ' (p.1,p.2.map (Lf.drop d)) u:=h.tr (.GL C) (uX (λ_ _=>rfl) λ_=>oC)
def RA.eT{d:Nat}(C:∀r,r≠d->ρ' r=ρ r){x:A}{u:Value}(h:RA w B aj ρ x u):RA w B aj ρ' (x.drop d) u:=h.tr (.GL C) (uX (λ_ _=>rfl) λ_=>oC)
def eD.eT{d:Nat}(C:∀r,r≠d->ρ' r=ρ r){cs:aa Lf}{us:Array Value}(h:eD w B aj ρ cs us):eD w B aj ρ' (cs.map (Lf.drop d)) us:=h.tr (.GL C) (uX (λ_ _=>rfl) λ_=>oC)
def dU.eT{d:Nat}(C:∀r,r≠d->ρ' r=ρ r){x:Lf}{u:Value}(h:dU w B aj ρ x u):dU w B aj ρ' (x.drop d) u:=h.tr (.GL C) (uX (λ_ _=>rfl) λ_=>oC)
def dY.eT{d r:Nat}(C:∀r,r≠d->ρ' r=ρ r)(D:r≠d){x:bg}(h:dY w B aj ρ r x):dY w B aj ρ' r (x.drop d):=h.tr (.GL C) (uX (λ_ _=>rfl) λ_=>oC) rfl (oC D)
def cc{α:Type}(f:Nat->α)(d:Nat)(x:α):Nat->α:=λk=>bif Nat.beq k d then x else f k
def cm{α:Type}(f:Nat->α)(d:Nat)(x:α):cc f d x d=x:=by simp[cc]
def cM{α:Type}(f:Nat -> α)(d:Nat)(x:α){k:Nat}(h:k≠d):cc f d x k=f k:=by
 have:Nat.beq k d=false:=by
  cases C:Nat.beq k d with
  |false=>rfl
  |true=>simp_all
 simp[cc,this,aq]
def S.set(σ:S)(d:Nat)(x:A):S:={ σ with t:=cc σ.t d x }
def S.drop(σ:S)(d:Nat):S:=⟨λk=>(σ.t k).drop d,λr=>bif Nat.beq r d then none else (σ.m r).map (bg.drop d)⟩
def S.root(σ:S)(d:Nat)(x:bg):S:={ σ with m:=cc σ.m d (some x) }
def Rl.set{x:A}{v:Value}{d:Nat}(h:Rl w0 N aj ρ σ a w)(E:RA w w0.heap.size aj ρ x v)(D:d<N):Rl w0 N aj ρ (σ.set d x) (a.put (some d) v) w:=by
 refine⟨h.below,h.dg,h.root,λk=>?_,?_,h.defers,h.fix,h.dz⟩
 ·show RA w _ aj ρ (cc σ.t d x k) ((a.tmps.setIfInBounds d v).getD k undef);by_cases C:k=d
  ·subst C;rw[cm,ir,Array.getElem?_setIfInBounds_self];have:k<a.tmps.size:=by rw[h.size];exact D
   simp_all
  ·rw[cM _ _ _ C,ir,Array.getElem?_setIfInBounds_ne (Ne.symm C),<- ir];exact h.tmp k
 ·show (a.tmps.setIfInBounds d v).size=N;rw[Array.size_setIfInBounds];exact h.size
def Rl.grow(h:Rl w0 N aj ρ σ a w)(C:Below w.heap.size w w')(E:∀ b,b<w.heap.size -> aA b=aj b)(T:∀ b k,w.heap.size <= b -> aA b=some k -> b<w'.heap.size/\k≠[]):Rl w0 N aA ρ σ a w':=by
 have L:∀b,b<w.heap.size -> w'.heap[b]?=w.heap[b]?/\aA b=aj b:=λb O=>⟨C.block b O,E b O⟩
 refine⟨h.below.trans (.of C h.below.size),λb k D=>?_,λr x U=>(h.root r x U).lu C.size L (λb k C=>(h.dg b k C).2.1),λk=>(h.tmp k).lu C.size L (λb k C=>(h.dg b k C).2.1),h.size,h.defers,h.fix,h.dz⟩
 rcases Nat.lt_or_ge b _ with Y|oD
 ·rw[E b Y]at D;have:=h.dg b k D
  grind
 ·have:=T b k oD D;exact⟨.inl (Nat.le_trans h.below.size oD),this.1,this.2⟩
def Rl.new{d:Nat}{x:bg}(h:Rl w0 N aj ρ σ a w)(l:Loc)(U:dY w w0.heap.size aj (cc ρ d l) d x)(O:w0.F d=none):Rl w0 N aj (cc ρ d l) ((σ.drop d).root d x) a w:=by
 have E:∀r,r≠d -> cc ρ d l r=ρ r:=λr D=>cM _ _ _ D
 refine⟨h.below,h.dg,λr y C=>?_,λk=>(h.tmp k).eT E,h.size,h.defers,λr T D=>(E r (by rintro rfl;rw[O]at D;cases D)).trans (h.fix r T D),h.dz⟩
 by_cases D:r=d
 ·subst D;have e:(cc (σ.drop r).m r _) r=some x:=cm _ _ _;have C:(cc (σ.drop r).m r _) r=some y:=C;simp_all
 ·have C:(cc (σ.drop d).m d _) r=some y:=C;rw[cM _ _ _ D]at C;have L:Nat.beq r d=false:=by
   cases L:Nat.beq r d with
   |false=>rfl
   |true=>simp_all
  simp only[S.drop,L,aq]at C;cases hm:σ.m r with
  |none=>simp_all
  | some z=>
   rw[hm]at C;injection C with C;subst C;exact(h.root r z hm).eT E D
end
def splice{α:Type}(l:aa α)(j:Nat)(xs:aa α):aa α:=l.take j++xs++l.drop (j+xs.length)
def sU{α:Type}(l:aa α)(j:Nat)(xs:aa α)(h:j+xs.length<=l.length):(splice l j xs).length=l.length:=by
 simp[splice];omega
def wO{α:Type}(l:aa α)(j:Nat)(xs:aa α)(h:j+xs.length <= l.length)(n:Nat):
  (splice l j xs)[n]?=if n<j then l[n]? else if n<j+xs.length then xs[n-j]? else l[n]?:=by
 unfold splice
 grind
structure uY (w w':World) (bt:Nat):Prop where
 size:w'.heap.size=w.heap.size
 os:w'.os=w.os
 tape:w'.tape=w.tape
 output:w'.output=w.output
 block:∀k,k≠bt->w'.heap[k]?=w.heap[k]?
def Nh(w:World)(b o:Nat)(l:aa Value):uY w (w.setCells b o l) b:=by
 have g:=abb b l o w;have s:=aba b l o w
 refine⟨s,g.os,g.tape,g.output,λk C=>?_⟩
 rcases Nat.lt_or_ge k _ with D|oD
 ·exact g.block k D (by intro e;injection e with e;exact C e)
 ·simp_all
section
variable {w w':World} {w0:Wd} {B N:Nat} {aj:bG} {ρ:Nat->Loc} {m m':Nat->ah bg} {σ:S} {a:Act} {bt:Nat} {kt:aa Nat}
def qA(w w':World)(aj:bG)(ρ:Nat->Loc):Prop:=∀k ad v,addrAt w aj ρ k=some ad->w.cell? ad=some v->mP v=true->w'.cell? ad=some v
def Un(D:qA w w' aj ρ):∀ (k:aa Nat) (ad:Addr),addrAt w aj ρ k=some ad -> addrAt w' aj ρ k=some ad
 |[],_,h=>h
 |[_],_,h=>h
 |[_,_],_,h=>h
 |[j,i,s,r],_,h=>by simp only[addrAt]at h ⊢;exact h
 | j :: i :: s :: x :: y :: q,ad,h=>by
  simp only[addrAt]at h ⊢;cases C:addrAt w aj ρ (x::y::q)with
  |none=>simp_all
  | some L=>
   rw[Un D _ _ C];rw[C]at h;cases E:w.cell? L with
   |none=>simp_all
   | some v=>
    simp only[Option.bind_some,E]at h;have O:mP v=true:=by
     split at h
     next e=>injection e with e;subst e;rfl
     ·cases h
    simp only[Option.bind_some,D _ _ _ C E O];exact h
def abk(D:qA w w' aj ρ)(k:aa Nat)(u:Value)(E:mP u=true)(h:c8 w aj ρ k=some u):c8 w' aj ρ k=some u:=by
 match k,h with
 |[r],h=>exact h
 | x :: y :: q,h=>
  simp[c8]at h ⊢;cases C:addrAt w aj ρ _ with
  |none=>rw[C]at h;cases h
  | some ad=>
   rw[Un D _ _ C];rw[C]at h;exact D _ _ _ C h E
def dU.wrote{x:Lf}{u:Value}(h:dU w B aj ρ x u)(C:uY w w' bt)(D:aj bt=some kt)(E:qA w w' aj ρ):dU w' B aj ρ x u:=by
 cases x with
 |v x=>exact⟨h.1,h.2.apart D (.inr h.1) (Nat.le_of_eq C.size.symm) C.block⟩
 |own k=>exact⟨h.1,abk E k u h.1 h.2⟩
 |dead=>trivial
def eD.wrote{cs:aa Lf}{us:Array Value}(h:eD w B aj ρ cs us)(C:uY w w' bt)(D:aj bt=some kt)(E:qA w w' aj ρ):eD w' B aj ρ cs us:=
 ⟨h.1,λj x L=>let ⟨u,hu,r⟩:=h.2 j x L;⟨u,hu,r.wrote C D E⟩⟩
def RP.wrote{p:Bool×aa Lf}{u:Value}(h:RP w B aj ρ p u)(C:uY w w' bt)(D:aj bt=some kt)(E:qA w w' aj ρ):RP w' B aj ρ p u:=by
 obtain⟨b,cs⟩:=p;cases b with
 |true=>obtain⟨us,e,h⟩:=h;exact⟨us,e,h.wrote C D E⟩
 |false=>exact eD.wrote h C D E
def RF.wrote{cs:aa V}{u:Value}(h:RF w B aj cs u)(C:uY w w' bt)(E:aj bt=some kt):RF w' B aj cs u:=by
 obtain⟨b,off,e,O,D,h⟩:=h;have T:b≠bt:=by rintro rfl;rw[E]at D;cases D
 refine⟨b,off,e,by rw[C.size];exact O,D,λj x U=>?_⟩
 obtain⟨L,v,Y,Z⟩:=h j x U;exact⟨L,v,(World.cell?_of_block (C.block b T)).trans Y,Z.apart E (.inr L) (Nat.le_of_eq C.size.symm) C.block⟩
def RA.wrote{x:A}{u:Value}(h:RA w B aj ρ x u)(C:uY w w' bt)(D:aj bt=some kt)(E:qA w w' aj ρ):RA w' B aj ρ x u:=by
 cases x with
 |undef=>trivial
 |skip=>exact h
 |lf x=>exact dU.wrote h C D E
 |agg cs=>exact RP.wrote (p:=(true,cs)) h C D E
 |eS xs=>obtain⟨us,e,L,h⟩:=h;exact⟨us,e,L,λj p O=>let ⟨v,T,r⟩:=h j p O;⟨v,T,r.wrote C D E⟩⟩
 |ptr k=>obtain⟨ad,e,h⟩:=h;exact⟨ad,e,Un E _ _ h⟩
 |view k s i j=>obtain⟨A,n,c,h,g⟩:=h;exact⟨A,n,c,abk E k _ rfl h,g⟩
 |pk r n=>exact h
 |aJ r j=>exact h
 |iZ cs=>exact RF.wrote h C D
 |mQ f cs=>obtain⟨pv,e,h⟩:=h;exact⟨pv,e,h.wrote C D⟩
 |fn f cap=>exact h
def dY.wrote{r:Nat}{x:bg}(h:dY w B aj ρ r x)(E:uY w w' bt)(L:aj bt=some kt)(Z:qA w w' aj ρ)(T:¬ [r] <:+ kt):dY w' B aj ρ r x:=by
 cases h with
 | aC b off cells e cs us D C U hs hc=>
  have Y:b≠bt:=by rintro rfl;rw[L]at C;injection C with C;subst C;exact T (List.suffix_refl _)
  exact .aC b off cells e cs us D C ((E.block b Y).trans U) hs (λj x O=>⟨(hc j x O).1,(hc j x O).2.wrote E L Z⟩)
 |sl v y D fl=>exact .sl v y D (fl.apart L (.inl T) (Nat.le_of_eq E.size.symm) E.block)
 | mp b c es l D C U he=>
  have Y:b≠bt:=by rintro rfl;rw[L]at C;injection C with C;subst C;exact T (List.suffix_refl _)
  exact .mp b c es l D C ((E.block b Y).trans U) he
 |gh us xs D O=>exact .gh us xs D λj x hj=>(O j x hj).wrote E L Z
def Rl.wrote(h:Rl w0 N aj ρ σ a w)(C:uY w w' bt)(D:aj bt=some kt)(T:qA w w' aj ρ)(U:∀ r x,m' r=some x -> dY w' w0.heap.size aj ρ r x):Rl w0 N aj ρ ⟨σ.t,m'⟩ a w':=by
 have hb:=(h.dg bt kt D).1;have Y:∀ k,k<w0.heap.size -> w0.L k=none -> k≠bt:=by
  grind
 refine⟨⟨C.os.trans h.below.os,C.tape.trans h.below.tape,C.output.trans h.below.output,by rw[C.size];exact h.below.size,λk E O=>(C.block k (Y k E O)).trans (h.below.block k E O)⟩,λb k Z=>?_,U,λk=>(h.tmp k).wrote C D T,h.size,h.defers,h.fix,h.dz⟩
 rw[C.size];exact h.dg b k Z
def abl{r C:Nat}(h:C≠r):¬ [C] <:+ [r]:=by
 intro D;have:=D.eq_of_length rfl;simp_all
def Rl.GM{r j:Nat}{cs xs:aa Lf}{us:Array Value}(h:Rl w0 N aj ρ σ a w)(hm:σ.m r=some (.aC cs))(hx:eD w w0.heap.size aj ρ xs us)(hj:j+xs.length <= cs.length):
  ∃b off,ρ r = .aC b off/\w.there b (off+j) us.size/\Rl w0 N aj ρ ⟨σ.t,cc σ.m r (some (.aC (splice cs j xs)))⟩ a (w.setCells b (off+j) us.toList):=by
 have U:=h.root r _ hm;generalize D:bg.aC cs=x at U;cases U with
 |sl=>cases D
 |mp=>cases D
 |gh=>cases D
 | aC b off cells e eA u cz E Z hs hc=>
  injection D with D;subst D;have hlen:us.size=xs.length:=hx.1;have lz:off+j+us.toList.length <= cells.size:=by rw[kY,hlen];omega
  have L:=Nh w b (off+j) us.toList;obtain⟨Y,gJ,pI⟩:=GC b e us.toList (off+j) w cells Z lz;have T:qA w (w.setCells b (off+j) us.toList) aj ρ:=by
   intro k ad v ha hv fW;obtain⟨j',i',s',q,rfl,hq,_,_,hh'⟩:=Ba k ad ha;have dc:ad.block≠b:=by
    intro e
    grind
   exact(World.cell?_of_block (L.block _ dc)).trans hv
  refine⟨b,off,cz,λn hn=>⟨?_,frozen_of_row w b _ cells e Z⟩,h.wrote L E T λr' y O=>?_⟩
  ·rw[cell_of_row w b _ cells e _ Z];simp;omega
  ·by_cases mS:r'=r
   ·subst mS;rw[cm]at O;injection O with O;subst O
    refine .aC b off Y e _ (λn=>if n<j then u n else if n<j+xs.length then us.getD (n-j) undef else u n) cz E gJ ?_ λn x C=>?_
    ·rw[sU _ _ _ hj,<- kY,pI]
     grind
    ·have e2:Y[off+n]?=(splice cells.toList (off+j) us.toList)[off+n]?:=by
      rw[show Y[off+n]?=Y.toList[off+n]? by simp,pI];rfl
     rw[e2,wO _ _ _ (by simpa using lz)];rw[wO _ _ _ hj]at C;by_cases h1:n<j
     ·rw[bL];simp only[h1]at C ⊢;refine⟨?_,(hc n x C).2.wrote L E T⟩;simp_all
     ·by_cases h2:n<j+xs.length
      ·rw[bX,bL (by rw[kY,hlen];omega)];simp only[h1,h2,if_true,if_false]at C ⊢;obtain⟨v,hv,U⟩:=hx.2 (n-j) x C;have hg:us.getD (n-j) undef=v:=by rw[ir,hv];rfl
       rw[hg];refine⟨?_,U.wrote L E T⟩
       grind
      ·rw[bX,bX (by rw[kY];omega)];simp only[h1,h2]at C ⊢;refine⟨?_,(hc n x C).2.wrote L E T⟩
       grind
   ·rw[cM _ _ _ mS]at O;exact(h.root r' y O).wrote L E T (abl mS)
inductive yM (m:Nat->Option bg):List Nat->V->(Nat->Option bg)->Prop
 |root (r:Nat) (y0 y:V) (h:m r=some (.sl y0)):yM m [r] y (cc m r (some (.sl y)))
 | elem (j i:Nat) (q:List Nat) (t:TC) (o:Nat) (qn:Bool) (l:List (T t)) (y:V) (e:T t) (m':Nat->Option bg) (h:wM m q (.sl t (o+2) qn l)) (hi:i<l.length) (hj:j<aD t)
   (hd:dec t o (splice (enc t o l[i]) j [y])=some e) (hp:yM m q (.sl t (o+2) qn (l.set i e)) m'):yM m (j::i::aD t::q) y m'
def Uo{α:Type}{a b c:aa α}(D:a <:+ c)(E:b <:+ c)(h:a.length=b.length):a=b:=by
 obtain⟨x,L⟩:=D;obtain⟨y,C⟩:=E;rw[<-L]at C;exact((List.append_inj' C h.symm).2).symm
def RV.Ni{q:aa Nat}{t:TC}{o:Nat}{Y:Bool}{l:aa (T t)}{i j:Nat}{xs:aa V}{e:T t}{b cap:Nat}{cs eA:Array Value}{u us:Nat -> Nat -> Value}
  (hl:aj b=some q) (hh:w'.heap[b]?=some (.cells eA (tid t) (0,0))) (hs:eA.size=cap*aD t) (hn:l.length <= cap) (hm:cap <= maxLen/\(Y=true -> cap=l.length)) (hi:i<l.length) (hj:j+xs.length <= aD t)
  (hd:dec t o (splice (enc t o l[i]) j xs)=some e)
  (hc:∀D (h:D<l.length) (C:Nat) x,(enc t o l[D])[C]?=some x -> ¬ (D=i/\j <= C/\C<j+xs.length) -> eA[D*aD t+C]?=some (u D C)/\RV w' B aj (C::D::aD t::q) x (u D C))
  (hx:∀(n:Nat) x,xs[n]?=some x -> eA[i*aD t+(j+n)]?=some (us i (j+n))/\RV w' B aj ((j+n)::i::aD t::q) x (us i (j+n))):
  RV w' B aj q (.sl t (o+2) Y (l.set i e)) (.slice (some ⟨b,0,none⟩) l.length cap):=by
 have hlen:(l.set i e).length=l.length:=gz;have key:∀ D (h:D<(l.set i e).length) (C:Nat) x,(enc t o (l.set i e)[D])[C]?=some x ->
   ∃v,eA[D*aD t+C]?=some v/\RV w' B aj (C::D::aD t::q) x v:=by
  intro D h C x L;rw[List.getElem_set]at L;by_cases hii:i=D
  ·subst hii;rw[bL rfl]at L;have hk:=lV t o _ e hd;have nO:C<(enc t o e).length:=(dQ.1 L).1;rw[<- hk.1]at nO;have E:=bZ nO;generalize (splice (enc t o l[i]) j xs)[C]=y at E;have Z:=hk.2 C y x E L;rw[wO _ _ _ (by rw[ko];exact hj)]at E;by_cases h1:C<j
   ·rw[bL h1]at E;obtain⟨O,U⟩:=hc i hi C y E (by omega);exact⟨_,O,U.wk Z⟩
   ·by_cases h2:C<j+xs.length
    ·rw[bX h1,bL h2]at E;obtain⟨O,U⟩:=hx _ y E;rw[show j+(C-j)=C by omega]at O U;exact⟨_,O,U.wk Z⟩
    ·rw[bX h1,bX h2]at E;obtain⟨O,U⟩:=hc i hi C y E (by omega);exact⟨_,O,U.wk Z⟩
  ·grind
 rw[<- hlen]
 refine .own q t o Y (l.set i e) b cap eA (λD C=>(eA[D*aD t+C]?).getD undef) hl hh hs (by rw[hlen];exact hn) ⟨hm.1,λh=>by rw[hlen];exact hm.2 h⟩ (λD h C x L=>?_) (λD h C x L=>?_)
 ·grind
 ·obtain⟨v,hv,hr⟩:=key D h C x L;simp_all
def abm{r:Nat}{q:aa Nat}(h:[r] <:+ q){C:Nat}(D:[C] <:+ q):C=r:=by
 have:=Uo D h rfl;injection this
def yM.ok{q:aa Nat}{y:V}(h:yM m q y m')(hm:∀ r x,m r=some x -> dY w B aj ρ r x)(T:uY w w' bt)(Y:aj bt=some kt)(U:q <:+ kt)(hC:qA w w' aj ρ){L:Value}(D:c8 w aj ρ q=some L)(hy:RV w' B aj q y L):
  ∀r x,m' r=some x -> dY w' B aj ρ r x:=by
 induction h generalizing L with
 | root r y0 y h=>
  intro Z x C;by_cases O:Z=r
  ·subst O;rw[cm]at C;injection C with C;subst C;simp only[c8]at D;cases cz:ρ Z with
   |aC b off=>grind
   |bY us=>grind
   | dX v=>
    rw[cz]at D;injection D with D;subst D;exact .sl v y cz hy
  ·rw[cM _ _ _ O]at C;exact(hm Z x C).wrote T Y hC (λhs=>O (abm U hs))
 | elem j i q t o qn l y e m' h hi hj hd hp ih=>
  obtain⟨sV,Bc,fl⟩:=h.ok hm;have hqk:q <:+ kt:=List.IsSuffix.trans ⟨[j,i,aD t],rfl⟩ U;cases fl with
  |ep=>simp at hi
  |fA=>simp at hi
  |fK=>simp at hi
  |aF _ _ _ _ _ _ _ _ _ ho=>omega
  | own _ _ _ _ _ b cap cs us E hh hs hn rK hc O=>
   have dc:b≠bt:=by
    rintro rfl;rw[Y]at E;injection E with E;subst E;have:=U.length_le
    grind
   have hz:=Nat.le_of_eq T.size.symm
   refine ih hqk Bc (RV.Ni (us:=λ_ _=>L) (u:=us) (cs:=cs) (xs:=[y]) E ((T.block b dc).trans hh) hs hn rK hi (show j+1 <= aD t from hj) hd (λi' h' j' x C Nj=>⟨hc i' h' j' x C,(O i' h' j' x C).apart Y (.inl λoE=>Nj ?_) hz T.block⟩) (λn x C=>?_))
   ·have:=Uo oE U rfl
    grind
   ·cases n with
    |succ n=>simp at C
    | zero=>
     simp at C;subst C;refine⟨?_,hy⟩;rw[Nd,A9 j i _ Bc E]at D;have D:w.cell? ⟨b,i*aD t+j,none⟩=some L:=D;rw[cell_of_row w b _ cs _ _ hh]at D;exact D
def RV.abn{q:aa Nat}{x:V}{v:Value}(h:RV w B aj q x v)(C:x.plain=true):mP v=false:=by
 cases h<;>first|rfl|cases C
def RV.sW{q C:aa Nat}{x:V}{v:Value}{B':Nat}{aA:bG}(h:RV w B aj q x v)(D:x.plain=true):RV w' B' aA C x v:=by
 cases h<;>first|exact .int _ _ _|exact .bool _ _|exact .str _ _|cases D
def Rl.ant{j i:Nat}{q:aa Nat}{t:TC}{o:Nat}{qn:Bool}{l:aa (T t)}{xs:aa V}{us:Array Value}{e:T t}(h:Rl w0 N aj ρ σ a w)(hg:wM σ.m q (.sl t (o+2) qn l))(hi:i<l.length)(hj:j+xs.length <= aD t)
  (hd:dec t o (splice (enc t o l[i]) j xs)=some e) (hold:∀(n:Nat) x,n<xs.length -> (enc t o l[i])[j+n]?=some x -> x.plain=true) (hxp:∀x∈xs,x.plain=true) (kr:us.size=xs.length) (hx:∀(n:Nat) x,xs[n]?=some x -> ∃u,us[n]?=some u/\RV w w0.heap.size aj [] x u)
  (hp:yM σ.m q (.sl t (o+2) qn (l.set i e)) m'):
  ∃b,addrAt w aj ρ (j::i::aD t::q)=some ⟨b,i*aD t+j,none⟩/\w.there b (i*aD t+j) us.size/\Rl w0 N aj ρ ⟨σ.t,m'⟩ a (w.setCells b (i*aD t+j) us.toList):=by
 obtain⟨sV,Bc,fl⟩:=hg.ok h.root;cases fl with
 |ep=>simp at hi
 |fA=>simp at hi
 |fK=>simp at hi
 |aF _ _ _ _ _ _ _ _ _ ho=>omega
 | own _ _ _ _ _ b cap cs u U hh hs hn rK hc hr=>
  have wP:i*aD t+aD t <= cap*aD t:=by
   have:(i+1)*aD t <= cap*aD t:=jD _ (by omega);rw[Nat.succ_mul]at this;exact this
  have lz:i*aD t+j+us.toList.length <= cs.size:=by rw[kY,kr,hs];omega
  have Y:=Nh w b (i*aD t+j) us.toList;obtain⟨O,gJ,pI⟩:=GC b (tid t) us.toList (i*aD t+j) w cs hh lz;have sX:∀ n,O[n]?=if n<i*aD t+j then cs[n]? else if n<i*aD t+j+xs.length then us[n-(i*aD t+j)]? else cs[n]?:=by
   intro n;have e2:O[n]?=(splice cs.toList (i*aD t+j) us.toList)[n]?:=by
    rw[show O[n]?=O.toList[n]? by simp,pI];rfl
   rw[e2,wO _ _ _ (by simpa using lz),kY,kr];simp
  have GN:O.size=cs.size:=by
   rw[<- kY,pI];have:=sU cs.toList _ us.toList (by simpa using lz)
   grind
  have hC:qA w (w.setCells b (i*aD t+j) us.toList) aj ρ:=by
   intro k ad v ha D fW;by_cases dc:ad.block=b
   ·obtain⟨L,C,s',q',rfl,Bb,anu,uZ,_⟩:=Ba k ad ha;have oF:ad=⟨b,ad.off,none⟩:=by cases ad;simp_all
    rw[oF,cell_of_row w b _ cs _ _ hh]at D;rw[oF,cell_of_row _ b _ O _ _ gJ,sX];by_cases h1:ad.off<i*aD t+j
    ·rw[bL h1];exact D
    ·by_cases h2:ad.off<i*aD t+j+xs.length
     ·exfalso;have hjs:ad.off-(i*aD t+j)<xs.length:=by omega
      have Bd:j+(ad.off-(i*aD t+j))<(enc t o l[i]).length:=by rw[ko];omega
      have hy:=bZ Bd;generalize (enc t o l[i])[j+(ad.off-(i*aD t+j))]=y at hy;have rL:=hold _ y hjs hy;have Z:=hc i hi _ y hy;rw[show i*aD t+(j+(ad.off-(i*aD t+j)))=ad.off by omega]at Z;rw[D]at Z;injection Z with Z;have:=(hr i hi _ y hy).abn rL;rw[<- Z,fW]at this;cases this
     ·rw[bX h1,bX h2];exact D
   ·exact(World.cell?_of_block (Y.block _ dc)).trans D
  refine⟨b,A9 j i (aD t) Bc U,λn pJ=>⟨?_,frozen_of_row w b _ cs _ hh⟩,h.wrote Y U hC (hp.ok h.root Y U (List.suffix_refl _) hC Bc ?_)⟩
  ·rw[cell_of_row w b _ cs _ _ hh];simp;omega
  ·refine RV.Ni (u:=u) (us:=λ_ n=>us.getD (n-j) undef) (cs:=cs) (xs:=xs) U gJ (GN.trans hs) hn rK hi hj hd (λC h' L x E Nj=>?_) (λn x E=>?_)
   ·have nO:L<aD t:=by have:=(dQ.1 E).1;rwa [ko]at this
    refine⟨?_,(hr C h' L x E).apart U (.inl λoE=>?_) (Nat.le_of_eq Y.size.symm) Y.block⟩
    ·rw[sX];have GO:¬ (¬ C*aD t+L<i*aD t+j/\C*aD t+L<i*aD t+j+xs.length):=by
      rintro⟨h1,h2⟩;rcases Nat.lt_trichotomy C i with dA|heq|DN
      ·have:(C+1)*aD t <= i*aD t:=jD _ dA;rw[Nat.succ_mul]at this;omega
      ·subst heq
       grind
      ·have:(i+1)*aD t <= C*aD t:=jD _ DN;rw[Nat.succ_mul]at this;omega
     split
     ·exact hc C h' L x E
     ·rw[bX];exact hc C h' L x E
    ·have:=oE.length_le;simp at this;omega
   ·obtain⟨v,D,DO⟩:=hx n x E;have pJ:n<xs.length:=(dQ.1 E).1;have yN:us.getD (j+n-j) undef=v:=by rw[show j+n-j=n by omega,ir,D];rfl
    rw[yN,sX,bX,bL];refine⟨?_,DO.sW (hxp x (gN E))⟩;rw[show i*aD t+(j+n)-(i*aD t+j)=n by omega];exact D
end
def Up:Value->A
 |.bool b=>.lf (.v (.bool b))
 |.int k n=>.lf (.v (.int k n))
 |.string s=>.lf (.v (.str s))
 |.slice none 0 0=>.lf (.v .nil)
 |_=>.undef
def aK(σ:S):Operand->A
 |.tmp t=>σ.t t
 |.const v=>Up v
 |.func f=>.fn f []
 |.global _=>.undef
def gX{X:Type}(N:Nat)(σ:S)(C:ah Tmp)(x:A)(k:S->ah X):ah X:=
 match C with
 |none=>k σ
 |some d=>bif Nat.blt d N then k (σ.set d x)else none
def lA(P:Program)(w0:Wd)(N:Nat)(o:Oper)(σ D:S):Prop:=
 ∀a w K Q,R w0 N σ a w->(∀C w',R w0 N D C w'->K C w')->o.wp P a w K Q
section
variable {P:Program} {w:World} {w0:Wd} {B N:Nat} {aj:bG} {ρ:Nat->Loc} {σ:S} {a:Act} {X:Type} {r:X} {k:S->ah X} {o:Oper}
def anv(v:Value):RA w B aj ρ (Up v) v:=by
 unfold Up;split
 ·exact⟨rfl,.bool _ _⟩
 ·exact⟨rfl,.int _ _ _⟩
 ·exact⟨rfl,.str _ _⟩
 ·exact⟨rfl,.nil _⟩
 ·trivial
def Rl.aK(h:Rl w0 N aj ρ σ a w)(x:Operand):RA w w0.heap.size aj ρ (aK σ x) (a.eval x):=by
 cases x with
 |tmp t=>exact h.tmp t
 |const v=>exact anv v
 |func f=>exact⟨#[],rfl,rfl,by simp⟩
 |global g=>trivial
def lA.val{x:A}(C:gX N σ o.dst x k=some r)(h:∀ aj ρ a w,Rl w0 N aj ρ σ a w -> ∃ v,(execOp a.eval o).run P w = .ok (.value v) w/\RA w w0.heap.size aj ρ x v):∃ U,k U=some r/\lA P w0 N o σ U:=by
 unfold gX at C;split at C
 ·rename_i E
  refine⟨σ,C,λa w K Q L O=>?_⟩
  obtain⟨aj,ρ,D⟩:=L;obtain⟨v,T,Y⟩:=h aj ρ a w D;unfold Oper.wp;rw[T,Oper.upon_value,E];exact O _ _ ⟨aj,ρ,D⟩
 ·rename_i d E;cases Z:Nat.blt d N with
  |false=>simp_all
  | true=>
   rw[Z]at C
   refine⟨_,C,λa w K Q L O=>?_⟩
   obtain⟨aj,ρ,D⟩:=L;obtain⟨v,T,Y⟩:=h aj ρ a w D;unfold Oper.wp;rw[T,Oper.upon_value,E];exact O _ _ ⟨aj,ρ,D.set Y (by have:=cQ Z;omega)⟩
/-! What does the same whatever comes behind. -/
def lW{α:Type}(f:(X:Type)->(α->ah X)->ah X)(y:α):Prop:=∀(X:Type) (k:α->ah X),f X k=k y
def lW.at_{α:Type}{f:(X:Type)->(α->ah X)->ah X}{y:α}(h:lW f y){X:Type}(k:α->ah X):f X k=k y:=h X k
def cL{α:Type}(f:(X:Type)->(α->ah X)->ah X):Prop:=∀(X Y:Type) (k:α->ah X) (g:X->ah Y),(f X k).bind g=f Y λy=>(k y).bind g
def cL.mT{α:Type}{f:(X:Type)->(α->ah X)->ah X}(n:cL f){X:Type}{k:α->ah X}{r:X}(h:f X k=some r):∃ y,k y=some r/\lW f y:=by
 have e:∀(Y:Type) (k:α->ah Y),f Y k=(f α some).bind k:=λY k=>(n α Y some k).symm
 rw[e]at h;cases C:f α some with
 |none=>rw[C]at h;cases h
 |some y=>rw[C]at h;exact⟨y,h,λX k=>by rw[e,C];rfl⟩
def cL.comp{α β:Type}{f:(X:Type)->(α->ah X)->ah X}{b:(X:Type)->(β->ah X)->α->ah X}(n:cL f)(m:∀y,cL λX k=>b X k y):cL λX k=>f X (b X k):=λX Y k g=>(n X Y _ g).trans (aY _ (funext λy=>m y X Y k g))
def dj{X Y:Type}{b:Bool}{x y:ah X}{C D:ah Y}{g:X->ah Y}(E:x.bind g=C)(L:y.bind g=D):(bif b then x else y).bind g=bif b then C else D:=by
 cases b
 ·exact L
 ·exact E
/-! Contents of leaves. -/
def jb{X:Type}(m:Nat->ah bg):aa Nat->(V->ah X)->ah X
 | [r],k=>match m r with
  |some (.sl y)=>k y
  |_=>none
 | j :: i :: s :: q,k=>jb m q λy=>match y with
  |.sl t (o+2) _ l=>if s=aD t then (if h:i<l.length then (match (enc t o l[i])[j]? with|some z=>k z|none=>none)else none)else none
  |_=>none
 |_,_=>none
def rM{m:Nat -> ah bg}:∀ (q:aa Nat) (k:V -> ah X),jb m q k=some r -> ∃ y,wM m q y/\k y=some r
 |[],_,h=>by simp[jb]at h
 | [x],k,h=>by
  simp only[jb]at h;split at h
  next y D=>exact⟨y,.root x y D,h⟩
  ·cases h
 | j :: i :: s :: q,k,h=>by
  obtain⟨y,D,C⟩:=rM q _ h;clear h;split at C
  ·split at C
   ·rename_i E;subst E;split at C
    ·rename_i hi;split at C
     next z L=>exact⟨z,.elem j i q _ _ _ _ z D hi L,C⟩
     ·cases C
    ·cases C
   ·cases C
  ·cases C
def oG{X:Type}(σ:S)(x:Lf)(k:V->ah X):ah X:=
 match x with
 |.v y=>k y
 |.own q=>jb σ.m q k
 |.dead=>none
def RV.part{q:aa Nat}{C:TC}{g:Nat}{Y:Bool}{xs:aa (T C)}{A:ah Addr}{n c a h:Nat}(O:RV w B aj q (.sl C g Y xs) (.slice A n c))(L:g<2)(h1:a <= h)(D:h <= xs.length):RV w B aj q (.sl C g false ((xs.take h).drop a)) (sliced A a h c (aD C))/\n=xs.length/\xs.length <= c:=by
 have hlen:((xs.take h).drop a).length=h-a:=by simp;omega
 cases O with
 | ep=>
  have:a=0:=by simp at D;omega
  have:h=0:=by simpa using D
  subst_vars
  exact⟨.ep _ _ _,rfl,dM _⟩
 | fA=>
  have:h=0:=by simpa using D
  subst this;have:a=0:=by omega
  subst this;exact⟨by unfold sliced;split<;>exact .fA _ _ _ _ _ L,rfl,Nat.zero_le _⟩
 | fK=>
  have:h=0:=by simpa using D
  subst this;have:a=0:=by omega
  subst this;exact⟨by unfold sliced;split<;>exact .fA _ _ _ _ _ L,rfl,Nat.zero_le _⟩
 |own=>omega
 | aF _ _ _ _ _ b off cap u Z hl hb hB iJ hc O=>
  refine⟨?_,rfl,iJ⟩;by_cases he:a=h
  ·subst he;have e0:=List.eq_nil_of_length_eq_zero (by rw[hlen];omega);rw[e0];unfold sliced;rw[Nat.sub_self];split<;>exact .fA _ _ _ _ _ L
  ·unfold sliced;rw[bX,<- hlen];have M8:(some (⟨b,off,none⟩:Addr)).map (·.add (a*aD C))=some ⟨b,off+a*aD C,none⟩:=by
    simp;unfold Addr.add;simp_all
   rw[M8];have U:∀ i (hi:i<((xs.take h).drop a).length),((xs.take h).drop a)[i]=xs[a+i]'(by omega):=by
    intro i hi;simp_all
   refine .aF _ _ _ _ _ b (off+a*aD C) (c-a) (λi j=>u (a+i) j) Z hl hb hB (by omega) (λi hi j x E=>?_) (λi hi j x E=>?_)
   ·rw[U]at E;have:=hc _ _ j x E
    grind
   ·rw[U i]at E
    grind
def abo(s i j:Nat):V->ah V
 |.sl t _ _ l=>bif Nat.beq s (aD t)then some (.sl t 0 false ((l.take j).drop i))else none
 |_=>none
def va{X:Type}(σ:S)(q:aa Nat)(s i j:Nat)(k:V->ah X):ah X:=
 jb σ.m q λy=>match abo s i j y with
  |some z=>k z
  |none=>none
def rN{X:Type}(σ:S)(y:A)(k:V->ah X):ah X:=
 match y with
 |.lf l=>oG σ l k
 |.view q s i j=>va σ q s i j k
 |_=>none
def abp{q:aa Nat}{s i j:Nat}{k:V -> ah X}(h:va σ q s i j k=some r):∃ z,k z=some r/\z.aF=true /\ ∀ w0 N aj ρ a w,Rl w0 N aj ρ σ a w -> ∀ u,RA w w0.heap.size aj ρ (.view q s i j) u -> ∀ B',RV w B' (λ_=>none) [] z u:=by
 obtain⟨y,T,E⟩:=rM q _ h;clear h;split at E
 ·rename_i z C;unfold abo at C;split at C
  ·rename_i t g U l;cases L:Nat.beq s (aD t)with
   |false=>simp_all
   | true=>
    rw[L,au]at C;obtain rfl:=cD L;injection C with C;subst C
    refine⟨_,E,rfl,λw0 N aj ρ a w Y u Z B'=>?_⟩
    obtain⟨A,n,c,hv,h1,h3,rfl⟩:=Z;obtain⟨v,D,hr⟩:=T.ok Y.root;rw[hv]at D;injection D with D;subst D;have O:RV w B' (λ_=>none) [] (.sl t 0 U l) (.slice A n c):=hr.gn;have hn:n=l.length:=by cases O<;>rfl
    exact(O.part (by omega) h1 (by omega)).1
  ·cases C
 ·cases E
def vK{X:Type}(x:A)(k:V->ah X):ah X:=
 match x with
 |.lf (.v y)=>k y
 |_=>none
def Uq{x:A}{k:V -> ah X}(h:vK x k=some r):∃ y,x = .lf (.v y)/\k y=some r:=by
 unfold vK at h
 grind
def RV.gY{q:aa Nat}{k:IntKind}{n:Int}{u:Value}(h:RV w B aj q (.int k n) u):u = .int k n:=by cases h;rfl
def RV.yO{q:aa Nat}{n:Bool}{u:Value}(h:RV w B aj q (.bool n) u):u = .bool n:=by cases h;rfl
def RV.wQ{q:aa Nat}{n:ByteArray}{u:Value}(h:RV w B aj q (.str n) u):u = .string n:=by cases h;rfl
/-! Arithmetic and comparison. -/
def bO(n:Nat):Bool:=decide (n<1073741824)
def GP{X:Type}(P:Program)(ty:TypeId)(op:BinOp)(x y:V)(k:V->ah X):ah X:=
 match x,y with
 | .int C a,.int D b=>match op with
  |.shl=>if b<0 then none else k (.int C (C.wrap (a*2 ^ (min b.toNat C.bits))))
  |.shr=>if b<0 then none else k (.int C (a.fdiv (2 ^ (min b.toNat C.bits))))
  | op=>if C=D then (match op with
   |.add=>k (.int C (C.wrap (a+b)))
   |.sub=>k (.int C (C.wrap (a-b)))
   |.mul=>k (.int C (C.wrap (a*b)))
   |.quo=>if b=0 then none else k (.int C (C.wrap (a.tdiv b)))
   |.rem=>if b=0 then none else k (.int C (a.tmod b))
   |.and=>k (.int C (bits .and C a b))
   |.or=>k (.int C (bits .or C a b))
   |.xor=>k (.int C (bits .xor C a b))
   |.andNot=>k (.int C (bits .andNot C a b))
   |.eql=>k (.bool (a==b))
   |.neq=>k (.bool (a != b))
   |.lss=>k (.bool (decide (a<b)))
   |.leq=>k (.bool (decide (a<=b)))
   |.gtr=>k (.bool (decide (a > b)))
   |.geq=>k (.bool (decide (a >= b)))
   |_=>none)else none
 | .bool a,.bool b=>match P.underlying ty with
  | some .bool=>(match op with
   |.eql=>k (.bool (a==b))
   |.neq=>k (.bool (!(a==b)))
   |_=>none)
  |_=>none
 | .str a,.str b=>match op with
  |.add=>bif bO (a.size+b.size)then k (.str (a++b))else none
  |.eql=>k (.bool (a.toList==b.toList))
  |.neq=>k (.bool (!(a.toList==b.toList)))
  |_=>none
 |_,_=>none
def anw{ty:TypeId}{U:BinOp}{x y:V}{k:V -> ah X}(h:GP P ty U x y k=some r):∃ z,k z=some r/\z.plain=true /\ ∀ (w:World) (B:Nat) (aj:bG) (E L:Operand) (q O:aa Nat) (u v:Value),RV w B aj q x u -> RV w B aj O y v ->
  ∃t,(do eqGuard U ty E L u v;binOp U ty u v:Sem Value).run P w = .ok t w/\RV w B aj [] z t:=by
 unfold GP at h;split at h
 ·rename_i kx a ky b;split at h
  ·split at h
   ·cases h
   ·rename_i T
    refine⟨_,h,rfl,λw B aj E L q O u v C D=>?_⟩
    obtain rfl:=C.gY;obtain rfl:=D.gY;exact⟨_,by simp[eqGuard,binOp,Op.shift,T],.int _ _ _⟩
  ·split at h
   ·cases h
   ·rename_i T
    refine⟨_,h,rfl,λw B aj E L q O u v C D=>?_⟩
    obtain rfl:=C.gY;obtain rfl:=D.gY;exact⟨_,by simp[eqGuard,binOp,Op.shift,T],.int _ _ _⟩
  ·rename_i h1 h2;split at h
   ·rename_i hk;subst hk;cases U
    case shl=>exact absurd rfl h1
    case shr=>exact absurd rfl h2
    case quo=>
     by_cases T:b=0
     ·simp only[T,if_true]at h;cases h
     ·simp[T]at h
      refine⟨_,h,rfl,λw B aj E L q O u v C D=>?_⟩
      obtain rfl:=C.gY;obtain rfl:=D.gY;exact⟨_,by simp[eqGuard,binOp,Op.intDiv,T],.int _ _ _⟩
    case rem=>
     by_cases T:b=0
     ·simp only[T,if_true]at h;cases h
     ·simp[T]at h
      refine⟨_,h,rfl,λw B aj E L q O u v C D=>?_⟩
      obtain rfl:=C.gY;obtain rfl:=D.gY;exact⟨_,by simp[eqGuard,binOp,Op.intDiv,T],.int _ _ _⟩
    all_goals first
     | (refine⟨_,h,rfl,λw B aj E L q O u v C D=>?_⟩
        obtain rfl:=C.gY;obtain rfl:=D.gY
        first
         |(refine⟨_,?_,.int _ _ _⟩;simp[eqGuard,binOp,Op.intArith];done)
         |(refine⟨_,?_,.int _ _ _⟩;simp[eqGuard,binOp,intBits_and,intBits_or,intBits_xor,intBits_andNot];done)
         |(refine⟨_,?_,.bool _ _⟩;simp[eqGuard,binOp,Op.intCmp];done))
     |cases h
   ·cases h
 ·rename_i a b;split at h
  ·rename_i Z;split at h
   ·refine⟨_,h,rfl,λw B aj E L q O u v C D=>?_⟩
    obtain rfl:=C.yO;obtain rfl:=D.yO;have e:binOp .eql ty (.bool a) (.bool b)=(do pure (.bool (<- Op.equal ty (.bool a) (.bool b)))):=rfl;have g:eqGuard .eql ty E L (.bool a) (.bool b)=pure ():=rfl;exact⟨_,by rw[e,g,fV,Sem.run_pure,lS,fV,run_equal_bool _ _ _ _ Z];rfl,.bool _ _⟩
   ·refine⟨_,h,rfl,λw B aj E L q O u v C D=>?_⟩
    obtain rfl:=C.yO;obtain rfl:=D.yO;have e:binOp .neq ty (.bool a) (.bool b)=(do pure (.bool (!(<- Op.equal ty (.bool a) (.bool b))))):=rfl;have g:eqGuard .neq ty E L (.bool a) (.bool b)=pure ():=rfl;exact⟨_,by rw[e,g,fV,Sem.run_pure,lS,fV,run_equal_bool _ _ _ _ Z];rfl,.bool _ _⟩
   ·cases h
  ·cases h
 ·rename_i a b;split at h
  ·cases Y:bO (a.size+b.size)with
   |false=>rw[Y]at h;cases h
   | true=>
    rw[Y]at h
    refine⟨_,h,rfl,λw B aj E L q O u v C D=>?_⟩
    obtain rfl:=C.wQ;obtain rfl:=D.wQ;have hL':a.size+b.size<1073741824:=by simpa [bO]using Y
    refine⟨_,?_,.str _ _⟩;have h9:IntKind.i64.max=9223372036854775807:=rfl;simp only[eqGuard,binOp,Op.stringOp,h9];simp;omega
  ·refine⟨_,h,rfl,λw B aj E L q O u v C D=>?_⟩
   obtain rfl:=C.wQ;obtain rfl:=D.wQ;exact⟨_,by simp[eqGuard,binOp,Op.stringOp],.bool _ _⟩
  ·refine⟨_,h,rfl,λw B aj E L q O u v C D=>?_⟩
   obtain rfl:=C.wQ;obtain rfl:=D.wQ;exact⟨_,by simp[eqGuard,binOp,Op.stringOp],.bool _ _⟩
  ·cases h
 ·cases h
def GQ{X:Type}(D:UnOp)(x:V)(k:V->ah X):ah X:=
 match D,x with
 |.not,.bool b=>k (.bool (!b))
 |.neg,.int C n=>k (.int C (C.wrap (0-n)))
 |_,_=>none
def anx{D:UnOp}{x:V}{k:V->ah X}(h:GQ D x k=some r):∃ z,k z=some r/\z.plain=true/\∀ (w:World) (B:Nat) (aj:bG) (q:aa Nat) (u:Value),RV w B aj q x u->∃ t,(Op.unary D u).run P w = .ok t w/\RV w B aj [] z t:=by
 unfold GQ at h;split at h
 ·refine⟨_,h,rfl,λw B aj q u C=>?_⟩
  obtain rfl:=C.yO;exact⟨_,by simp[Op.unary],.bool _ _⟩
 ·refine⟨_,h,rfl,λw B aj q u C=>?_⟩
  obtain rfl:=C.gY;exact⟨_,by simp[Op.unary,Op.intArith],.int _ _ _⟩
 ·cases h
def V.GR{x:V}(h:x.plain=true):x.aF=true:=by cases x<;>first|rfl|cases h
end
def jk(P:Program)(t:TypeId):ah Nat:=(P.info? t).map (·.size)
def DP(P:Program)(t:TypeId):ah Bool:=
 match P.underlying t with
 |some (.struct _)|some (.array _ _)=>some true
 |some _=>some false
 |none=>none
def pK(P:Program)(t:TypeId):ah TypeId:=
 match P.underlying t with
 |some (.slice e)=>some e
 |_=>none
def GS(P:Program)(s:TypeId)(f:Nat):ah Field:=
 match P.underlying s with
 |some (.struct C)=>C[f]?
 |_=>none
def wR{X:Type}(P:Program)(t:TypeId)(cs:aa Lf)(k:A->ah X):ah X:=
 match jk P t with
 | some n=>if cs.length=n then (match DP P t with
  |some true=>k (.agg cs)
  | some false=>(match cs with
   |[y]=>k (.lf y)
   |_=>none)
  |none=>none)else none
 |none=>none
def leaves(key:Nat->aa Nat):Nat->aa V->aa Lf
 |_,[]=>[]
 |j,z::C=>(bif z.aF then .v z else .own (key j))::leaves key (j+1) C
def nP{X:Type}(P:Program)(σ:S)(t:TypeId)(x:A)(k:A->ah X):ah X:=
 match jk P t with
 |none=>none
 | some n=>match x with
  | .aJ r j=>(match σ.m r with
   |some (.aC cs)=>wR P t ((cs.drop j).take n) k
   |_=>none)
  |.iZ cs=>wR P t ((cs.take n).map .v) k
  | .ptr (j :: i :: s :: q)=>jb σ.m q λy=>(match y with
   |.sl C (o+2) _ l=>if s=aD C then (if h:i<l.length then wR P t (leaves (λD=>D::i::s::q) j (((enc C o l[i]).drop j).take n)) k else none)else none
   |_=>none)
  |_=>none
section
variable {P:Program} {w:World} {w0:Wd} {B N:Nat} {aj:bG} {ρ:Nat->Loc} {σ:S} {a:Act} {X:Type} {r:X} {o:Oper}
def abq(key:Nat -> aa Nat):∀ (j:Nat) (C:aa V) (n:Nat),(leaves key j C)[n]?=(C[n]?).map λz=>bif z.aF then .v z else .own (key (j+n))
 |_,[],n=>by simp[leaves]
 |j,z::C,0=>by simp[leaves]
 | j,z :: C,n+1=>by
  simp[leaves,List.getElem?_cons_succ,abq]
  grind
def Ur{t:TypeId}{cs:aa Lf}{k:A -> ah X}(h:wR P t cs k=some r):∃ x,k x=some r /\ ∀ (w:World) (B:Nat) (aj:bG) (ρ:Nat -> Loc) (b o:Nat) (D:aa Value),eD w B aj ρ cs D.toArray -> w.rangeAt b o D ->
  ∃v,(Instr.loadAt t (.pointer (some ⟨b,o,none⟩))).run P w = .ok v w/\RA w B aj ρ x v:=by
 unfold wR at h;split at h
 ·rename_i n U;split at h
  ·rename_i hlen;split at h
   ·rename_i C
    refine⟨_,h,λw B aj ρ b o D L O=>?_⟩
    have T:D.length=n:=by have:=L.1;simpa [hlen]using this
    unfold DP at C;split at C
    next fs E=>exact⟨_,run_loadAt_mid w b o t D _ O E rfl (by rw[T];exact U),_,rfl,L⟩
    next c e E=>exact⟨_,run_loadAt_mid w b o t D _ O E rfl (by rw[T];exact U),_,rfl,L⟩
    ·cases C
    ·cases C
   ·rename_i C;split at h
    ·rename_i y
     refine⟨_,h,λw B aj ρ b o D L O=>?_⟩
     have T:D.length=1:=by have:=L.1;simpa using this
     obtain⟨v,rfl⟩:=List.length_eq_one_iff.1 T;have Y:w.cell? ⟨b,o,none⟩=some v:=O 0 v rfl;obtain⟨u,E,Z⟩:=L.2 0 y rfl;have:v=u:=by simpa using E
     subst this;refine⟨v,?_,Z⟩;unfold DP at C;split at C
     ·cases C
     ·cases C
     ·rename_i d hs ha E;have anz:(isAgg t).run P w = .ok false w:=by
       unfold isAgg;rw[fV,gO E];simp_all
      simp[Instr.loadAt,Instr.sureAddr,loadVar,fV,anz,load,Sem.run,Y]
     ·cases C
    ·cases h
   ·cases h
  ·cases h
 ·cases h
def Nk{α:Type}(l:aa α)(j n i:Nat)(x:α)(h:((l.drop j).take n)[i]?=some x):i<n/\l[j+i]?=some x:=by grind
def abr{t:TypeId}{x:A}{k:A -> ah X}(h:nP P σ t x k=some r):∃ y,k y=some r /\ ∀ aj ρ a w,Rl w0 N aj ρ σ a w -> ∀ u,RA w w0.heap.size aj ρ x u ->
  ∃v,(Instr.loadAt t u).run P w = .ok v w/\RA w w0.heap.size aj ρ y v:=by
 unfold nP at h;split at h
 ·cases h
 ·rename_i n hn;split at h
  ·rename_i r' j;split at h
   ·rename_i cs gp;obtain⟨y,Y,Z⟩:=Ur h
    refine⟨y,Y,λaj ρ a w hR u hu=>?_⟩
    obtain⟨b,off,cz,rfl⟩:=hu;have O:=hR.root r' _ gp;generalize U:bg.aC cs=x at O;cases O with
    |sl=>cases U
    |mp=>cases U
    |gh=>cases U
    | aC b' GU cells e eA us gK hl hh hs hc=>
     injection U with U;subst U;rw[cz]at gK;injection gK with e1 e2;subst e1 e2
     refine Z w _ aj ρ b (off+j) (((cs.drop j).take n).mapIdx λi _=>us (j+i)) ⟨by simp,λi x C=>?_⟩ (λi v D=>?_)
     ·obtain⟨hi,lC⟩:=Nk _ _ _ _ _ C;simp_all
     ·rw[List.getElem?_mapIdx]at D;cases C:((cs.drop j).take n)[i]? with
      |none=>rw[C]at D;cases D
      | some x=>
       rw[C]at D;injection D with D;subst D;obtain⟨hi,lC⟩:=Nk _ _ _ _ _ C;rw[cell_of_row w b _ cells _ _ hh,Nat.add_assoc];simp_all
   ·cases h
  ·rename_i cs;obtain⟨y,Y,Z⟩:=Ur h
   refine⟨y,Y,λaj ρ a w hR u hu=>?_⟩
   obtain⟨b,off,rfl,hb,hl,hc⟩:=hu;have pL:∀ (i:Nat) (x:Lf),((cs.take n).map Lf.v)[i]?=some x -> ∃ z v,x = .v z/\z.aF=true/\w.cell? ⟨b,off+i,none⟩=some v/\RV w w0.heap.size aj [] z v:=by
    intro i x C;rw[eF]at C;cases L:(cs.take n)[i]? with
    |none=>rw[L]at C;cases C
    | some z=>
     rw[L]at C;injection C with C;rw[List.getElem?_take]at L;split at L
     ·obtain⟨vb,v,D,O⟩:=hc i z L
      grind
     ·cases L
   refine Z w _ aj ρ b off (((cs.take n).map Lf.v).mapIdx λi _=>(w.cell? ⟨b,off+i,none⟩).getD undef) ⟨by simp,λi x C=>?_⟩ (λi v D=>?_)
   ·obtain⟨z,v,rfl,vb,D,O⟩:=pL i x C;refine⟨v,?_,vb,O⟩;simp_all
   ·rw[List.getElem?_mapIdx]at D;cases C:((cs.take n).map Lf.v)[i]? with
    |none=>rw[C]at D;cases D
    |some x =>grind
  ·rename_i j i s q;obtain⟨y0,hg,T⟩:=rM _ _ h;clear h;split at T
   ·rename_i E o' qn l;split at T
    ·rename_i hs;subst hs;split at T
     ·rename_i hi;obtain⟨y,Y,Z⟩:=Ur T
      refine⟨y,Y,λaj ρ a w hR u hu=>?_⟩
      obtain⟨ad,rfl,oF⟩:=hu;obtain⟨D,ic,jL⟩:=hg.ok hR.root;cases jL with
      |ep=>simp at hi
      |fA=>simp at hi
      |fK=>simp at hi
      |aF _ _ _ _ _ _ _ _ _ ho=>omega
      | own _ _ _ _ _ b cap cs us pM hh hs hn rK hc O=>
       rw[A9 j i (aD E) ic pM]at oF;injection oF with oF;subst oF;have pL:∀ (m:Nat) (x:Lf),(leaves (λj'=>j' :: i :: aD E :: q) j (((enc E o' l[i]).drop j).take n))[m]?=some x -> cs[i*aD E+(j+m)]?=some (us i (j+m))/\dU w w0.heap.size aj ρ x (us i (j+m)):=by
        intro m x C;rw[abq]at C;cases L:(((enc E o' l[i]).drop j).take n)[m]? with
        |none=>rw[L]at C;cases C
        | some z=>
         rw[L]at C;injection C with C;have C:(bif z.aF then Lf.v z else Lf.own ((j+m)::i::aD E::q))=x:=C;obtain⟨_,DR⟩:=Nk _ _ _ _ _ L;have h3:=hc i hi _ z DR;have h4:=O i hi _ z DR;refine⟨h3,?_⟩;cases DS:z.aF with
         | true=>
          rw[DS]at C;subst C;exact⟨DS,h4.key DS⟩
         | false=>
          rw[DS]at C;have C:Lf.own ((j+m)::i::aD E::q)=x:=C;subst C;refine⟨?_,?_⟩
          ·exact h4.Uh DS
          ·rw[Nd,A9 _ i _ ic pM];show w.cell? _=_;rw[cell_of_row w b _ cs _ _ hh];exact h3
       refine Z w _ aj ρ b (i*aD E+j) ((leaves (λj'=>j'::i::aD E::q) j (((enc E o' l[i]).drop j).take n)).mapIdx λm _=>us i (j+m)) ⟨by simp,λm x C=>?_⟩ (λm v D=>?_)
       ·simp[*]
       ·rw[List.getElem?_mapIdx]at D;cases C:(leaves (λj'=>j' :: i :: aD E :: q) j (((enc E o' l[i]).drop j).take n))[m]? with
        |none=>rw[C]at D;cases D
        | some x=>
         rw[C]at D;injection D with D;subst D;rw[cell_of_row w b _ cs _ _ hh,Nat.add_assoc];simp_all
     ·cases T
    ·cases T
   ·cases T
  ·cases h
end
def A.yP:A->ah (aa Lf)
 |.lf x=>some [x]
 |.agg xs=>some xs
 |_=>none
def Lf.live:Lf->Bool
 |.dead=>false
 |_=>true
def Lf.pl:Lf->ah V
 |.v x=>bif x.plain then some x else none
 |_=>none
def qB:aa Lf->ah (aa V)
 |[]=>some []
 | x :: xs=>match x.pl,qB xs with
  |some y,some ys=>some (y::ys)
  |_,_=>none
def wS{X:Type}(m:Nat->ah bg):aa Nat->V->((Nat->ah bg)->ah X)->ah X
 | [r],y,k=>match m r with
  |some (.sl _)=>k (cc m r (some (.sl y)))
  |_=>none
 | j :: i :: s :: q,y,k=>jb m q λz=>match z with
  | .sl t (o+2) C l=>if s=aD t then (if h:i<l.length then (if j<aD t then (match dec t o (splice (enc t o l[i]) j [y])with
   |some e=>wS m q (.sl t (o+2) C (l.set i e)) k
   |none=>none)else none)else none)else none
  |_=>none
 |_,_,_=>none
def pN{X:Type}(P:Program)(σ:S)(t:TypeId)(x y:A)(k:S->ah X):ah X:=
 match jk P t,y.yP with
 | some n,some xs=>if xs.length=n then (match x with
  | .aJ r j=>(match σ.m r with
   |some (.aC cs)=>if j+n<=cs.length then (bif xs.all Lf.live then k ⟨σ.t,cc σ.m r (some (.aC (splice cs j xs)))⟩else none)else none
   |_=>none)
  | .ptr (j :: i :: s :: q)=>(match qB xs with
   |none=>none
   | some D=>jb σ.m q λy=>(match y with
    | .sl C (o+2) E l=>if s=aD C then (if h:i<l.length then (if j+D.length<=aD C then (bif (((enc C o l[i]).drop j).take D.length).all V.plain then (match dec C o (splice (enc C o l[i]) j D)with
     |some e=>wS σ.m q (.sl C (o+2) E (l.set i e)) λm=>k ⟨σ.t,m⟩
     |none=>none)else none)else none)else none)else none
    |_=>none))
  |_=>none)else none
 |_,_=>none
section
variable {P:Program} {w:World} {w0:Wd} {B N:Nat} {aj:bG} {ρ:Nat->Loc} {σ:S} {a:Act} {X:Type} {r:X} {o:Oper}
def abt{m:Nat -> ah bg}:∀ (q:aa Nat) (y:V) (k:(Nat -> ah bg) -> ah X),wS m q y k=some r -> ∃ m',yM m q y m'/\k m'=some r
 |[],_,_,h=>by simp[wS]at h
 | [x],y,k,h=>by
  simp only[wS]at h;split at h
  next D E=>exact⟨_,.root x D y E,h⟩
  ·cases h
 | j :: i :: s :: q,y,k,h=>by
  simp only[wS]at h;obtain⟨z,L,C⟩:=rM q _ h;clear h;split at C
  ·split at C
   ·rename_i O;subst O;split at C
    ·rename_i hi;split at C
     ·rename_i T;split at C
      next e U=>obtain⟨m',Y,Z⟩:=abt q _ k C;exact⟨m',.elem j i q _ _ _ _ y e m' L hi T U Y,Z⟩
      ·cases C
     ·cases C
    ·cases C
   ·cases C
  ·cases C
def Nl:∀ (xs:aa Lf) (C:aa V),qB xs=some C -> xs=C.map .v /\ ∀ v∈C,v.plain=true
 | [],C,h=>by
  simp[qB]at h;subst h;exact⟨rfl,by simp⟩
 | x :: xs,C,h=>by
  unfold qB at h;split at h
  ·rename_i y ys D E;injection h with h;subst h;obtain⟨L,O⟩:=Nl xs ys E;have:x = .v y/\y.plain=true:=by
    cases x with
    | v z=>
     unfold Lf.pl at D
     grind
    |own q=>cases D
    |dead=>cases D
   simp_all
  ·cases h
def anA{u:Value}(h:u.oneCell'=true):u.cells = #[u]:=by cases u<;>first|rfl|cases h
def dU.one{x:Lf}{u:Value}(h:dU w B aj ρ x u)(C:x.live=true):u.oneCell'=true:=by
 cases x with
 |v z=>exact h.2.one
 | own k=>
  have:=h.1;cases u<;>first|rfl|cases this
 |dead=>cases C
def GV{y:A}{xs:aa Lf}(h:y.yP=some xs)(D:xs.all Lf.live=true){u:Value}(C:RA w B aj ρ y u):eD w B aj ρ xs u.cells/\u.cells.all (·.oneCell')=true:=by
 have key:∀ us:Array Value,eD w B aj ρ xs us -> us.all (·.oneCell')=true:=by
  intro us E;rw[Array.all_eq_true];intro i hi;have O:=bZ (by rw[<- E.1];exact hi);obtain⟨v,L,T⟩:=E.2 i _ O;have:us[i]=v:=by rw[Array.getElem?_eq_getElem hi]at L;injection L
  rw[this];exact T.one (cw.1 D _ (cV _))
 cases y with
 | lf x=>
  injection h with h;subst h;have C:dU w B aj ρ x u:=C;have U:=C.one (by simpa using D);have:eD w B aj ρ [x] u.cells:=by
   rw[anA U]
   refine⟨rfl,λj y Y=>?_⟩
   grind
  simp_all
 | agg Z=>
  injection h with h;subst h;obtain⟨us,rfl,h⟩:=C;exact⟨h,key _ h⟩
 |_=>cases h
def Us(w:World)(b o:Nat)(ty:TypeId)(v:Value)(D:w.there b o v.cells.size)(hi:(P.info? ty).map (·.size)=some v.cells.size)(L:v.cells.all (·.oneCell')=true):
  (Instr.storeAt ty (.pointer (some ⟨b,o,none⟩)) v).run P w = .ok () (w.setCells b o v.cells.toList):=by
 have:=run_storeCells_cells (P:=P) b o v.cells.toList 0 w (λj C=>by simpa using (D j (by simpa using C)).1) (λj C=>by simpa using (D j (by simpa using C)).2)
  (λv O=>(Array.all_eq_true_iff_forall_mem.1 L) v (by simpa using O))
 cases E:P.info? ty with
 |none=>simp_all
 | some i=>
  have T:v.cells.size=i.size:=by simp[E]at hi;omega
  simp[Instr.storeAt,Instr.sureAddr,storeVar,sizeOf,typeInfo,E,T,this]
def abu{t:TypeId}{x y:A}{k:S -> ah X}(h:pN P σ t x y k=some r):∃ cS,k cS=some r /\ ∀ aj ρ a w,Rl w0 N aj ρ σ a w -> ∀ u v,RA w w0.heap.size aj ρ x u -> RA w w0.heap.size aj ρ y v ->
  ∃w',(Instr.storeAt t u v).run P w = .ok () w'/\Rl w0 N aj ρ cS a w':=by
 unfold pN at h;split at h
 ·rename_i n xs hn mU;split at h
  ·rename_i hlen;split at h
   ·rename_i r' j;split at h
    ·rename_i cs gp;split at h
     ·rename_i Z;cases O:xs.all Lf.live with
      |false=>grind
      | true=>
       rw[O]at h
       refine⟨_,h,λaj ρ a w hR u v hu hv=>?_⟩
       obtain⟨b,off,cz,rfl⟩:=hu;obtain⟨E,lD⟩:=GV mU O hv;obtain⟨b',GU,gK,GW,dD⟩:=hR.GM gp E (by rw[hlen];exact Z);rw[cz]at gK;injection gK with e1 e2;subst e1 e2;exact⟨_,Us w b (off+j) t v GW (by rw[E.1,hlen];exact hn) lD,dD⟩
     ·cases h
    ·cases h
   ·rename_i j i s q;split at h
    ·cases h
    ·rename_i L jM;obtain⟨y0,hg,C⟩:=rM _ _ h;clear h;split at C
     ·rename_i t' o' qn l;split at C
      ·rename_i hs;subst hs;split at C
       ·rename_i hi;split at C
        ·rename_i Z;cases hold:(((enc t' o' l[i]).drop j).take L.length).all V.plain with
         |false=>grind
         | true=>
          rw[hold,au]at C;split at C
          ·rename_i e he;obtain⟨m',vc,h3⟩:=abt q _ _ C
           refine⟨_,h3,λaj ρ a w hR u v hu hv=>?_⟩
           obtain⟨ad,rfl,oF⟩:=hu;obtain⟨T,Ut⟩:=Nl xs L jM;have O:xs.all Lf.live=true:=by rw[T];simp[Lf.live]
           obtain⟨E,lD⟩:=GV mU O hv;have Be:L.length=n:=by rw[<- hlen,T,eG]
           have q1:∀ (D:Nat) x,D<L.length -> (enc t' o' l[i])[j+D]?=some x -> x.plain=true:=by
            intro D x pJ hx;refine cw.1 hold x (gN (i:=D) ?_);simp_all
           have q2:∀ (D:Nat) x,L[D]?=some x -> ∃ U,v.cells[D]?=some U/\RV w w0.heap.size aj [] x U:=by
            intro D x hx;obtain⟨U,ve,fl⟩:=E.2 D (.v x) (by rw[T,eF,hx];rfl);exact⟨U,ve,fl.2⟩
           obtain⟨b,Y,GW,dD⟩:=hR.ant (xs:=L) (us:=v.cells) hg hi Z he q1 Ut (by rw[E.1,T,eG]) q2 vc;rw[oF]at Y;injection Y with Y;subst Y;exact⟨_,Us w b _ t v GW (by rw[E.1,hlen];exact hn) lD,dD⟩
          ·cases C
        ·cases C
       ·cases C
      ·cases C
     ·cases C
   ·cases h
  ·cases h
 ·cases h
end
def DT{X:Type}(P:Program)(s:TypeId)(x:A)(f:Nat)(k:A->ah X):ah X:=
 match GS P s f with
 |none=>none
 | some C=>match jk P C.type with
  | some (_+1)=>(match x with
   |.aJ r j=>k (.aJ r (j+C.offset))
   |.iZ cs=>k (.iZ (cs.drop C.offset))
   |.ptr (j::i::s::q)=>k (.ptr ((j+C.offset)::i::s::q))
   |_=>none)
  |_=>none
def yQ{X:Type}(P:Program)(σ:S)(t:TypeId)(x i:A)(k:A->ah X):ah X:=
 match pK P t with
 |none=>none
 | some e=>match jk P e,i with
  | some n,.lf (.v (.int _ iv))=>(match x with
   |.lf (.v (.sl C g _ l))=>if n=aD C then (bif Nat.blt g 2 then (if h:0<=iv/\iv.toNat<l.length then k (.iZ (enc C g (l[iv.toNat]'h.2)))else none)else none)else none
   | .lf (.own q)=>jb σ.m q λy=>(match y with
    |.sl C g _ l=>if n=aD C then (if h:0<=iv/\iv.toNat<l.length then (bif Nat.blt g 2 then k (.iZ (enc C g (l[iv.toNat]'h.2)))else k (.ptr (0::iv.toNat::aD C::q)))else none)else none
    |_=>none)
   |_=>none)
  |_,_=>none
def Bf{X:Type}(P:Program)(σ:S)(t:TypeId)(x:A)(k:A->ah X):ah X:=
 match x with
 | .lf y=>oG σ y λz=>(match z with
  |.sl _ _ _ l=>(match P.underlying t with|some (.slice _)=>k (.lf (.v (.int .i64 (l.length:Int))))|_=>none)
  |.nil=>(match P.underlying t with|some (.slice _)=>k (.lf (.v (.int .i64 0)))|_=>none)
  |.str s=>(match P.underlying t with|some .string=>k (.lf (.v (.int .i64 (s.size:Int))))|_=>none)
  |_=>none)
 |.view _ _ i j=>(match P.underlying t with|some (.slice _)=>k (.lf (.v (.int .i64 ((j-i:Nat):Int))))|_=>none)
 |_=>none
def yR:Bool×aa Lf->ah A
 |(true,cs)=>some (.agg cs)
 |(false,[y])=>some (.lf y)
 |_=>none
def Bg{X:Type}(x:A)(i:Nat)(k:A->ah X):ah X:=
 match x with
 | .eS xs=>match (xs[i]?).bind yR with
  |some y=>k y
  |none=>none
 |_=>none
section
variable {P:Program} {w:World} {w0:Wd} {B N:Nat} {aj:bG} {ρ:Nat->Loc} {σ:S} {a:Act} {X:Type} {r:X} {o:Oper} {w':World} {aA:bG} {ρ':Nat->Loc} {d:Nat}
def anB(n:Nat){j i s:Nat}{q:aa Nat}{ad:Addr}(h:addrAt w aj ρ (j :: i :: s :: q)=some ad):addrAt w aj ρ ((j+n) :: i :: s :: q)=some ⟨ad.block,ad.off+n,none⟩:=by
 match q,h with
 | [r],h=>
  simp[addrAt]at h ⊢;split at h
  ·grind
  ·cases h
 | x :: y :: q,h=>
  simp[addrAt]at h ⊢;split at h
  ·grind
  ·cases h
def Uu(w:World)(s:TypeId)(f:Nat)(C:Field)(n b off:Nat)(D:GS P s f=some C)(E:jk P C.type=some (n+1)):
  (Instr.fieldAt s (.pointer (some ⟨b,off,none⟩)) f).run P w = .ok (.pointer (some ⟨b,off+C.offset,none⟩)) w:=by
 unfold GS at D;split at D
 ·rename_i T O;unfold jk at E;cases L:P.info? C.type with
  |none=>simp_all
  | some i=>
   have hi:i.size=n+1:=by simpa [L]using E
   simp[Instr.fieldAt,gO O,D,Instr.sureAddr,fieldPlace,sizeOf,typeInfo,L,hi,Addr.add_mid]
 ·cases D
def anC{s:TypeId}{x:A}{f:Nat}{k:A -> ah X}(h:DT P s x f k=some r):∃ y,k y=some r /\ ∀ (w:World) (B:Nat) (aj:bG) (ρ:Nat -> Loc) (u:Value),RA w B aj ρ x u ->
  ∃v,(Instr.fieldAt s u f).run P w = .ok v w/\RA w B aj ρ y v:=by
 unfold DT at h;split at h
 ·cases h
 ·rename_i D E;split at h
  ·rename_i n L;split at h
   ·rename_i r' j
    refine⟨_,h,λw B aj ρ u C=>?_⟩
    obtain⟨b,off,U,rfl⟩:=C;exact⟨_,Uu w s f D n b _ E L,b,off,U,by rw[Nat.add_assoc]⟩
   ·rename_i cs
    refine⟨_,h,λw B aj ρ u C=>?_⟩
    obtain⟨b,off,rfl,Y,Z,hc⟩:=C
    refine⟨_,Uu w s f D n b _ E L,b,_,rfl,Y,Z,λj x hx=>?_⟩
    grind
   ·rename_i j i s' q
    refine⟨_,h,λw B aj ρ u C=>?_⟩
    obtain⟨ad,rfl,O⟩:=C;have h2:=anB D.offset O;obtain⟨_,_,_,_,_,_,_,T,_⟩:=Ba _ _ O;obtain⟨b,off,sp⟩:=ad;simp only at T;subst T;exact⟨_,Uu w s f D n b off E L,_,rfl,h2⟩
   ·cases h
  ·cases h
def Uv(w:World)(t e:TypeId)(n b off len cap:Nat)(L:IntKind)(iv:Int)(C:pK P t=some e)(D:jk P e=some n)(O:0 <= iv)(Z:iv.toNat<len):
  (Instr.indexAt t (.slice (some ⟨b,off,none⟩) len cap) (.int L iv)).run P w = .ok (.pointer (some ⟨b,off+iv.toNat*n,none⟩)) w:=by
 unfold pK at C;split at C
 ·rename_i T U;injection C with C;subst C;unfold jk at D;cases E:P.info? T with
  |none=>simp_all
  | some i=>
   have hi:i.size=n:=by simpa [E]using D
   have Y:iv<len:=by omega
   simp[Instr.indexAt,gO U,asIntOf,O,Y,sizeOf,typeInfo,E,hi,Addr.add_mid]
 ·cases C
def anD{t:TypeId}{x i:A}{k:A -> ah X}(h:yQ P σ t x i k=some r):∃ y,k y=some r /\ ∀ aj ρ a w,Rl w0 N aj ρ σ a w -> ∀ u v,RA w w0.heap.size aj ρ x u -> RA w w0.heap.size aj ρ i v ->
  ∃p,(Instr.indexAt t u v).run P w = .ok p w/\RA w w0.heap.size aj ρ y p:=by
 unfold yQ at h;split at h
 ·cases h
 ·rename_i e he;split at h
  ·rename_i n kk iv hn;split at h
   ·rename_i t' g qn l;split at h
    ·rename_i vf;subst vf;cases E:Nat.blt g 2 with
     |false=>grind
     | true=>
      rw[E,au]at h;split at h
      ·rename_i C
       refine⟨_,h,λaj ρ a w Z u v L O=>?_⟩
       obtain rfl:=O.2.gY;have yS:g<2:=by have:=cQ E;omega
       cases L.2 with
       |ep=>simp at C
       |fA=>simp at C
       |fK=>simp at C
       |own=>grind
       | aF _ _ _ _ _ b off cap us ho hl DU h1 iJ hc hr=>
        refine⟨_,Uv w t e _ b off _ cap kk iv he hn C.1 C.2,b,_,rfl,DU,hl,λj x T=>⟨rJ t' g _ yS j x T,us _ j,?_,hr _ C.2 j x T⟩⟩
        grind
      ·cases h
    ·cases h
   ·rename_i q;obtain⟨y0,E,D⟩:=rM _ _ h;clear h;split at D
    ·rename_i t' U qn l;split at D
     ·rename_i vf;subst vf;split at D
      ·rename_i C;cases Y:Nat.blt U 2 with
       | true=>
        rw[Y,au]at D;have ho2:U<2:=cQ Y
        refine⟨_,D,λaj ρ a w Z u v L O=>?_⟩
        obtain rfl:=O.2.gY;obtain⟨sV,ic,jL⟩:=E.ok Z.root;have:sV=u:=by
         have h3:=L.2;simp_all
        subst this;cases jL with
        |ep=>simp at C
        |fA=>simp at C
        |fK=>simp at C
        |own=>grind
        | aF _ _ _ _ _ b off cap us ho hl DU h1 iJ hc hr=>
         refine⟨_,Uv w t e _ b off _ cap kk iv he hn C.1 C.2,b,_,rfl,DU,hl,λj x T=>⟨rJ t' U _ ho2 j x T,us _ j,?_,hr _ C.2 j x T⟩⟩
         grind
       | false=>
        rw[Y,aq]at D;have ho2:¬ U<2:=λdA=>by have h9:Nat.blt U 2=true:=js dA;rw[h9]at Y;cases Y
        refine⟨_,D,λaj ρ a w Z u v L O=>?_⟩
        obtain rfl:=O.2.gY;obtain⟨sV,ic,jL⟩:=E.ok Z.root;have:sV=u:=by
         have h3:=L.2;simp_all
        subst this;cases jL with
        |ep=>simp at C
        |fA=>simp at C
        |fK=>simp at C
        |aF _ _ _ _ _ _ _ _ _ ho=>omega
        | own _ _ _ _ _ b cap cs us pM hh hs pJ rK hc hr=>
         refine⟨_,Uv w t e _ b 0 _ cap kk iv he hn C.1 C.2,_,rfl,?_⟩;rw[A9 0 _ _ ic pM];simp
      ·cases D
     ·cases D
    ·cases D
   ·cases h
  ·cases h
def anE{t ty:TypeId}{x:A}{k:A->ah X}(h:Bf P σ t x k=some r):∃ y,k y=some r/\∀ aj ρ a w,Rl w0 N aj ρ σ a w->∀ u,RA w w0.heap.size aj ρ x u->
  ∃v,(Builtin.len_ #[t] ty #[u]).run P w = .ok v w/\RA w w0.heap.size aj ρ y v:=by
 unfold Bf at h;split at h
 ·rename_i y;have key:∃ z,(∀ aj ρ a w,Rl w0 N aj ρ σ a w->∀ u,dU w w0.heap.size aj ρ y u->∃ q,RV w w0.heap.size aj q z u)/\(match z with
    |.sl _ _ _ l=>(match P.underlying t with|some (.slice _)=>k (.lf (.v (.int .i64 (l.length:Int))))|_=>none)
    |.nil=>(match P.underlying t with|some (.slice _)=>k (.lf (.v (.int .i64 0)))|_=>none)
    |.str s=>(match P.underlying t with|some .string=>k (.lf (.v (.int .i64 (s.size:Int))))|_=>none)
    |_=>none)=some r:=by
   cases y with
   |v z=>exact⟨z,λaj ρ a w _ u D=>⟨[],D.2⟩,h⟩
   |dead=>cases h
   | own q=>
    obtain⟨z,T,h⟩:=rM q _ h
    refine⟨z,λaj ρ a w L u D=>?_,h⟩
    obtain⟨v,Y,O⟩:=T.ok L.root;have U:=D.2;rw[Y]at U;injection U with U;subst U;exact⟨q,O⟩
  obtain⟨z,T,C⟩:=key;clear h;split at C
  ·rename_i Z g qn l;split at C
   ·rename_i e E
    refine⟨_,C,λaj ρ a w L u D=>?_⟩
    obtain⟨q,O⟩:=T aj ρ a w L u D;cases O with
    |ep=>exact⟨_,by simp[Builtin.len_,gO E,goInt],rfl,.int _ _ _⟩
    |fA=>exact⟨_,by simp[Builtin.len_,gO E,goInt],rfl,.int _ _ _⟩
    |fK=>exact⟨_,by simp[Builtin.len_,gO E,goInt],rfl,.int _ _ _⟩
    |aF=>exact⟨_,by simp[Builtin.len_,gO E,goInt],rfl,.int _ _ _⟩
    |own=>exact⟨_,by simp[Builtin.len_,gO E,goInt],rfl,.int _ _ _⟩
   ·cases C
  ·split at C
   ·rename_i e E
    refine⟨_,C,λaj ρ a w L u D=>?_⟩
    obtain⟨q,O⟩:=T aj ρ a w L u D;cases O;exact⟨_,by simp[Builtin.len_,gO E,goInt],rfl,.int _ _ _⟩
   ·cases C
  ·split at C
   ·rename_i E
    refine⟨_,C,λaj ρ a w L u D=>?_⟩
    obtain⟨q,O⟩:=T aj ρ a w L u D;obtain rfl:=O.wQ;exact⟨_,by simp[Builtin.len_,gO E,goInt],rfl,.int _ _ _⟩
   ·cases C
  ·cases C
 ·split at h
  ·rename_i e E
   refine⟨_,h,λaj ρ a w L u D=>?_⟩
   obtain⟨A,n,c,Y,h1,C,rfl⟩:=D;exact⟨_,by cases A<;>simp[sliced,Builtin.len_,gO E,goInt],rfl,.int _ _ _⟩
  ·cases h
 ·cases h
def Uw{p:Bool×aa Lf}{y:A}(h:yR p=some y){u:Value}(C:RP w B aj ρ p u):RA w B aj ρ y u:=by
 unfold yR at h;split at h
 ·injection h with h;subst h;exact C
 ·rename_i z;injection h with h;subst h;obtain⟨D,E,L⟩:=C.2 0 z rfl;have:u=D:=by simpa using E
  subst this;exact L
 ·cases h
def anF{x:A}{i:Nat}{k:A -> ah X}(h:Bg x i k=some r):∃ y,k y=some r /\ ∀ (w:World) (B:Nat) (aj:bG) (ρ:Nat -> Loc) (u:Value),RA w B aj ρ x u ->
  ∃v,(Instr.extract u i).run P w = .ok v w/\RA w B aj ρ y v:=by
 unfold Bg at h;split at h
 ·rename_i xs;split at h
  ·rename_i y C
   refine⟨y,h,λw B aj ρ u E=>?_⟩
   obtain⟨us,rfl,U,L⟩:=E;cases D:xs[i]? with
   |none=>simp_all
   | some p=>
    rw[D]at C;obtain⟨v,O,T⟩:=L i p D;exact⟨v,by simp[Instr.extract,O],Uw C T⟩
  ·cases h
 ·cases h
def abv{k:aa Nat}(h:cU d k=true):[d] <:+ k:=by
 have h:k.getLast?=some d:=by simpa [cU]using h
 obtain⟨y,C⟩:=List.getLast?_eq_some_iff.1 h;simp_all
def Nm{j i s:Nat}{q:aa Nat}(C:q≠[]):cU d (j :: i :: s :: q)=cU d q:=by
 cases q with
 |nil=>simp_all
 |cons x q=>simp[cU]
structure DV (w w':World) (aj aA:bG) (d:Nat):Prop where
 size:w.heap.size<=w'.heap.size
 block:∀b,b<w.heap.size->aj b≠some [d]->w'.heap[b]?=w.heap[b]?
 Ux:∀b,b<w.heap.size->aA b=aj b
 ne:∀b,aj b≠some []
def DV.tr(D:DV w w' aj aA d)(L:∀ b k,aj b=some k->b<w.heap.size)(O:∀ r,r≠d->ρ' r=ρ r):Tr w w' aj aA ρ ρ' (cU d) (λr=>Nat.beq r d):=by
 refine⟨D.size,λb E C=>⟨D.block b E (by rw[C];simp),(D.Ux b E).trans C⟩,λb k C T=>⟨D.block b (L b k C) ?_,(D.Ux b (L b k C)).trans C⟩,λr U=>O r (by rintro rfl;simp at U),λj i s x q=>Nm (by simp),λb E=>absurd E (D.ne b)⟩
 rw[C];intro e;injection e with e;subst e;simp[cU]at T
def RA.Uy{x:A}{u:Value}(h:RA w B aj ρ x u)(C:DV w w' aj aA d)(D:∀b k,aj b=some k->b<w.heap.size)(E:∀r,r≠d->ρ' r=ρ r):RA w' B aA ρ' (x.drop d) u:=h.tr (C.tr D E) (uX (λ_ h=>h) λ_=>oC)
def dY.Uy{r:Nat}(C:r≠d){x:bg}(h:dY w B aj ρ r x)(D:DV w w' aj aA d)(E:∀b k,aj b=some k->b<w.heap.size)(L:∀r,r≠d->ρ' r=ρ r):dY w' B aA ρ' r (x.drop d):=h.tr (D.tr E L) (uX (λ_ h=>h) λ_=>oC) (by simpa [cU]using C) (oC C)
def Rl.yT{x:bg}(h:Rl w0 N aj ρ σ a w)(Y:w0.F d=none)(E:ja w0 w w')(L:DV w w' aj aA d)(Z:∀ b k,w.heap.size <= b -> aA b=some k -> b<w'.heap.size/\k≠[])(O:∀ r,r≠d -> ρ' r=ρ r)(hx:dY w' w0.heap.size aA ρ' d x):
  Rl w0 N aA ρ' ((σ.drop d).root d x) a w':=by
 have U:=λb k E=>(h.dg b k E).2.1
 refine⟨h.below.trans E,λb k T=>?_,λr y C=>?_,λk=>(h.tmp k).Uy L U O,h.size,h.defers,λr l' D=>(O r (by rintro rfl;rw[Y]at D;cases D)).trans (h.fix r l' D),h.dz⟩
 ·rcases Nat.lt_or_ge b w.heap.size with dA | oD
  ·rw[L.Ux b dA]at T;have:=h.dg b k T;exact⟨this.1,Nat.lt_of_lt_of_le this.2.1 L.size,this.2.2⟩
  ·have:=Z b k oD T;exact⟨.inl (Nat.le_trans h.below.size oD),this.1,this.2⟩
 ·by_cases D:r=d
  ·subst D;have C:(cc (σ.drop r).m r _) r=some y:=C;rw[cm]at C;simp_all
  ·have C:(cc (σ.drop d).m d (some x)) r=some y:=C;rw[cM _ _ _ D]at C;have E:Nat.beq r d=false:=by
    cases E:Nat.beq r d with
    |false=>rfl
    |true=>simp_all
   simp only[S.drop,E,aq]at C;cases hm:σ.m r with
   |none=>simp_all
   | some z=>
    rw[hm]at C;injection C with C;subst C;exact(h.root r z hm).Uy D L U O
end
def gP(q:Nat)(nk k:aa Nat):aa Nat:=bif cU q k then k.dropLast++nk else k
def bG.gP(aj:bG)(q:Nat)(nk:aa Nat):bG:=λb=>(aj b).map (Proofs.YtnilicojgkhpnaaGreat.gP q nk)
section
variable {P:Program} {w w':World} {w0:Wd} {B N:Nat} {aj aA:bG} {ρ ρ':Nat->Loc} {σ:S} {a:Act} {X:Type} {d q:Nat} {nk:aa Nat}
def abw:gP q nk [q]=nk:=by simp[gP,cU]
def anG{k:aa Nat}(h:cU q k=false):gP q nk k=k:=by simp[gP,h]
def anH{j i s:Nat}{k:aa Nat}(C:k≠[]):gP q nk (j :: i :: s :: k)=j :: i :: s :: gP q nk k:=by
 unfold gP;rw[Nm C];cases cU q k with
 |false=>rfl
 | true=>
  cases k with
  |nil=>simp_all
  |cons x k=>simp
def abx{k:aa Nat}(C:nk≠[])(D:k≠[]):gP q nk k≠[]:=by
 unfold gP;cases cU q k with
 |false=>simp_all
 |true=>simp[C]
def bG.Uz{b:Nat}(h:aj b=none):aj.gP q nk b=none:=by simp[bG.gP,h]
def bG.aby{b:Nat}{k:aa Nat}(h:aj b=some k):aj.gP q nk b=some (Proofs.YtnilicojgkhpnaaGreat.gP q nk k):=by simp[bG.gP,h]
def bG.abz{b:Nat}{k:aa Nat}(h:aj b=some k)(C:cU q k=false):aj.gP q nk b=some k:=by rw[bG.aby h,anG C]
def RV.gP{k:aa Nat}{x:V}{v:Value}(h:RV w B aj k x v)(E:∀ b,aj b≠some []):RV w B (aj.gP q nk) (Proofs.YtnilicojgkhpnaaGreat.gP q nk k) x v:=
 h.map (Q:=λk C=>C=Proofs.YtnilicojgkhpnaaGreat.gP q nk k) (dM _) (λb _ h=>⟨rfl,bG.Uz h⟩) (λb k C _ D e=>by
  subst e;exact⟨rfl,bG.aby D,λj i s=>(anH λe=>E b (e ▸ D)).symm⟩) (.inr rfl)
structure Rel (q:Nat) (aj aA:bG):Prop where
 ne:∀b,aj b≠some []
 none:∀b,aj b=none->aA b=Option.none
 lu:∀b k,aj b=some k->cU q k=false->aA b=some k
def GX(C:∀b,aj b≠some []):Rel q aj (aj.gP q nk):=⟨C,λ_ h=>bG.Uz h,λ_ _ h D=>bG.abz h D⟩
def Rel.tr(C:Rel q aj aA):Tr w w aj aA ρ ρ (cU q) (λ_=>false):=
 ⟨dM _,λb _ D=>⟨rfl,C.none b D⟩,λb k D E=>⟨rfl,C.lu b k D E⟩,λ_ _=>rfl,λj i s x q=>Nm (by simp),λb L=>absurd L (C.ne b)⟩
def RV.rel(C:Rel q aj aA){k:aa Nat}{x:V}{v:Value}(h:RV w B aj k x v)(D:cU q k=false\/x.aF=true):RV w B aA k x v:=h.tr (ρ:=λ_=>.dX undef) C.tr D.symm
def anI(C:Rel q aj aA)(k:aa Nat)(u:Value)(D:cU q k=false)(h:c8 w aj ρ k=some u):c8 w aA ρ k=some u:=Ul C.tr k u (.inr D) (Um k) h
def eD.rel(C:Rel q aj aA){cs:aa Lf}{us:Array Value}(h:eD w B aj ρ cs us):eD w B aA ρ (cs.map (Lf.drop q)) us:=h.tr C.tr (uX (λ_ h=>h) λ_ _=>rfl)
def RA.rel(C:Rel q aj aA){x:A}{u:Value}(h:RA w B aj ρ x u):RA w B aA ρ (x.drop q) u:=h.tr C.tr (uX (λ_ h=>h) λ_ _=>rfl)
def dY.rel(C:Rel q aj aA){r:Nat}(D:r≠q){x:bg}(h:dY w B aj ρ r x):dY w B aA ρ r (x.drop q):=h.tr C.tr (uX (λ_ h=>h) λ_ _=>rfl) (by simpa [cU]using D) rfl
def Rl.wT(h:Rl w0 N aj ρ σ a w):∀b,aj b≠some []:=λb C=>(h.dg b [] C).2.2 rfl
def Rl.rel(h:Rl w0 N aj ρ σ a w)(E:Rel q aj aA)(T:∀ b k,aA b=some k -> (∃ D,aj b=some D)/\k≠[]):Rl w0 N aA ρ (σ.drop q) a w:=by
 refine⟨h.below,λb k U=>?_,λr x C=>?_,λk=>(h.tmp k).rel E,h.size,h.defers,h.fix,h.dz⟩
 ·obtain⟨⟨D,Y⟩,hk⟩:=T b k U;have:=h.dg b D Y;simp_all
 ·have C:(bif Nat.beq r q then none else (σ.m r).map _)=some x:=C;cases L:Nat.beq r q with
  |true=>simp_all
  | false=>
   rw[L]at C;have Z:r≠q:=by rintro rfl;simp at L
   cases O:σ.m r with
   |none=>simp_all
   | some y=>
    rw[O]at C;injection C with C;subst C;exact(h.root r y O).rel E Z
def Rl.anJ{z:V}(h:Rl w0 N aj ρ σ a w)(T:σ.m q=some (.sl z))(U:nk≠[]):∃ u,ρ q = .dX u/\Rl w0 N (aj.gP q nk) ρ (σ.drop q) a w/\RV w w0.heap.size (aj.gP q nk) nk z u:=by
 have E:=h.wT;have L:=h.root q _ T;generalize C:bg.sl z=x at L;cases L with
 |aC=>cases C
 |mp=>cases C
 |gh=>cases C
 | sl u y Y Z=>
  injection C with C;subst C
  refine⟨u,Y,h.rel (GX E) λb k D=>?_,?_⟩
  ·unfold bG.gP at D;cases O:aj b with
   |none=>simp_all
   | some k'=>
    rw[O]at D;injection D with D;subst D;exact⟨⟨k',rfl⟩,abx U (λe=>E b (by rw[O,e]))⟩
  ·have:=Z.gP (q:=q) (nk:=nk) E
   rwa [abw]at this
def gZ(r:Nat)(key:Nat->aa Nat):Nat->Nat->aa Lf->S->ah (aa V×S)
 |_,_,[],σ=>some ([],σ)
 |f+1,j,.v x::xs,σ=>(gZ r key f (j+1) xs σ).map λp=>(x::p.1,p.2)
 | f+1,j,.own [q] :: xs,σ=>match σ.m q with
  |some (.sl z)=>bif Nat.beq q r then none else (gZ r key f (j+1) (xs.map (Lf.drop q)) (σ.drop q)).map λp=>(z::p.1,p.2)
  |_=>none
 |_,_,_,_=>none
def Nn{r:Nat}{key:Nat->aa Nat}(wU:∀ j,cU r (key j)=true):∀ (f j:Nat) (xs:aa Lf) (σ L:S) (O:aa V),gZ r key f j xs σ=some (O,L)->∀ aj ρ a w,Rl w0 N aj ρ σ a w->∀ us:aa Value,eD w w0.heap.size aj ρ xs us.toArray->
  ∃ aA,Rl w0 N aA ρ L a w/\O.length=xs.length/\(∀ (n:Nat) x,O[n]?=some x->∃ u,us[n]?=some u/\RV w w0.heap.size aA (key (j+n)) x u)/\(∀ k x v,cU r k=true->RV w w0.heap.size aj k x v->RV w w0.heap.size aA k x v)/\
   (∀x,σ.m r=some (.sl x)->L.m r=some (.sl x))/\(∀k u,cU r k=true->c8 w aj ρ k=some u->c8 w aA ρ k=some u)/\(∀b,aj b=some [r]->aA b=some [r])/\(∀b,aj b=none->aA b=none)
 | 0,j,[],σ,L,O,h,aj,ρ,a,w,C,us,T=>by
  simp only[gZ,iu,Prod.mk.injEq]at h;obtain⟨rfl,rfl⟩:=h;exact⟨aj,C,rfl,by simp,λ_ _ _ _ h=>h,λ_ h=>h,λ_ _ _ h=>h,λ_ h=>h,λ_ h=>h⟩
 | f+1,j,[],σ,L,O,h,aj,ρ,a,w,C,us,T=>by
  simp only[gZ,iu,Prod.mk.injEq]at h;obtain⟨rfl,rfl⟩:=h;exact⟨aj,C,rfl,by simp,λ_ _ _ _ h=>h,λ_ h=>h,λ_ _ _ h=>h,λ_ h=>h,λ_ h=>h⟩
 |0,j,x::xs,σ,L,O,h,aj,ρ,a,w,C,us,T=>by simp[gZ]at h
 | f+1,j,x :: xs,σ,L,O,h,aj,ρ,a,w,C,us,T=>by
  obtain⟨Z,us,rfl⟩:∃ Z Np,us=Z :: Np:=by
   cases us with
   |nil=>have:=T.1;simp at this
   |cons Z us=>exact⟨_,_,rfl⟩
  have qC:dU w w0.heap.size aj ρ x Z:=by
   obtain⟨u,e,h⟩:=T.2 0 x rfl;simp at e;subst e;exact h
  have kr:eD w w0.heap.size aj ρ xs us.toArray:=⟨by have:=T.1;simpa using this,λn y D=>by
   obtain⟨u,e,h⟩:=T.2 (n+1) y D;exact⟨u,by simpa using e,h⟩⟩
  cases x with
  | v x=>
   simp only[gZ,Option.map_eq_some_iff]at h;obtain⟨⟨UA,rO⟩,h,e⟩:=h;simp only[Prod.mk.injEq]at e;obtain⟨rfl,rfl⟩:=e;obtain⟨aA,h1,h2,h3,E,h5⟩:=Nn wU f (j+1) xs σ rO UA h aj ρ a w C us kr
   refine⟨aA,h1,by simp[h2],λn y D=>?_,E,h5⟩
   cases n with
   | zero=>
    simp at D;subst D;refine⟨Z,rfl,E _ _ _ (wU _) (qC.2.key qC.1)⟩
   | succ n=>
    obtain⟨u,e,h⟩:=h3 n y (by simpa using D);exact⟨u,by simpa using e,by rw[show j+(n+1)=j+1+n by omega];exact h⟩
  |dead=>simp[gZ]at h
  | own k=>
   match k,qC,h with
   |[],_,h=>simp[gZ]at h
   |_::_::_,_,h=>simp[gZ]at h
   | [q],qC,h=>
    simp only[gZ]at h;split at h
    ·rename_i z hz;cases UB:Nat.beq q r with
     |true=>rw[UB]at h;cases h
     | false=>
      rw[UB,aq,Option.map_eq_some_iff]at h;obtain⟨⟨UA,rO⟩,anK,e⟩:=h;simp only[Prod.mk.injEq]at e;obtain⟨rfl,rfl⟩:=e;have dc:q≠r:=by rintro rfl;simp at UB
      have hkj:key j≠[]:=by intro e;have:=wU j;rw[e]at this;simp[cU]at this
      obtain⟨u,cz,dD,jL⟩:=C.anJ hz hkj;have GY:u=Z:=by
       have E:=qC.2;simp only[c8,cz]at E;injection E
      subst GY;have nQ:∀ k,cU r k=true->cU q k=false:=by
       intro k U;cases hq:cU q k with
       |false=>rfl
       | true=>
        exfalso;have h1:=abv U;have h2:=abv hq;exact dc (abm h1 h2)
      obtain⟨aA,h1,h2,h3,E,h5,h6,h7,h8⟩:=Nn wU f (j+1) (xs.map (Lf.drop q)) (σ.drop q) rO UA anK _ ρ a w dD us (kr.rel (GX C.wT))
      refine⟨aA,h1,by simp[h2],λn y D=>?_,λk x v U hv=>E _ _ _ U (hv.rel (GX C.wT) (.inl (nQ k U))),λx hx=>h5 x ?_,λk v U hv=>h6 k v U (anI (GX C.wT) k v (nQ k U) hv),λb Y=>h7 b (bG.abz Y (by simpa [cU]using λe=>dc e.symm)),λb Y=>h8 b (bG.Uz Y)⟩
      ·cases n with
       | zero=>
        simp at D;subst D;exact⟨u,rfl,E _ _ _ (wU _) jL⟩
       | succ n=>
        obtain⟨u,e,h⟩:=h3 n y (by simpa using D);exact⟨u,by simpa using e,by rw[show j+(n+1)=j+1+n by omega];exact h⟩
      ·have Y:Nat.beq r q=false:=by
        cases Y:Nat.beq r q with
        |false=>rfl
        |true=>exact absurd (cD Y).symm dc
       show (bif Nat.beq r q then none else (σ.m r).map (bg.drop q))=_;rw[Y,hx];rfl
    ·cases h
end
def nR:Value->Lf
 |.int k n=>.v (.int k n)
 |.bool b=>.v (.bool b)
 |.string s=>.v (.str s)
 |.slice none 0 0=>.v .nil
 |_=>.dead
def zeroV:Value->ah V
 |.int k n=>some (.int k n)
 |.bool b=>some (.bool b)
 |.string s=>some (.str s)
 |.slice none 0 0=>some .nil
 |_=>none
def GZ:aa Value->ah (aa V)
 |[]=>some []
 | v :: C=>match zeroV v,GZ C with
  |some x,some xs=>some (x::xs)
  |_,_=>none
def zeroOf(P:Program)(e:TypeId):ah Value:=(P.info? e).bind (·.zero)
def bytesOf(P:Program)(e:TypeId):ah Nat:=(P.info? e).map (·.bytes)
def g9{X:Type}(N:Nat)(σ:S)(d:Nat)(x:bg)(y:A)(k:S->ah X):ah X:=
 bif Nat.blt d N then k (((σ.drop d).root d x).set d y)else none
def qD{X:Type}(P:Program)(N:Nat)(σ:S)(d:Nat)(e:TypeId)(k:S->ah X):ah X:=
 match zeroOf P e with
 |some z=>g9 N σ d (.aC (z.cells.toList.map nR)) (.aJ d 0) k
 |none=>none
def vg(P:Program)(t:TypeId):ah (TypeId×TC):=
 match pK P t with
 |none=>none
 | some e=>match abg e,jk P e,bytesOf P e with
  |some C,some n,some b=>bif Nat.beq n (aD C)&&Nat.ble b 65536 then some (e,C)else none
  |_,_,_=>none
def Nq(P:Program)(e:TypeId)(C:TC):ah (T C):=
 match zeroOf P e with
 |none=>none
 | some z=>match GZ z.cells.toList with
  |none=>none
  |some D=>dec C (full C) D
def yU{X:Type}(P:Program)(N:Nat)(σ:S)(d:Nat)(t:TypeId)(l c:A)(k:S->ah X):ah X:=
 match vg P t,l,c with
 | some (e,C),.lf (.v (.int _ n)),.lf (.v (.int _ c))=>match Nq P e C with
  |none=>none
  |some z=>if 0<=n/\n<=c/\c<1073741824 then g9 N σ d (.sl (.sl C (full C+2) false (List.replicate n.toNat z))) (.lf (.own [d])) k else none
 |_,_,_=>none
def V.Nr(t:TC):V->ah (aa (T t))
 |.sl C _ _ l=>if h:C=t then some (h ▸ l)else none
 |.nil=>some []
 |_=>none
def sY{X:Type}(P:Program)(N:Nat)(σ:S)(d:Nat)(t:TypeId)(x y:A)(k:S->ah X):ah X:=
 match vg P t with
 | some (e,C)=>bif Nat.beq (full C) 0&&(zeroOf P e).any (λz=>Nat.beq z.cells.size (aD C))then rN σ y λD=>(match D.Nr C with
  |none=>none
  | some l2=>match x with
   |.lf (.v .nil)=>bif bO l2.length then g9 N σ d (.sl (.sl C 2 false l2)) (.lf (.own [d])) k else none
   | .lf (.own [r])=>(match σ.m r with
    |some (.sl (.sl E (o+2) q l))=>if h:E=C then (bif Nat.blt d N&&(Nat.blt r N ||Nat.ble 60000 r)&&bO (l.length+l2.length)then k (((σ.drop r).root r (.sl (.sl C (o+2) false ((h ▸ l)++l2)))).set d (.lf (.own [r])))else none)else none
    |_=>none)
   |_=>none)else none
 |none=>none
section
variable {P:Program} {w w':World} {w0:Wd} {B N:Nat} {aj aA:bG} {ρ ρ':Nat->Loc} {σ:S} {a:Act} {X:Type} {d:Nat} {r:X} {q:Nat} {o:Oper}
def Ns(v:Value):dU w B aj ρ (nR v) v:=by
 unfold nR;split
 ·exact⟨rfl,.int _ _ _⟩
 ·exact⟨rfl,.bool _ _⟩
 ·exact⟨rfl,.str _ _⟩
 ·exact⟨rfl,.nil _⟩
 ·trivial
def abA{v:Value}{x:V}(h:zeroV v=some x)(q:aa Nat):RV w B aj q x v:=by
 unfold zeroV at h;split at h<;>first|(injection h with h;subst h;first|exact .int _ _ _|exact .bool _ _|exact .str _ _|exact .nil _)|cases h
def UC:∀ (C:aa Value) (xs:aa V),GZ C=some xs -> xs.length=C.length /\ ∀ (j:Nat) x,xs[j]?=some x -> ∃ v,C[j]?=some v/\zeroV v=some x
 | [],xs,h=>by
  simp[GZ]at h;simp_all
 | v :: C,xs,h=>by
  unfold GZ at h;split at h
  ·rename_i y ys E D;injection h with h;subst h;obtain⟨L,O⟩:=UC C ys D
   grind
  ·cases h
def ja.abC(w0:Wd)(w:World)(o:Obj)(h:w0.heap.size<=w.heap.size):ja w0 w (w.alloc o):=.of ((Below.refl w0.heap.size w).alloc h o) (dM _)
def Rl.DW{c:Array Value}{e:TypeId}{x:bg}{ρ':Nat -> Loc}(h:Rl w0 N aj ρ σ a w)(E:w0.F d=none)(L:∀ r,r≠d -> ρ' r=ρ r)
  (O:dY (w.alloc (.cells c e)) w0.heap.size (cc aj w.heap.size (some [d])) ρ' d x):Rl w0 N (cc aj w.heap.size (some [d])) ρ' ((σ.drop d).root d x) a (w.alloc (.cells c e)):=by
 refine h.yT E (ja.abC w0 w _ h.below.size) ⟨by simp,λb D _=>Below.heap_alloc w _ b D,λb D=>cM _ _ _ (by omega),λb D=>(h.dg b [] D).2.2 rfl⟩ (λb k D C=>?_) L O
 by_cases e:b=w.heap.size
 ·subst e;rw[cm]at C;injection C with C;subst C;simp_all
 ·rw[cM _ _ _ e]at C;have:=(h.dg b k C).2.1;omega
def oH{x:bg}{y:A}{k:S -> ah X}(h:g9 N σ d x y k=some r):d<N/\k (((σ.drop d).root d x).set d y)=some r:=by
 unfold g9 at h;cases C:Nat.blt d N with
 |false=>simp_all
 |true=>simp_all
def anL{e:TypeId}{k:S -> ah X}(h:qD P N σ d e k=some r):∃ E,k E=some r /\ ∀ aj ρ a w,Rl w0 N aj ρ σ a w -> ∃ w' aA ρ' v,(Instr.alloc e true (.tuple #[])).run P w = .ok v w'/\Rl w0 N aA ρ' E (a.put (some d) v) w':=by
 unfold qD at h;split at h
 ·rename_i z D;obtain⟨L,h⟩:=oH h
  refine⟨_,h,λaj ρ a w O=>?_⟩
  have Y:(Instr.alloc e true (.tuple #[])).run P w = .ok (.pointer (some ⟨w.heap.size,0,none⟩)) (w.alloc (.cells z.cells e)):=by
   unfold zeroOf at D;cases hi:P.info? e with
   |none=>simp_all
   | some i=>
    have D:i.zero=some z:=by simpa [hi]using D
    simp[Instr.alloc,zeroValue,typeInfo,hi,D,newVar,newRow]
  refine⟨_,cc aj w.heap.size (some [d]),cc ρ d (.aC w.heap.size 0),_,Y,(O.DW (O.dz d (.inl L)) (λr Z=>cM _ _ _ Z) ?_).set ⟨w.heap.size,0,cm _ _ _,rfl⟩ L⟩
  refine .aC w.heap.size 0 z.cells e _ (λj=>z.cells.getD j undef) (cm _ _ _) (cm _ _ _) (heap_alloc_new w _) (by simp) λj x C=>?_
  rw[eF]at C;cases T:z.cells.toList[j]? with
  |none=>simp_all
  | some v=>
   rw[T]at C;injection C with C;subst C;have U:z.cells[j]?=some v:=by simpa using T
   have hg:z.cells.getD j undef=v:=by rw[ir,U];rfl
   rw[hg,fk];exact⟨U,Ns v⟩
 ·cases h
def yV{t e:TypeId}{C:TC}(h:vg P t=some (e,C)):P.underlying t=some (.slice e)/\tid C=e /\ ∃ i,P.info? e=some i/\i.size=aD C/\i.bytes <= 65536:=by
 unfold vg at h;split at h
 ·cases h
 ·rename_i L D;split at h
  ·rename_i O n b T U Y;cases E:(Nat.beq n (aD O)&&Nat.ble b 65536)with
   |false=>simp_all
   | true=>
    rw[E,au]at h;injection h with h;injection h with Z h2;subst Z h2;rw[aN]at E;refine⟨?_,ann T,?_⟩
    ·unfold pK at D;split at D
     ·simp_all
     ·cases D
    ·unfold jk at U;unfold bytesOf at Y;cases hi:P.info? L with
     |none=>simp_all
     |some i =>simp_all
  ·cases h
def abD(z:Array Value)(n i j:Nat)(C:j<z.size)(h:i*z.size+j<n):(madeCells z n)[i*z.size+j]?=some z[j]:=by
 have D:(i*z.size+j) % z.size=j:=by rw[Nat.add_comm,Nat.add_mul_mod_self_right,Nat.mod_eq_of_lt C]
 simp[madeCells,Array.getElem?_map,Array.getElem?_range,h,if_true,Option.map_some,D];simp[C]
def anM{t:TypeId}{l c:A}{k:S -> ah X}(h:yU P N σ d t l c k=some r):∃ cS,k cS=some r /\ ∀ aj ρ a w,Rl w0 N aj ρ σ a w -> ∀ u v,RA w w0.heap.size aj ρ l u -> RA w w0.heap.size aj ρ c v ->
  ∃w' aA ρ' x,(Instr.makeSlice t u v).run P w = .ok x w'/\Rl w0 N aA ρ' cS (a.put (some d) x) w':=by
 unfold yU at h;split at h
 ·rename_i e D kl n kc c oJ;split at h
  ·cases h
  ·rename_i z E;split at h
   ·rename_i hb;obtain⟨hd,h⟩:=oH h
    refine⟨_,h,λaj ρ a w hR u v hu U=>?_⟩
    obtain rfl:=hu.2.gY;obtain rfl:=U.2.gY;obtain⟨fX,ht,i,hi,gG,jC⟩:=yV oJ;unfold Nq at E;split at E
    ·cases E
    ·rename_i C DX;split at E
     ·cases E
     ·rename_i vs jM;have oK:i.zero=some C:=by unfold zeroOf at DX;simpa [hi]using DX
      obtain⟨qE,ku⟩:=UC _ _ jM;have Y:=lV D (full D) vs z E;have T:C.cells.size=aD D:=by rw[<- ko D (full D) z,<- Y.1,qE];simp
      have T5:(i.bytes:Int)*c <= 281474976710656:=by
       have h1:(i.bytes:Int) <= 65536:=by omega
       have h2:i.bytes*c <= 65536*c:=Int.mul_le_mul_of_nonneg_right h1 (by omega);omega
      have dB:=run_make (P:=P) w t e i C fX hi oK kl kc n c hb.1 hb.2.1 T5 (by omega);rw[gG,<- T]at dB
      refine⟨_,cc aj w.heap.size (some [d]),cc ρ d (.dX (.slice (some ⟨w.heap.size,0,none⟩) n.toNat c.toNat)),_,dB,(hR.DW (hR.dz d (.inl hd)) (λr hr=>cM _ _ _ hr) ?_).set ⟨rfl,?_⟩ hd⟩
      ·refine .sl _ _ (cm _ _ _) ?_;have hlen:(List.replicate n.toNat z).length=n.toNat:=by simp
       have:=RV.own (w:=w.alloc (.cells (madeCells C.cells (c.toNat*C.cells.size)) e)) (B:=w0.heap.size) (aj:=cc aj w.heap.size (some [d])) [d] D (full D) false (List.replicate n.toNat z) w.heap.size c.toNat (madeCells C.cells (c.toNat*C.cells.size)) (λ_ j=>C.cells.getD j undef)
        (cm _ _ _) (by rw[ht];exact heap_alloc_new w _) (by rw[size_madeCells,T]) (by rw[hlen];omega) ⟨by unfold maxLen;omega,λh=>by cases h⟩ (λZ h' j x L=>?_) (λZ h' j x L=>?_)
       ·rw[hlen]at this;exact this
       ·rw[List.getElem_replicate]at L;have O:j<aD D:=by have:=(dQ.1 L).1;rwa [ko]at this
        rw[hlen]at h';rw[<- T]at O;rw[<- T,abD C.cells _ Z j O (by
         have:(Z+1)*C.cells.size <= c.toNat*C.cells.size:=jD _ (by omega);rw[Nat.succ_mul]at this;omega)]
        simp[ir,O]
       ·rw[List.getElem_replicate]at L;have O:j<(enc D (full D) z).length:=(dQ.1 L).1;rw[<- Y.1]at O;have hy:=bZ O;generalize vs[j]=y at hy;obtain⟨v,U,UD⟩:=ku j y hy;have sV:C.cells[j]?=some v:=by simpa using U
        have hg:C.cells.getD j undef=v:=by rw[ir,sV];rfl
        rw[hg];exact(abA UD _).wk (Y.2 j y x hy L)
      ·simp[c8,cm]
   ·cases h
 ·cases h
def DY(t:TC)(h:full t=0)(o C:Nat)(x:T t):enc t o x=enc t C x:=by
 have key:∀ o,enc t o x=enc t 0 x:=by
  intro o;rw[abh t o x];have:=yK t o x h
  conv=>lhs;rw[<- List.map_id (enc t o x)]
  apply List.map_congr_left;intro y D;have E:=this y D;cases y<;>first|rfl|cases E
 simp_all
def wV(u:Nat->Nat->Value)(n s:Nat):aa Value:=(List.range (n*s)).map λk=>u (k / s) (k % s)
def abE(u:Nat -> Nat -> Value)(n s i j:Nat)(hi:i<n)(C:j<s):(wV u n s)[i*s+j]?=some (u i j):=by
 have D:i*s+j<n*s:=by
  have:(i+1)*s <= n*s:=jD _ hi
  grind
 have E:(i*s+j) / s=i:=by rw[Nat.add_comm,Nat.add_mul_div_right _ _ (by omega),Nat.div_eq_of_lt C,fk]
 have L:(i*s+j) % s=j:=by rw[Nat.add_comm,Nat.add_mul_mod_self_right,Nat.mod_eq_of_lt C]
 simp[wV,D,E,L]
def Nt(u:Nat -> Nat -> Value)(n s k:Nat)(v:Value)(D:0<s)(h:(wV u n s)[k]?=some v):∃ i j,k=i*s+j/\i<n/\j<s/\v=u i j:=by
 have C:k<n*s:=by
  have:=(dQ.1 h).1
  simpa [wV]using this
 refine⟨k / s,k % s,by rw[Nat.mul_comm];exact(Nat.div_add_mod k s).symm,Nat.div_lt_of_lt_mul (by rw[Nat.mul_comm];exact C),Nat.mod_lt _ D,?_⟩;simp[wV,eF,List.getElem?_range C,Option.map_some,iu]at h;simp_all
def Bh(t:TC)(o:Nat)(x:T t)(j:Nat)(C:j<aD t):∃y,(enc t o x)[j]?=some y:=⟨_,bZ (by rw[ko];exact C)⟩
def wW(t:TC)(l:aa (T t))(C:aa Value):Prop:=
 ∀i (hi:i<l.length) (o j:Nat) x,(enc t o l[i])[j]?=some x->∃v,C[i*aD t+j]?=some v/\v.oneCell'=true/\∀(w':World) (B':Nat) (aA:bG) (D:aa Nat),RV w' B' aA D x v
def RV.reads{q:aa Nat}{t:TC}{g:Nat}{qn:Bool}{l:aa (T t)}{u:Value}(h:RV w B aj q (.sl t g qn l) u)(Y:full t=0):
  ∃A c news,u = .slice A l.length c/\Reads w w.heap.size (aD t) A l.length news/\(∀v∈news,v.oneCell'=true)/\wW t l news:=by
 cases h with
 |ep=>exact⟨none,0,[],rfl,Reads.none_,by simp,λi hi=>by simp at hi⟩
 |fA=>exact⟨_,_,[],rfl,⟨by simp,λh=>by simp at h⟩,by simp,λi hi=>by simp at hi⟩
 |fK=>exact⟨_,_,[],rfl,⟨by simp,λh=>by simp at h⟩,by simp,λi hi=>by simp at hi⟩
 | aF _ _ _ _ _ b off cap us ho hl hb h1 iJ hc O=>
  have U:∀ i (hi:i<l.length) j,j<aD t -> (us i j).oneCell'=true:=by
   intro i hi j C;obtain⟨y,L⟩:=Bh t g l[i] j C;exact(O i hi j y L).one
  refine⟨_,cap,wV us l.length (aD t),rfl,⟨by simp[wV],λhn=>⟨b,off,rfl,hb,λk v E=>?_⟩⟩,λv E=>?_,λi hi o j x D=>?_⟩
  ·obtain⟨i,j,rfl,hi,C,rfl⟩:=Nt us _ _ k v (oA t) E;obtain⟨y,L⟩:=Bh t g l[i] j C;exact hc i hi j y L
  ·obtain⟨k,Z⟩:=List.mem_iff_getElem?.1 E;obtain⟨i,j,rfl,hi,C,rfl⟩:=Nt us _ _ k v (oA t) Z;exact U i hi j C
  ·have C:j<aD t:=by have:=(dQ.1 D).1;rwa [ko]at this
   rw[DY t Y o g]at D
   refine⟨us i j,abE us _ _ i j hi C,U i hi j C,λw' B' aA q'=>(O i hi j x D).sW (yK t g l[i] Y x (gN D))⟩
 | own _ _ o _ _ b cap cs us hl hh hs hn hm hc O=>
  have U:∀ i (hi:i<l.length) j,j<aD t -> (us i j).oneCell'=true:=by
   intro i hi j C;obtain⟨y,L⟩:=Bh t o l[i] j C;exact(O i hi j y L).one
  refine⟨_,cap,wV us l.length (aD t),rfl,⟨by simp[wV],λhn=>⟨b,0,rfl,(iH.1 hh).1,λk v E=>?_⟩⟩,λv E=>?_,λi hi o' j x D=>?_⟩
  ·obtain⟨i,j,rfl,hi,C,rfl⟩:=Nt us _ _ k v (oA t) E;obtain⟨y,L⟩:=Bh t o l[i] j C;rw[fk,cell_of_row w b _ cs _ _ hh];simp_all
  ·obtain⟨k,Z⟩:=List.mem_iff_getElem?.1 E;obtain⟨i,j,rfl,hi,C,rfl⟩:=Nt us _ _ k v (oA t) Z;exact U i hi j C
  ·have C:j<aD t:=by have:=(dQ.1 D).1;rwa [ko]at this
   rw[DY t Y o' o]at D
   refine⟨us i j,abE us _ _ i j hi C,U i hi j C,λw' B' aA q'=>(O i hi j x D).sW (yK t o l[i] Y x (gN D))⟩
def RV.abF{q:aa Nat}{t:TC}{o:Nat}{D:Bool}{l:aa (T t)}{u:Value}(h:RV w B aj q (.sl t (o+2) D l) u)(E:full t=0){B':Nat}(hB:∀ b,aj b=some q -> B' <= b):
  ∃xs,w.ownsRow B' (tid t) (aD t) u l.length xs/\(∀b,u.ownBlock=some b -> aj b=some q)/\(D=true -> u.ownBlock≠none)/\wW t l xs:=by
 cases h with
 |fA=>omega
 |fK=>omega
 |ep=>exact⟨[],⟨by simp,.inl ⟨rfl,rfl⟩⟩,by simp[Value.ownBlock],by simp,λi hi=>by simp at hi⟩
 |aF _ _ _ _ _ _ _ _ _ ho=>omega
 | own _ _ _ _ _ b cap cs us O U Y Z hm hc L=>
  refine⟨cs.toList.take _,⟨?_,.inr ⟨b,cap,cs,rfl,hB b O,U,Z,hm.1,Y,rfl⟩⟩,λb' wX=>?_,λ_=>by simp[Value.ownBlock],λi hi o' j x C=>?_⟩
  ·simp_all
  ·have:b=b':=by simpa [Value.ownBlock]using wX
   simp_all
  ·have hj:j<aD t:=by have:=(dQ.1 C).1;rwa [ko]at this
   have dA:i*aD t+j<l.length*aD t:=by
    have:(i+1)*aD t <= l.length*aD t:=jD _ hi;rw[Nat.succ_mul]at this;omega
   rw[DY t E o' o]at C
   refine⟨us i j,?_,(L i hi j x C).one,λw' B' aA q'=>(L i hi j x C).sW (yK t o l[i] E x (gN C))⟩
   grind
def wW.append{t:TC}{l l2:aa (T t)}{xs ys:aa Value}(h:wW t l xs)(E:wW t l2 ys)(L:xs.length=l.length*aD t):wW t (l++l2) (xs++ys):=by
 intro i hi o j x C;by_cases D:i<l.length
 ·rw[List.getElem_append_left D]at C;obtain⟨v,O,r⟩:=h i D o j x C
  grind
 ·rw[List.getElem_append_right (by omega)]at C;have U:i-l.length<l2.length:=by rw[List.length_append]at hi;omega
  obtain⟨v,O,r⟩:=E _ U o j x C;refine⟨v,?_,r⟩;have e:i*aD t+j=xs.length+((i-l.length)*aD t+j):=by
   rw[L,Nat.sub_mul];have:l.length*aD t <= i*aD t:=jD _ (by omega);omega
  grind
def UE{q:aa Nat}{t:TC}{o:Nat}{l:aa (T t)}{u:Value}{xs:aa Value}{B':Nat}(h:w.ownsRow B' (tid t) (aD t) u l.length xs)(D:wW t l xs)(E:∀ b,u.ownBlock=some b -> aj b=some q):
  RV w B aj q (.sl t (o+2) false l) u:=by
 rcases h.2 with ⟨rfl,L⟩|⟨b,cap,cs,rfl,hB,O,U,Y,Z,ht⟩
 ·have:=List.eq_nil_of_length_eq_zero L;subst this;exact .ep _ _ _
 ·have pL:∀ i _ j x,(enc t o l[i])[j]?=some x -> ∃ v,cs[i*aD t+j]?=some v /\ ∀ w' B' aA q',RV w' B' aA q' x v:=by
   intro i hi j x C;obtain⟨v,hv,_,r⟩:=D i hi o j x C
   grind
  refine .own q t o false l b cap cs (λi j=>(cs[i*aD t+j]?).getD undef) (E b rfl) O Z U ⟨Y,λh=>by cases h⟩ (λi hi j x C=>?_) (λi hi j x C=>?_)
  ·grind
  ·grind
def Rl.append{t e ty:TypeId}{D:TC}{i:TypeInfo}{z:Value}{rr o g:Nat}{q qn:Bool}{l l2:aa (T D)}{u v:Value}{q':aa Nat}{Bx:Nat}{UF:bG}(h:Rl w0 N aj ρ σ a w)(hF:w0.F rr=none)(fX:P.underlying t=some (.slice e))(ht:tid D=e)(hi:P.info? e=some i)(hz:i.zero=some z)
  (gG:i.size=aD D) (jC:i.bytes <= 65536) (mG:z.cells.size=aD D) (hf:full D=0) (hd:RV w w0.heap.size aj [rr] (.sl D (o+2) q l) u) (hs:RV w Bx UF q' (.sl D g qn l2) v) (hlen:l.length+l2.length<1073741824):
  ∃E w' aA,(Builtin.append_ #[t,t] ty #[u,v]).run P w = .ok E w'/\Rl w0 N aA (cc ρ rr (.dX E)) ((σ.drop rr).root rr (.sl (.sl D (o+2) false (l++l2)))) a w'/\mP E=true:=by
 subst ht;obtain⟨xs,yW,Z,G0,iA⟩:=hd.abF hf (B':=0) (λb _=>Nat.zero_le b);obtain⟨A,c,news,rfl,qF,lD,G1⟩:=hs.reads hf;have gJ:(l.length+l2.length)*i.bytes <= 140737488355328:=by
  have h1:(l.length+l2.length)*i.bytes <= 1073741824*65536:=Nat.mul_le_mul (by omega) jC;omega
 obtain⟨E,w',dB,U,O,lX⟩:=T4 (P:=P) w 0 t ty (tid D) i z (aD D) i.bytes fX hi hz gG rfl mG (oA D) u l.length xs yW _ A l2.length c news qF lD (by unfold maxLen;omega) gJ (Nat.zero_le _);have G2:(l++l2).length=l.length+l2.length:=List.length_append;rw[<- G2]at U;have Bi:=iA.append G1 yW.1;have fW:mP E=true:=by rcases U.2 with ⟨rfl,_⟩|⟨_,_,_,rfl,_⟩<;>rfl
 have Nu:Below 0 w w':=(Below.refl 0 w).grown O (Nat.zero_le _) (λ_ _=>Nat.zero_le _);have kz:ja w0 w w':=⟨Nu.os,Nu.tape,Nu.output,Nu.size,λk L hL=>O.block k (Nat.lt_of_lt_of_le L h.below.size) (λY=>by
  rcases(h.dg k _ (Z k Y.symm)).1 with h1|h1
  ·exact absurd L (Nat.not_lt.2 h1)
  ·exact h1 hL)⟩
 by_cases sZ:E.ownBlock=some w.heap.size
 ·have dA:w.heap.size<w'.heap.size:=by
   rcases U.2 with ⟨rfl,_⟩|⟨b,cap,cs,rfl,_,hh,_⟩
   ·cases sZ
   ·have:b=w.heap.size:=by simpa [Value.ownBlock]using sZ
    grind
  refine⟨E,w',cc aj w.heap.size (some [rr]),dB,h.yT hF kz ⟨O.size,λb C dc=>O.block b C (λY=>dc (Z b Y.symm)),λb C=>cM _ _ _ (by omega),λb C=>(h.dg b [] C).2.2 rfl⟩ (λb k C L=>?_) (λr hr=>cM _ _ _ hr) (.sl E _ (cm _ _ _) (UE U Bi (λb C=>?_))),fW⟩
  ·by_cases e:b=w.heap.size
   ·subst e;rw[cm]at L
    grind
   ·rw[cM _ _ _ e]at L;have:=(h.dg b k L).2.1;omega
  ·rw[sZ]at C;injection C with C;subst C;exact cm _ _ _
 ·have UG:E.ownBlock=u.ownBlock:=by
   rcases lX with lX|lX
   ·exact lX
   ·exact absurd lX sZ
  refine⟨E,w',aj,dB,h.yT hF kz ⟨O.size,λb C dc=>O.block b C (λY=>dc (Z b Y.symm)),λ_ _=>rfl,λb C=>(h.dg b [] C).2.2 rfl⟩ (λb k C L=>?_) (λr hr=>cM _ _ _ hr) (.sl E _ (cm _ _ _) (UE U Bi (λb C=>Z b (by rw[<- UG];exact C)))),fW⟩
  have:=(h.dg b k L).2.1;omega
def UH{t:TC}{x:V}{l:aa (T t)}(h:x.Nr t=some l){q:aa Nat}{u:Value}(C:RV w B aj q x u):∃ g D,RV w B aj q (.sl t g D l) u:=by
 unfold V.Nr at h;split at h
 ·grind
 ·injection h with h;subst h;cases C;exact⟨0,false,.ep _ _ _⟩
 ·cases h
def UI{x:Lf}{k:V -> ah X}(h:oG σ x k=some r):∃ y,(∀ aj ρ a w,Rl w0 N aj ρ σ a w -> ∀ u,dU w w0.heap.size aj ρ x u -> ∃ q,RV w w0.heap.size aj q y u)/\k y=some r:=by
 cases x with
 |v z=>exact⟨z,λaj ρ a w _ u C=>⟨[],C.2⟩,h⟩
 |dead=>cases h
 | own q=>
  obtain⟨z,D,h⟩:=rM q _ h
  refine⟨z,λaj ρ a w E u C=>?_,h⟩
  obtain⟨v,L,O⟩:=D.ok E.root;have T:=C.2
  grind
def abG{y:A}{k:V -> ah X}(h:rN σ y k=some r):∃ z,(∀ aj ρ a w,Rl w0 N aj ρ σ a w -> ∀ u,RA w w0.heap.size aj ρ y u -> ∃ q B' aA,RV w B' aA q z u)/\k z=some r:=by
 unfold rN at h;split at h
 ·obtain⟨z,C,D⟩:=UI h;exact⟨z,λaj ρ a w E u L=>let ⟨q,O⟩:=C aj ρ a w E u L;⟨q,_,_,O⟩,D⟩
 ·obtain⟨z,D,_,C⟩:=abp h;exact⟨z,λaj ρ a w E u L=>⟨[],0,_,C _ _ _ _ _ _ E u L 0⟩,D⟩
 ·cases h
def anN{t ty:TypeId}{x y:A}{k:S -> ah X}(h:sY P N σ d t x y k=some r):∃ cS,k cS=some r /\ ∀ aj ρ a w,Rl w0 N aj ρ σ a w -> ∀ u v,RA w w0.heap.size aj ρ x u -> RA w w0.heap.size aj ρ y v ->
  ∃w' aA ρ' z,(Builtin.append_ #[t,t] ty #[u,v]).run P w = .ok z w'/\Rl w0 N aA ρ' cS (a.put (some d) z) w':=by
 unfold sY at h;split at h
 ·rename_i e tc oJ;obtain⟨fX,ht,i,hi,gG,jC⟩:=yV oJ;cases U:(Nat.beq (full tc) 0&&(zeroOf P e).any (λz=>Nat.beq z.cells.size (aD tc)))with
  |false=>grind
  | true=>
   rw[U,au]at h;rw[aN]at U;have hf:=cD U.1;obtain⟨z,hz,Y⟩:=(Option.any_eq_true _ _).1 U.2;have Y:=cD Y;have oK:i.zero=some z:=by unfold zeroOf at hz;simpa [hi]using hz
   obtain⟨yv,Nv,C⟩:=abG (w0:=w0) (N:=N) h;clear h;split at C
   ·cases C
   ·rename_i l2 ku;split at C
    ·cases D:bO l2.length with
     |false=>grind
     | true=>
      rw[D,au]at C;have D:l2.length<1073741824:=by simpa [bO]using D
      obtain⟨Z,h3⟩:=oH C
      refine⟨_,h3,λaj ρ a w E u v T hv=>?_⟩
      have T:u = .slice none 0 0:=by cases T.2;rfl
      subst T;obtain⟨q',_,_,L⟩:=Nv aj ρ a w E v hv;obtain⟨g,qn,L⟩:=UH ku L;obtain⟨v',w',aA,dB,dD,fW⟩:=E.append (ty:=ty) (rr:=d) (o:=0) (q:=false) (l:=[]) (E.dz d (.inl Z)) fX ht hi oK gG jC Y hf (.ep _ _ _) L (by simpa using D);exact⟨w',aA,_,v',dB,dD.set ⟨fW,by simp[c8,cm]⟩ Z⟩
    ·rename_i rr;split at C
     ·rename_i t' o q l hm;split at C
      ·rename_i mV;subst mV;cases D:(Nat.blt d N&&(Nat.blt rr N || Nat.ble 60000 rr)&&bO (l.length+l2.length))with
       |false=>grind
       | true=>
        rw[D,au]at C;rw[aN,aN,eB]at D;have G3:l.length+l2.length<1073741824:=by simpa [bO]using D.2
        have Z:d<N:=by have:=cQ D.1.1;omega
        have mS:rr<N \/ 60000 <= rr:=D.1.2.imp (λh=>by have:=cQ h;omega) (λh=>cQ h)
        refine⟨_,C,λaj ρ a w E u v T hv=>?_⟩
        obtain⟨q',_,_,L⟩:=Nv aj ρ a w E v hv;obtain⟨g,qn,L⟩:=UH ku L;have eE:=E.root rr _ hm;generalize O:bg.sl (.sl t' (o+2) q l)=x at eE;cases eE with
        |aC=>cases O
        |mp=>cases O
        |gh=>cases O
        | sl uu y cz hr=>
         injection O with O;subst O;have GY:uu=u:=by
          have h4:=T.2;simp only[c8,cz]at h4;simp_all
         subst GY;obtain⟨v',w',aA,dB,dD,fW⟩:=E.append (ty:=ty) (E.dz rr mS) fX ht hi oK gG jC Y hf hr L G3;exact⟨w',aA,_,v',dB,dD.set ⟨fW,by simp[c8,cm]⟩ Z⟩
      ·cases C
     ·cases C
    ·cases C
 ·cases h
def Rl.abH{t:TC}{g p:Nat}{qn:Bool}{l ys:aa (T t)}{news:aa Value}(h:Rl w0 N aj ρ σ a w)(hm:σ.m q=some (.sl (.sl t (g+2) qn l)))(hf:full t=0)(hp:p+ys.length <= l.length)(nQ:0<l.length)(iA:wW t ys news)(qG:news.length=ys.length*aD t):
  ∃ b cap,ρ q = .dX (.slice (some ⟨b,0,none⟩) l.length cap)/\l.length <= cap/\(∀ n,n<news.length -> (w.cell? ⟨b,p*aD t+n,none⟩).isSome=true/\w.frozen? ⟨b,p*aD t+n,none⟩=false) /\
   Rl w0 N aj ρ ⟨σ.t,cc σ.m q (some (.sl (.sl t (g+2) qn (splice l p ys))))⟩ a (w.setCells b (p*aD t) news):=by
 have eE:=h.root q _ hm;generalize U:bg.sl (.sl t (g+2) qn l)=x at eE;cases eE with
 |aC=>cases U
 |mp=>cases U
 |gh=>cases U
 | sl v y cz iB=>
  injection U with U;subst U;cases iB with
  |ep=>exact absurd nQ (Nat.lt_irrefl 0)
  |fA=>exact absurd nQ (Nat.lt_irrefl 0)
  |fK=>exact absurd nQ (Nat.lt_irrefl 0)
  |aF _ _ _ _ _ _ _ _ _ ho=>omega
  | own _ _ _ _ _ b cap cs u pM hh hs hn rK hc hr=>
   have wP:(p+ys.length)*aD t <= cap*aD t:=jD _ (by omega);rw[Nat.add_mul]at wP;have lz:p*aD t+news.length <= cs.size:=by rw[qG,hs];exact wP
   have hW:=Nh w b (p*aD t) news;obtain⟨L,gJ,pI⟩:=GC b (tid t) news (p*aD t) w cs hh lz;have sX:∀ n,L[n]?=if n<p*aD t then cs[n]? else if n<p*aD t+news.length then news[n-p*aD t]? else cs[n]?:=by
    intro n;have e2:L[n]?=(splice cs.toList (p*aD t) news)[n]?:=by
     rw[show L[n]?=L.toList[n]? by simp,pI];rfl
    rw[e2,wO _ _ _ (by simpa using lz)];simp
   have GN:L.size=cs.size:=by
    rw[<- kY,pI];have:=sU cs.toList (p*aD t) news (by simpa using lz);simp only[splice]at this;simp_all
   have s7:=oA t;have hC:qA w (w.setCells b (p*aD t) news) aj ρ:=by
    intro k ad v ha E fW;by_cases dc:ad.block=b
    ·obtain⟨D,C,s',q',rfl,Bb,anu,uZ,_⟩:=Ba k ad ha;have oF:ad=⟨b,ad.off,none⟩:=by cases ad;simp_all
     rw[oF,cell_of_row w b _ cs _ _ hh]at E;rw[oF,cell_of_row _ b _ L _ _ gJ,sX];by_cases Y:ad.off<p*aD t
     ·rw[bL Y];exact E
     ·by_cases h2:ad.off<p*aD t+news.length
      ·exfalso;have hk:ad.off=(ad.off / aD t)*aD t+ad.off % aD t:=by rw[Nat.mul_comm];exact(Nat.div_add_mod _ _).symm
       have dA:ad.off<l.length*aD t:=by
        have:(p+ys.length)*aD t <= l.length*aD t:=jD _ hp;rw[Nat.add_mul]at this;omega
       have hi:ad.off / aD t<l.length:=Nat.div_lt_of_lt_mul (by rw[Nat.mul_comm];exact dA);obtain⟨y,hy⟩:=Bh t g l[ad.off / aD t] (ad.off % aD t) (Nat.mod_lt _ s7);have h3:=hc _ hi _ y hy;rw[<- hk,E]at h3;injection h3 with h3;have:=(hr _ hi _ y hy).abn (yK t g _ hf y (gN hy));rw[<- h3,fW]at this;cases this
      ·rw[bX Y,bX h2];exact E
    ·exact(World.cell?_of_block (hW.block _ dc)).trans E
   have Bc:c8 w aj ρ [q]=some (.slice (some ⟨b,0,none⟩) l.length cap):=by simp only[c8,cz]
   refine⟨b,cap,cz,hn,λn pJ=>⟨?_,frozen_of_row w b _ cs _ hh⟩,h.wrote hW pM hC ((yM.root q _ _ hm).ok h.root hW pM (List.suffix_refl _) hC Bc ?_)⟩
   ·rw[cell_of_row w b _ cs _ _ hh];simp;omega
   ·have hlen:(splice l p ys).length=l.length:=sU l p ys hp;have key:∀ C (h:C<(splice l p ys).length) (D:Nat) x,(enc t g (splice l p ys)[C])[D]?=some x -> ∃ v,L[C*aD t+D]?=some v/\RV (w.setCells b (p*aD t) news) w0.heap.size aj (D :: C :: aD t :: [q]) x v:=by
     intro C h' D x Z;have nO:D<aD t:=by have:=(dQ.1 Z).1;rwa [ko]at this
     have O:=bZ h';generalize (splice l p ys)[C]=e at O Z;rw[wO l p ys hp]at O;have rL:=yK t g e hf x (gN Z);have old:l[C]?=some e -> ∃ v,cs[C*aD t+D]?=some v/\RV (w.setCells b (p*aD t) news) w0.heap.size aj (D :: C :: aD t :: [q]) x v:=λhle=>by
      obtain⟨hi,rfl⟩:=dQ.1 hle;exact⟨_,hc C hi D x Z,(hr C hi D x Z).sW rL⟩
     by_cases Y:C<p
     ·rw[bL Y]at O;have dA:(C+1)*aD t <= p*aD t:=jD _ Y;rw[Nat.succ_mul]at dA;rw[sX,bL];exact old O
     ·rw[bX Y]at O;by_cases h2:C<p+ys.length
      ·rw[bL h2]at O;obtain⟨hi,rfl⟩:=dQ.1 O;obtain⟨v,E,_,jL⟩:=iA (C-p) hi g D x Z;have aG1:(C-p)*aD t=C*aD t-p*aD t:=Nat.sub_mul _ _ _;have hle:p*aD t <= C*aD t:=jD _ (by omega);have dA:=(dQ.1 E).1;refine⟨v,?_,jL _ _ _ _⟩;rw[sX,bX,bL,<- E];congr 1;omega
      ·rw[bX h2]at O;have oD:(p+ys.length)*aD t <= C*aD t:=jD _ (by omega);rw[Nat.add_mul]at oD;rw[sX,bX,bX (by rw[qG];omega)];exact old O
    rw[<- hlen]
    refine .own [q] t g qn (splice l p ys) b cap L (λC D=>(L[C*aD t+D]?).getD undef) pM gJ (GN.trans hs) (by rw[hlen];exact hn) ⟨rK.1,λh=>by rw[hlen];exact rK.2 h⟩ (λC h D x lC=>?_) (λC h D x lC=>?_)
    ·obtain⟨v,E,_⟩:=key C h D x lC;rw[E];rfl
    ·obtain⟨v,E,hr⟩:=key C h D x lC;rw[E];exact hr
def abI(b i c s:Nat):sliced (some ⟨b,0,none⟩) 0 i c s = .slice (some ⟨b,0,none⟩) i c:=by
 unfold sliced;split
 ·rfl
 ·rw[Option.map_some,Addr.add_lit];simp
def G4{X:Type}(P:Program)(N:Nat)(σ:S)(d:Nat)(t:TypeId)(x y:A)(k:S->ah X):ah X:=
 match x,y with
 | .view [q] s 0 i,.view [E] L j m=>(match vg P t with
  | some (e,C)=>bif Nat.beq E q&&Nat.beq s (aD C)&&Nat.beq L (aD C)&&Nat.beq (full C) 0&&Nat.blt d N then (match σ.m q with
   |some (.sl (.sl D (o+2) O l))=>bif Nat.beq (full D) 0&&Nat.beq (aD D) (aD C)then (if i<=j/\j<=m/\m<=l.length/\0<l.length then k ((σ.root q (.sl (.sl D (o+2) O (splice l i ((l.take m).drop j))))).set d (.view [q] s 0 (i+(m-j))))else none)else none
   |_=>none)else none
  |none=>none)
 |_,_=>none
def anO{t ty:TypeId}{x y:A}{k:S -> ah X}(h:G4 P N σ d t x y k=some r):∃ cS,k cS=some r /\ ∀ aj ρ a w,Rl w0 N aj ρ σ a w -> ∀ u v,RA w w0.heap.size aj ρ x u -> RA w w0.heap.size aj ρ y v ->
  ∃w' aA ρ' z,(Builtin.append_ #[t,t] ty #[u,v]).run P w = .ok z w'/\Rl w0 N aA ρ' cS (a.put (some d) z) w':=by
 unfold G4 at h;split at h
 ·rename_i q s i q' s' j m;split at h
  ·rename_i e D oJ;obtain⟨fX,ht,inf,hi,O,jC⟩:=yV oJ;cases hc:(Nat.beq q' q&&Nat.beq s (aD D)&&Nat.beq s' (aD D)&&Nat.beq (full D) 0&&Nat.blt d N)with
   |false=>grind
   | true=>
    rw[hc,au]at h;simp only[aN]at hc;obtain⟨⟨⟨⟨c1,c2⟩,c3⟩,c4⟩,c5⟩:=hc;obtain rfl:=cD c1;obtain rfl:=cD c2;obtain rfl:=cD c3;have hd:d<N:=by have:=cQ c5;omega
    split at h
    ·rename_i T g qn l hm;cases U:(Nat.beq (full T) 0&&Nat.beq (aD T) (aD D))with
     |false=>grind
     | true=>
      rw[U,au]at h;rw[aN]at U;have hf:=cD U.1;have Y:=cD U.2;split at h
      ·rename_i hb;obtain⟨b1,b2,b3,b4⟩:=hb
       refine⟨_,h,λaj ρ a w hR u v hu hv=>?_⟩
       obtain⟨A,n,c,hva,a1,a2,rfl⟩:=hu;obtain⟨A',n',c',Z,a1',a2',rfl⟩:=hv;rw[hva]at Z;injection Z with Z;injection Z with C e2 e3;subst C e2 e3
       -- what is moved
       have eE:=hR.root q' _ hm;generalize E:bg.sl (.sl T (g+2) qn l)=x at eE;cases eE with
       |aC=>cases E
       |mp=>cases E
       |gh=>cases E
       | sl Bj y cz iB=>
        injection E with E;subst E;have Nw:Bj = .slice A n c:=by
         simp only[c8,cz]at hva;simp_all
        subst Nw;have Nx:RV w 0 (λ_=>none) [] (.sl T 0 qn l) (.slice A n c):=iB.gn;have hn:n=l.length:=by cases Nx<;>rfl
        obtain⟨hp,DZ,Bk⟩:=Nx.part (a:=j) (h:=m) (by omega) b2 (by omega);obtain⟨A2,c2,news,fW,qF,lD,iA⟩:=hp.reads hf;have hlen:((l.take m).drop j).length=m-j:=by rw[List.length_drop,fJ];omega
        obtain⟨b,cap,gK,iJ,jl,dD⟩:=hR.abH hm hf (p:=i) (ys:=(l.take m).drop j) (news:=news) (by rw[hlen];omega) b4 iA (by rw[hlen];exact hlen ▸ qF.1);rw[cz]at gK;injection gK with gK;injection gK with C e2 e3;subst C e2 e3;rw[hlen]at fW;have qC:sliced (some ⟨b,0,none⟩) 0 i c (aD D) = .slice (some ⟨b,0,none⟩) i c:=abI b i c _;obtain⟨ad,Bj⟩:∃ ad,sliced (some ⟨b,0,none⟩) j m c (aD D) = .slice (some ad) (m-j) (c-j):=by
         unfold sliced;by_cases hcj:c=j
         ·grind
         ·grind
        have UJ:A2=some ad:=by
         grind
        subst UJ;have qG:news.length=(m-j)*inf.size:=by rw[qF.1,hlen,O,Y]
        have dB:=run_append_room_cells (P:=P) w t ty e inf fX hi b 0 i c ad (m-j) (c-j) news qG (λk u L=>by
         have oL:=(dQ.1 L).1;have s7:0<((l.take m).drop j).length:=by
          rcases Nat.eq_zero_or_pos ((l.take m).drop j).length with h0|h0
          ·grind
          ·exact h0
         obtain⟨b',GU,C,_,vh⟩:=qF.2 s7;injection C with C;subst C;rw[Addr.add_lit];exact vh k u L) lD (by omega) (λk L=>by rw[fk,O,<- Y];exact(jl k L).1) (λk L=>by rw[fk,O,<- Y];exact(jl k L).2)
        refine⟨_,aj,ρ,_,by rw[qC,Bj];exact dB,?_⟩;rw[fk,O,<- Y];exact dD.set ⟨some ⟨b,0,none⟩,l.length,c,by simp only[c8,cz],Nat.zero_le _,by omega,(abI b _ c _).symm⟩ hd
      ·cases h
    ·cases h
  ·cases h
 ·cases h
def anP{t:TypeId}{x y:A}:cL λX k=>G4 (X:=X) P N σ d t x y k:=λX Y k g=>by
 unfold G4
 repeat' first|rfl|refine dj ?_ ?_|split
def G5{X:Type}(P:Program)(σ:S)(t:TypeId)(x:A)(k:S->ah X):ah X:=
 match x with
 | .view [q] s i j=>(match vg P t with
  | some (e,C)=>(match Nq P e C with
   | some z=>(match σ.m q with
    |some (.sl (.sl D (o+2) E l))=>if h:C=D then (bif Nat.beq s (aD C)&&Nat.beq (full C) 0 then (if i<=j/\j<=l.length then k (σ.root q (.sl (.sl D (o+2) E (splice l i (List.replicate (j-i) (h ▸ z))))))else none)else none)else none
    |_=>none)
   |none=>none)
  |none=>none)
 |_=>none
def anQ{t ty:TypeId}{x:A}{k:S->ah X}(h:G5 P σ t x k=some r):∃ cS,k cS=some r/\∀ aj ρ a w,Rl w0 N aj ρ σ a w->∀ u,RA w w0.heap.size aj ρ x u->
  ∃w',(Builtin.clear_ #[t] ty #[u]).run P w = .ok (.tuple #[]) w'/\Rl w0 N aj ρ cS a w':=by
 unfold G5 at h;split at h
 ·rename_i q s i j;split at h
  ·rename_i e C oJ;obtain⟨fX,ht,inf,hi,gG,jC⟩:=yV oJ;split at h
   ·rename_i z U;split at h
    ·rename_i t' g qn l hm;split at h
     ·rename_i mV;subst mV;cases Y:(Nat.beq s (aD C)&&Nat.beq (full C) 0)with
      |false=>rw[Y]at h;cases h
      | true=>
       rw[Y,au]at h;rw[aN]at Y;obtain rfl:=cD Y.1;have hf:=cD Y.2;split at h
       ·rename_i hb
        refine⟨_,h,λaj ρ a w hR u hu=>?_⟩
        obtain⟨A,n,c,Z,a1,a2,rfl⟩:=hu;unfold Nq at U;split at U
        ·cases U
        ·rename_i D DX;split at U
         ·cases U
         ·rename_i vs jM;have oK:inf.zero=some D:=by unfold zeroOf at DX;simpa [hi]using DX
          obtain⟨qE,ku⟩:=UC _ _ jM;have E:=lV C (full C) vs z U;have mG:D.cells.size=aD C:=by rw[<-ko C (full C) z,<-E.1,qE];simp
          have hzr:∀w:World,(zeroValue e).run P w = .ok D w:=λw=>by simp[zeroValue,typeInfo,hi,oK]
          rcases Nat.eq_zero_or_pos (j-i)with h0|h0
          ·have uZ:splice l i (List.replicate (j-i) z)=l:=by rw[h0];simp[splice]
           refine⟨w,?_,?_⟩
           ·unfold sliced;rw[h0];cases (if c=i then A else A.map (·.add (i*aD C)))<;>simp[Builtin.clear_,gO fX]
           ·show Rl w0 N aj ρ (σ.root q (.sl (.sl C (g+2) qn (splice l i (List.replicate (j-i) z))))) a w;rw[uZ];have:σ.root q (.sl (.sl C (g+2) qn l))=σ:=by
             unfold S.root;have:cc σ.m q (some (.sl (.sl C (g+2) qn l)))=σ.m:=by
              funext k;by_cases E:k=q
              ·subst E;rw[cm,hm]
              ·rw[cM _ _ _ E]
             rw[this]
            rw[this];exact hR
          ·have oM:(Builtin.zeroCells D.cells (j-i))=madeCells D.cells ((j-i)*D.cells.size):=rfl;have iA:wW C (List.replicate (j-i) z) (Builtin.zeroCells D.cells (j-i)).toList:=by
            intro i' h' o' L x O;rw[List.getElem_replicate]at O;have hj:L<aD C:=by have:=(dQ.1 O).1;rwa [ko]at this
            rw[List.length_replicate]at h';have nO:=hj;rw[<-mG]at nO;have jl:(Builtin.zeroCells D.cells (j-i)).toList[i'*aD C+L]?=some D.cells[L]:=by
             rw[oM,Array.getElem?_toList,<-mG];exact abD D.cells _ i' L nO (by
              have:(i'+1)*D.cells.size<=(j-i)*D.cells.size:=jD _ (by omega);rw[Nat.succ_mul]at this;omega)
            rw[DY C hf o' (full C)]at O;have G6:L<(enc C (full C) z).length:=(dQ.1 O).1;rw[<-E.1]at G6;have hy:=bZ G6;generalize vs[L]=y at hy;obtain⟨v,hv,UD⟩:=ku L y hy;have T:D.cells[L]=v:=by
             have e1:D.cells.toList[L]?=some D.cells[L]:=by simp[nO]
             rw[e1]at hv;injection hv
            have jL:∀(w':World) (B':Nat) (aA:bG) (q':aa Nat),RV w' B' aA q' x v:=λw' B' aA q'=>(abA UD _).wk (E.2 L y x hy O)
            exact⟨_,jl,by rw[T];exact(jL w 0 (λ_=>none) []).one,λw' B' aA q'=>by rw[T];exact jL _ _ _ _⟩
           have qG:(Builtin.zeroCells D.cells (j-i)).toList.length=(List.replicate (j-i) z).length*aD C:=by rw[oM,List.length_replicate,kY,size_madeCells,mG]
           obtain⟨b,cap,cz,iJ,jl,dD⟩:=hR.abH hm hf (p:=i) (ys:=List.replicate (j-i) z) (by rw[List.length_replicate];omega) (by omega) iA qG;simp only[c8,cz]at Z;injection Z with Z;injection Z with e1 e2 e3;subst e1 e2 e3;refine⟨_,?_,dD⟩;have fW:sliced (some ⟨b,0,none⟩) i j cap (aD C) = .slice (some ⟨b,i*aD C,none⟩) (j-i) (cap-i):=by
            unfold sliced;rw[bX,Option.map_some,Addr.add_lit,fk]
           have jN:=run_storeCells_cells (P:=P) b (i*aD C) (Builtin.zeroCells D.cells (j-i)).toList 0 w (λk E=>(jl k E).1) (λk E=>(jl k E).2) (λv hv=>by
            obtain⟨k,E⟩:=List.mem_iff_getElem?.1 hv;have oL:=(dQ.1 E).1;rw[qG,List.length_replicate]at oL;have s7:=oA C;obtain⟨x,O⟩:=Bh C 0 z (k % aD C) (Nat.mod_lt _ s7);have dA:k / aD C<(List.replicate (j-i) z).length:=by rw[List.length_replicate];exact Nat.div_lt_of_lt_mul (by rw[Nat.mul_comm];exact oL)
            obtain⟨v',T,lD,_⟩:=iA (k / aD C) dA 0 (k % aD C) x (by rw[List.getElem_replicate];exact O);rw[Nat.mul_comm,Nat.div_add_mod,E]at T;injection T with T;rw[T];exact lD)
           simp only[Nat.add_zero]at jN;rw[fW];obtain⟨n',pJ⟩:∃n',j-i=n'+1:=⟨j-i-1,by omega⟩
           rw[pJ]at jN ⊢;simp[Builtin.clear_,gO fX,hzr,jN]
       ·cases h
     ·cases h
    ·cases h
   ·cases h
  ·cases h
 ·cases h
def anR{t:TypeId}{x:A}:cL λX k=>G5 (X:=X) P σ t x k:=λX Y k g=>by
 unfold G5
 repeat' first|rfl|refine dj ?_ ?_|split
end
def yX(place:Nat->ah (Nat×Nat))(cells:aa Lf):aa (Nat×A)->ah (aa Lf)
 |[]=>some cells
 | (i,x) :: rest=>match place i,x.yP with
  |some (off,n),some xs=>if xs.length=n/\off+n<=cells.length then (bif xs.all Lf.live then yX place (splice cells off xs) rest else none)else none
  |_,_=>none
def abJ(P:Program)(t:TypeId):ah (Nat->ah (Nat×Nat)):=
 match P.underlying t with
 |some (.array _ e)=>(P.info? e).map λC=>λi=>some (i*C.size,C.size)
 |some (.struct fields)=>(fields.toList.mapM (λf=>(P.info? f.type).map λi=>(f.offset,i.size))).map λps=>(ps.toArray[·]?)
 |_=>none
def D0{X:Type}(P:Program)(σ:S)(t:TypeId)(parts:aa (Nat×Operand))(k:A->ah X):ah X:=
 match zeroOf P t,abJ P t with
 | some z,some pl=>match yX pl (z.cells.toList.map nR) (parts.map λp=>(p.1,aK σ p.2))with
  |some cs=>k (.agg cs)
  |none=>none
 |_,_=>none
def Lf.asV:Lf->ah V
 |.v x=>some x
 |_=>none
def vi:aa Lf->ah (aa V)
 |[]=>some []
 | x :: xs=>match x.asV,vi xs with
  |some y,some ys=>some (y::ys)
  |_,_=>none
def G7(t:TC)(g:Nat):Nat->aa V->ah (aa (T t))
 |0,[]=>some []
 |0,_=>none
 | n+1,C=>match dec t g (C.take (aD t)),G7 t g n (C.drop (aD t))with
  |some x,some xs=>some (x::xs)
  |_,_=>none
def yY{X:Type}(P:Program)(N:Nat)(σ:S)(d:Nat)(t:TypeId)(len:Nat)(parts:aa (Nat×Operand))(k:S->ah X):ah X:=
 match vg P t with
 | some (e,C)=>match zeroOf P e with
  | some z=>bif Nat.beq (full C) 0&&Nat.beq z.cells.size (aD C)&&Nat.blt (len*aD C) 16777217 then (match yX (λi=>some (i*aD C,aD C)) (List.replicate len (z.cells.toList.map nR)).flatten (parts.map λp=>(p.1,aK σ p.2))with
   | some cs=>(match vi cs with
    | some D=>(match G7 C 0 len D with
     |some l=>g9 N σ d (.sl (.sl C 2 true l)) (.lf (.own [d])) k
     |none=>none)
    |none=>none)
   |none=>none)else none
  |none=>none
 |none=>none
section
variable {P:Program} {w w':World} {w0:Wd} {B N:Nat} {aj aA:bG} {ρ ρ':Nat->Loc} {σ:S} {a:Act} {X:Type} {d:Nat} {r:X}
def abK(off:Nat):∀ (l:aa Value) (n:Nat) (cs:Array Value),off+n+l.length <= cs.size ->
  ((l.zipIdx n).foldl (λ(cs:Array Value) (p:Value×Nat)=>cs.setIfInBounds (off+p.2) p.1) cs).toList=splice cs.toList (off+n) l
 |[],n,cs,_=>by simp[splice]
 | v :: l,n,cs,h=>by
  simp at h;rw[List.zipIdx_cons,List.foldl_cons,abK off l (n+1) _ (by simp;omega)];have C:off+n<cs.toList.length:=by simp;omega
  simp only[splice,Array.toList_setIfInBounds,List.length_cons];have D:(cs.toList.set (off+n) v).take (off+(n+1))=cs.toList.take (off+n)++[v]:=by
   rw[show off+(n+1)=off+n+1 by omega,List.take_succ_eq_append_getElem (by simpa using C),mH,List.take_set_of_le (dM _)]
  have E:(cs.toList.set (off+n) v).drop (off+(n+1)+l.length)=cs.toList.drop (off+(n+1)+l.length):=by
   rw[List.drop_set_of_lt (by omega)]
  grind
def eD.splice{cs xs:aa Lf}{D E:Array Value}(h:eD w B aj ρ cs D)(L:eD w B aj ρ xs E){off:Nat}(O:off+xs.length <= cs.length){T:Array Value}(Y:T.toList=Proofs.YtnilicojgkhpnaaGreat.splice D.toList off E.toList):eD w B aj ρ (Proofs.YtnilicojgkhpnaaGreat.splice cs off xs) T:=by
 have Z:off+E.toList.length <= D.toList.length:=by rw[kY,kY,L.1,h.1];exact O
 refine⟨?_,λj x C=>?_⟩
 ·rw[sU _ _ _ O,<- kY,Y,sU _ _ _ Z,kY,h.1]
 ·have e:T[j]?=(Proofs.YtnilicojgkhpnaaGreat.splice D.toList off E.toList)[j]?:=by rw[<- Y,Array.getElem?_toList]
  rw[e,wO _ _ _ Z,kY,L.1];rw[wO _ _ _ O]at C;by_cases U:j<off
  ·simp[U,Array.getElem?_toList]at C ⊢;exact h.2 j x C
  ·by_cases h2:j<off+xs.length
   ·simp[U,h2,Array.getElem?_toList]at C ⊢;exact L.2 _ x C
   ·simp[U,h2,Array.getElem?_toList]at C ⊢;exact h.2 j x C
def Ny{place:Nat -> ah (Nat×Nat)}:∀ (parts:aa (Nat×A)) (cells:aa Lf) (C:Array Value) (D:aa (Nat×Value)) (out:aa Lf),yX place cells parts=some out -> eD w B aj ρ cells C -> D.length=parts.length ->
  (∀(j:Nat) p q,parts[j]?=some p -> D[j]?=some q -> p.1=q.1/\RA w B aj ρ p.2 q.2) -> ∃E,Instr.fill place C D=some E/\eD w B aj ρ out E
 | [],cells,C,D,out,h,L,O,T=>by
  have:D=[]:=List.eq_nil_of_length_eq_zero O;subst this;injection h with h;subst h;exact⟨C,rfl,L⟩
 | (i,x) :: rest,cells,C,D,out,h,L,O,T=>by
  cases D with
  |nil=>simp at O
  | cons v D=>
   obtain⟨i',v⟩:=v;obtain⟨e,Y⟩:=T 0 _ _ rfl rfl;simp only at e Y;subst e;unfold yX at h;split at h
   ·rename_i off n xs rL mU;split at h
    ·rename_i U;cases Z:xs.all Lf.live with
     |false=>grind
     | true=>
      rw[Z,au]at h;obtain⟨hlx,_⟩:=GV mU Z Y;have UK:v.cells.size=n:=by rw[hlx.1];exact U.1
      have lz:¬ (off+v.cells.size > C.size):=by rw[UK,L.1];omega
      have anS:(v.cells.zipIdx.foldl (λ(cs:Array Value) (p:Value×Nat)=>cs.setIfInBounds (off+p.2) p.1) C).toList=Proofs.YtnilicojgkhpnaaGreat.splice C.toList off v.cells.toList:=by
       have:=abK off v.cells.toList 0 C (by rw[kY];omega);rw[<- Array.foldl_toList,Array.toList_zipIdx];exact this
      have uZ:=L.splice hlx (off:=off) (by rw[U.1];exact U.2) anS;obtain⟨E,vb,dD⟩:=Ny rest _ _ D out h uZ (by simpa using O) (λj p q hp' Bb=>T (j+1) p q (by simpa using hp') (by simpa using Bb));refine⟨E,?_,dD⟩;have dc:(v.cells.size≠n || off+v.cells.size > C.size)=false:=by
       grind
      simp only[Instr.fill,rL];rw[bX (by rw[dc];simp)];exact vb
    ·cases h
   ·cases h
def anT(z:Value):eD w B aj ρ (z.cells.toList.map nR) z.cells:=by
 refine⟨by simp,λj x C=>?_⟩
 rw[eF]at C;cases D:z.cells.toList[j]? with
 |none=>simp_all
 | some v=>
  rw[D]at C;injection C with C;subst C;exact⟨v,by simpa using D,Ns v⟩
def anU{t:TypeId}{parts:Array (Nat×Operand)}{k:A -> ah X}(h:D0 P σ t parts.toList k=some r):∃ y,k y=some r /\ ∀ aj ρ a w,Rl w0 N aj ρ σ a w ->
  ∃v,(Instr.build t (parts.map λ(i,x)=>(i,a.eval x))).run P w = .ok v w/\RA w w0.heap.size aj ρ y v:=by
 unfold D0 at h;split at h
 ·rename_i z pl E C;split at h
  ·rename_i cs gp
   refine⟨_,h,λaj ρ a w hR=>?_⟩
   obtain⟨U,Y,dD⟩:=Ny (w:=w) (B:=w0.heap.size) (aj:=aj) (ρ:=ρ) _ _ z.cells (parts.toList.map λp=>(p.1,a.eval p.2)) cs gp (anT z) (by simp) (λj p q D L=>by
    rw[eF]at D L;cases Z:parts.toList[j]? with
    |none=>rw[Z]at D;cases D
    | some x=>
     rw[Z]at D L;injection D with D;injection L with L;subst D L;exact⟨rfl,hR.aK x.2⟩)
   refine⟨_,run_build (P:=P) w t _ U ?_,U,rfl,dD⟩;have G8:(parts.map λ(i,x)=>(i,a.eval x)).toList=parts.toList.map λp=>(p.1,a.eval p.2):=by simp
   rw[G8];unfold zeroOf at E;unfold Program.built;cases hi:P.info? t with
   |none=>simp[hi]at E
   | some i=>
    have E:i.zero=some z:=by simpa [hi]using E
    unfold abJ at C;split at C
    ·rename_i n e O;cases T:P.info? e with
     |none=>simp[T]at C
     | some ie=>
      rw[T]at C;injection C with C;subst C;simp[O,E,T];exact Y
    ·rename_i fields O;cases D:fields.toList.mapM (λf=>(P.info? f.type).map λi=>(f.offset,i.size))with
     |none=>rw[D]at C;cases C
     | some ps=>
      rw[D]at C;injection C with C;subst C;simp only[O,E,D];exact Y
    ·cases C
  ·cases h
 ·cases h
def Nz:∀ (cs:aa Lf) (C:aa V),vi cs=some C->cs=C.map .v
 |[],C,h=>by injection h with h;subst h;rfl
 | x :: xs,C,h=>by
  unfold vi at h;split at h
  next y ys D E=>injection h with h;subst h;rw[Nz xs ys E,List.map_cons];cases x<;>first|(injection D with D;rw[D])|cases D
  ·cases h
def UL(t:TC)(g:Nat):∀ (n:Nat) (C:aa V) (l:aa (T t)),G7 t g n C=some l -> l.length=n/\C.length=n*aD t /\ ∀ i (hi:i<l.length) (j:Nat) x,(enc t g l[i])[j]?=some x -> ∃ y,C[i*aD t+j]?=some y/\Wk y x
 | 0,[],l,h=>by
  injection h with h;subst h;exact⟨rfl,by simp,λi hi=>by simp at hi⟩
 |0,_::_,l,h=>by cases h
 | n+1,C,l,h=>by
  unfold G7 at h;split at h
  ·rename_i x xs L O;injection h with h;subst h;obtain⟨U,h2,h3⟩:=UL t g n _ xs O;have D:=lV t g _ x L;have hlen:(C.take (aD t)).length=aD t:=by rw[D.1,ko]
   have oD:aD t <= C.length:=by rw[fJ]at hlen;omega
   refine⟨by simp[U],?_,λi hi j y E=>?_⟩
   ·grind
   ·cases i with
    | zero=>
     have Y:j<aD t:=by have:=(dQ.1 E).1;rwa [ko]at this
     have Z:=bZ (by rw[hlen];exact Y);refine⟨_,?_,D.2 j _ y Z E⟩;simp_all
    |succ i =>grind
  ·cases h
def RV.under{k:aa Nat}{x:V}{v:Value}{n:Nat}(h:RV w B aj k x v)(O:1<k.length\/x.aF=true)(T:w.heap.size<=w'.heap.size)(D:∀ b,b<w.heap.size->aj b≠some [n]->w'.heap[b]?=w.heap[b]?)(E:∀ b,b<w.heap.size->aA b=aj b):RV w' B aA k x v:=
 h.map (Q:=λk L=>k=L/\1<k.length) T (λb C h=>⟨D b C (by rw[h];simp),(E b C).trans h⟩) (λb k L C h e=>by
  obtain⟨rfl,e⟩:=e;exact⟨D b C (by rw[h];rintro⟨⟩;simp at e),(E b C).trans h,λ_ _ _=>⟨rfl,by simp⟩⟩) (O.symm.imp_right λh=>⟨rfl,h⟩)
def s8(w:World)(B:Nat)(aj:bG)(n C:Nat)(t:TC)(o:Nat)(l:aa (T t))(D:aa Value):Prop:=
 ∀i (hi:i<l.length) j x,(enc t o l[i])[j]?=some x->∃v,D[i*aD t+j]?=some v/\RV w B aj (j::(C+i)::aD t::[n]) x v
def RV.anV{n:Nat}{t:TC}{o:Nat}{C:Bool}{l:aa (T t)}{u:Value}(h:RV w B aj [n] (.sl t (o+2) C l) u){B':Nat}(hB:∀ b,aj b=some [n] -> B' <= b):
  ∃xs,w.ownsRow B' (tid t) (aD t) u l.length xs/\(∀b,u.ownBlock=some b -> aj b=some [n])/\(C=true -> u.ownBlock≠none)/\s8 w B aj n 0 t o l xs:=by
 cases h with
 |fA=>omega
 |fK=>omega
 |ep=>exact⟨[],⟨by simp,.inl ⟨rfl,rfl⟩⟩,by simp[Value.ownBlock],by simp,λi hi=>by simp at hi⟩
 |aF _ _ _ _ _ _ _ _ _ ho=>omega
 | own _ _ _ _ _ b cap cs us D E L O U hc hr=>
  refine⟨cs.toList.take _,⟨?_,.inr ⟨b,cap,cs,rfl,hB b D,E,O,U.1,L,rfl⟩⟩,λY Z=>?_,λ_=>by simp[Value.ownBlock],λi hi j x hx=>?_⟩
  ·simp_all
  ·have:b=Y:=by simpa [Value.ownBlock]using Z
   simp_all
  ·have hj:j<aD t:=by have:=(dQ.1 hx).1;rwa [ko]at this
   have dA:i*aD t+j<l.length*aD t:=by
    have:(i+1)*aD t <= l.length*aD t:=jD _ hi;rw[Nat.succ_mul]at this;omega
   grind
def s8.append{n:Nat}{t:TC}{o:Nat}{l l2:aa (T t)}{xs ys:aa Value}(h:s8 w B aj n 0 t o l xs)(E:s8 w B aj n l.length t o l2 ys)(U:xs.length=l.length*aD t):s8 w B aj n 0 t o (l++l2) (xs++ys):=by
 intro i hi j x C;by_cases D:i<l.length
 ·rw[List.getElem_append_left D]at C;obtain⟨v,L,r⟩:=h i D j x C
  grind
 ·rw[List.getElem_append_right (by omega)]at C;have O:i-l.length<l2.length:=by rw[List.length_append]at hi;omega
  obtain⟨v,L,r⟩:=E _ O j x C;refine⟨v,?_,?_⟩
  ·have e:i*aD t+j=xs.length+((i-l.length)*aD t+j):=by
    rw[ Nat.sub_mul];have:l.length*aD t <= i*aD t:=jD _ (by omega);omega
   grind
  ·grind
def s8.under{n C:Nat}{t:TC}{o:Nat}{l:aa (T t)}{D:aa Value}(h:s8 w B aj n C t o l D)(E:w.heap.size<=w'.heap.size)(L:∀ b,b<w.heap.size->aj b≠some [n]->w'.heap[b]?=w.heap[b]?)(O:∀ b,b<w.heap.size->aA b=aj b):s8 w' B aA n C t o l D:=
 λi hi j x U=>let ⟨v,Y,r⟩:=h i hi j x U;⟨v,Y,r.under (.inl (by simp)) E L O⟩
def abL{n:Nat}{t:TC}{o:Nat}{l:aa (T t)}{u:Value}{xs:aa Value}{B':Nat}(h:w.ownsRow B' (tid t) (aD t) u l.length xs)(D:s8 w B aj n 0 t o l xs)(E:∀ b,u.ownBlock=some b -> aj b=some [n]):
  RV w B aj [n] (.sl t (o+2) false l) u:=by
 rcases h.2 with ⟨rfl,L⟩|⟨b,cap,cs,rfl,hB,O,U,Y,Z,ht⟩
 ·have:=List.eq_nil_of_length_eq_zero L;subst this;exact .ep _ _ _
 ·have pL:∀ i _ j x,(enc t o l[i])[j]?=some x -> ∃ v,cs[i*aD t+j]?=some v/\RV w B aj (j :: i :: aD t :: [n]) x v:=by
   intro i hi j x C;obtain⟨v,hv,r⟩:=D i hi j x C
   grind
  refine .own [n] t o false l b cap cs (λi j=>(cs[i*aD t+j]?).getD undef) (E b rfl) O Z U ⟨Y,λh=>by cases h⟩ (λi hi j x C=>?_) (λi hi j x C=>?_)
  ·grind
  ·grind
def Rl.anW{t e ty:TypeId}{D:TC}{i:TypeInfo}{z:Value}{rr o m c:Nat}{q:Bool}{l l2:aa (T D)}{u:Value}{ad:ah Addr}{news:aa Value}(h:Rl w0 N aj ρ σ a w)(hF:w0.F rr=none)(fX:P.underlying t=some (.slice e))(ht:tid D=e)(hi:P.info? e=some i)(hz:i.zero=some z)
  (gG:i.size=aD D) (jC:i.bytes <= 65536) (mG:z.cells.size=aD D) (hd:RV w w0.heap.size aj [rr] (.sl D (o+2) q l) u) (qF:Reads w w.heap.size (aD D) ad m news) (lD:∀v∈news,v.oneCell'=true) (hm:m=l2.length)
  (G1:s8 w w0.heap.size aj rr l.length D o l2 news) (hlen:l.length+l2.length<1073741824):
  ∃E w' aA,(Builtin.append_ #[t,t] ty #[u,.slice ad m c]).run P w = .ok E w'/\Rl w0 N aA (cc ρ rr (.dX E)) ((σ.drop rr).root rr (.sl (.sl D (o+2) false (l++l2)))) a w'/\mP E=true:=by
 subst ht hm;obtain⟨xs,yW,NA,G0,iA⟩:=hd.anV (B':=0) (λb _=>Nat.zero_le b);have gJ:(l.length+l2.length)*i.bytes <= 140737488355328:=by
  have h1:(l.length+l2.length)*i.bytes <= 1073741824*65536:=Nat.mul_le_mul (by omega) jC;omega
 obtain⟨E,w',dB,U,O,lX⟩:=T4 (P:=P) w 0 t ty (tid D) i z (aD D) i.bytes fX hi hz gG rfl mG (oA D) u l.length xs yW _ ad l2.length c news qF lD (by unfold maxLen;omega) gJ (Nat.zero_le _);have G2:(l++l2).length=l.length+l2.length:=List.length_append;rw[<- G2]at U;have Bi:=iA.append G1 yW.1;have fW:mP E=true:=by rcases U.2 with ⟨rfl,_⟩|⟨_,_,_,rfl,_⟩<;>rfl
 have Y:Below 0 w w':=(Below.refl 0 w).grown O (Nat.zero_le _) (λ_ _=>Nat.zero_le _);have kz:ja w0 w w':=⟨Y.os,Y.tape,Y.output,Y.size,λk L hL=>O.block k (Nat.lt_of_lt_of_le L h.below.size) (λe'=>by
  rcases(h.dg k _ (NA k e'.symm)).1 with h1|h1
  ·exact absurd L (Nat.not_lt.2 h1)
  ·exact h1 hL)⟩
 have Z:∀b,b<w.heap.size -> aj b≠some [rr] -> w'.heap[b]?=w.heap[b]?:=λb C dc=>O.block b C (λe'=>dc (NA b e'.symm))
 by_cases sZ:E.ownBlock=some w.heap.size
 ·have dA:w.heap.size<w'.heap.size:=by
   rcases U.2 with ⟨rfl,_⟩|⟨b,cap,cs,rfl,_,hh,_⟩
   ·cases sZ
   ·have:b=w.heap.size:=by simpa [Value.ownBlock]using sZ
    grind
  have wY:∀b,b<w.heap.size -> cc aj w.heap.size (some [rr]) b=aj b:=λb C=>cM _ _ _ (by omega)
  refine⟨E,w',cc aj w.heap.size (some [rr]),dB,h.yT hF kz ⟨O.size,Z,wY,λb C=>(h.dg b [] C).2.2 rfl⟩ (λb k C L=>?_) (λr hr=>cM _ _ _ hr) (.sl E _ (cm _ _ _) (abL U (Bi.under O.size Z wY) (λb C=>?_))),fW⟩
  ·by_cases e:b=w.heap.size
   ·subst e;rw[cm]at L
    grind
   ·rw[cM _ _ _ e]at L;have:=(h.dg b k L).2.1;omega
  ·rw[sZ]at C;injection C with C;subst C;exact cm _ _ _
 ·have UG:E.ownBlock=u.ownBlock:=by
   rcases lX with lX|lX
   ·exact lX
   ·exact absurd lX sZ
  refine⟨E,w',aj,dB,h.yT hF kz ⟨O.size,Z,λ_ _=>rfl,λb C=>(h.dg b [] C).2.2 rfl⟩ (λb k C L=>?_) (λr hr=>cM _ _ _ hr) (.sl E _ (cm _ _ _) (abL U (Bi.under O.size Z (λ_ _=>rfl)) (λb C=>NA b (by rw[<- UG];exact C)))),fW⟩
  have:=(h.dg b k L).2.1;omega
end
end Go.Proofs.YtnilicojgkhpnaaGreat
