/-
  Running the program over pure contents, and that it follows (part 1). Nothing here is a claim.
-/
import Derived.Test.YtmffpkippmkjbaaGreatDoorAppend
import Derived.Test.YtmffpkippmkjbaaGreatDoorLaws
import Derived.Handy
import Derived.Great.BuildSlice
set_option linter.unusedSimpArgs false
namespace Go.Proofs.YtmffpkippmkjbaaGreatDoor
open Go.RowKit
set_option linter.unusedVariables false
set_option linter.unusedSimpArgs false
structure bf where
 cZ:Int
 aO:Int
 rows:Int
 cV:Int
structure bW where
 cW:Int
 row:Int
 ck:Int
structure kN where
 order:Int
 hash:Bool
structure Ez where
 owner:List Int
structure j5 where
 kind:Int
 cW:Int
 row:Int
 ck:Int
structure fo where
 j6:Int
 rp:Int
 gq:Int
 lA:Int
 j7:Int
 qb:Int
 lB:Int
 lC:Int
 oa:Int
 wr:Int
 nu:Int
 nv:Int
 qc:Int
 oc:Int
 od:Int
 xp:Int
 xs:Int
structure cq where
 open_:Bool
 row:Int
structure eN where
 aO:List cq
 bM:Int
structure bQ where
 at_:Int
 cmd:j5
structure iD where
 last:List Int
 dA:List Int
structure cO where
 symbols:List Int
 qd:Bool
structure iE where
 cells:List cO
 cT:List Int
 cU:List Int
structure oe where
 cT:Int
 cU:Int
structure cu where
 rows:List Int
 counts:List Int
 eE:Int
structure dO where
 cx:Int
 map:List Int
structure iF where
 bX:List Int
 wait:Int
 j8:Bool
structure aS where
 id:Int
 c9:Int
 line:Int
 write:Bool
 data:Int
 at_:Int
structure bT where
 weight:Int
 nw:Int
structure iS where
 on:Bool
 low:Int
 high:Int
structure EA where
 owner:List Int
 length:Int
structure EB where
 id:Int
 at_:Int
structure j9 where
 state:Int
 since:Int
 idle:Int
structure ke where
 down:Int
 sleep:Int
structure bx where
 line:Int
 code:Int
 times:Int
structure EC where
 aaV:List ByteArray
structure ED where
 aaW:List Int
 next:Int
structure EE where
 count:Int
 commands:List j5
structure xM where
 count:Int
 tag:Int
structure Al where
 root:Int
 mid:List xM
 leaf:List xM
structure EF where
 key:Int
 tree:Al
 data:List Int
 tags:List Int
structure og where
 next:Int
 every:Int
 wait:Int
structure EG where
 index:Int
 before:cO
 after:cO
 code:Int
structure EH where
 cW:Int
 from_:Int
 to:Int
 next:Int
structure fB where
 kf:Int
 cap:Int
 gX:Int
 low:Int
 high:Int
 weights:List Int
 gY:ke
structure kO where
 eO:fB
 next:fB
 waits:Bool
structure gu where
 bI:bf
 cr:fo
 mapping:kN
 cx:Int
 interval:Int
 mm:Int
 gZ:oe
structure cF where
 id:Int
 at_:Int
 data:Int
 code:Int
structure cB where
 config:gu
 box:kO
 now:Int
 gy:eN
 ready:iD
 array:iE
 spare:dO
 dc:iF
 dW:List cu
 guard:List Int
 pending:List bW
 queue:List aS
 shares:List bT
 drain:iS
 bM:j9
 iG:og
 errors:List bx
 trace:List bQ
 iH:List cF
structure Am where
 kind:Int
 request:aS
 n:Int
 aaX:Int
 addr:bW
 tD:fB
structure EI where
 line:Int
 data:Int
 code:Int
structure EJ where
 b:List Int
 i:Int
 h:Int
/-- The codes of the types. -/
inductive TC where
 | int | u8 | bool | str
 | ef
 | Addr
 | lD
 | tE
 | Command
 | hD
 | dR
 | jf
 | Event
 | kP
 | Cell
 | Array
 | nx
 | eP
 | iI
 | kQ
 | dB
 | dP
 | lE
 | tF
 | tG
 | Power
 | lF
 | dF
 | tH
 | tI
 | Receiver
 | Node
 | Tree
 | tJ
 | ny
 | tK
 | Move
 | jz
 | mo
 | Config
 | fK
 | eR
 | Act
 | Fact
 | tL
 | sl (t:TC)
 | xN
 | xO (g:Nat)
 | xP (g:Nat)
 | xQ (g:Nat)
 | fnCommand (g:Nat)
deriving DecidableEq
def T:TC->Type
 | .int=>Int
 | .u8=>Int
 | .bool=>Bool
 | .str=>ByteArray
 | .ef=>bf
 | .Addr=>bW
 | .lD=>kN
 | .tE=>Ez
 | .Command=>j5
 | .hD=>fo
 | .dR=>cq
 | .jf=>eN
 | .Event=>bQ
 | .kP=>iD
 | .Cell=>cO
 | .Array=>iE
 | .nx=>oe
 | .eP=>cu
 | .iI=>dO
 | .kQ=>iF
 | .dB=>aS
 | .dP=>bT
 | .lE=>iS
 | .tF=>EA
 | .tG=>EB
 | .Power=>j9
 | .lF=>ke
 | .dF=>bx
 | .tH=>EC
 | .tI=>ED
 | .Receiver=>EE
 | .Node=>xM
 | .Tree=>Al
 | .tJ=>EF
 | .ny=>og
 | .tK=>EG
 | .Move=>EH
 | .jz=>fB
 | .mo=>kO
 | .Config=>gu
 | .fK=>cF
 | .eR=>cB
 | .Act=>Am
 | .Fact=>EI
 | .tL=>EJ
 | .sl t=>List (T t)
 | .xN=>cB
 | .xO _=>Int
 | .xP _=>aS
 | .xQ _=>bW
 | .fnCommand _=>j5
def aq:TC->Nat
 | .xN=>76
 | .xO _=>3
 | .xP _=>8
 | .xQ _=>5
 | .fnCommand _=>6
 | .ef=>4
 | .Addr=>3
 | .lD=>2
 | .tE=>1
 | .Command=>4
 | .hD=>17
 | .dR=>2
 | .jf=>2
 | .Event=>5
 | .kP=>2
 | .Cell=>2
 | .Array=>3
 | .nx=>2
 | .eP=>3
 | .iI=>2
 | .kQ=>3
 | .dB=>6
 | .dP=>2
 | .lE=>3
 | .tF=>2
 | .tG=>2
 | .Power=>3
 | .lF=>2
 | .dF=>3
 | .tH=>1
 | .tI=>2
 | .Receiver=>2
 | .Node=>2
 | .Tree=>3
 | .tJ=>6
 | .ny=>3
 | .tK=>6
 | .Move=>4
 | .jz=>8
 | .mo=>17
 | .Config=>28
 | .fK=>4
 | .eR=>75
 | .Act=>20
 | .Fact=>3
 | .tL=>3
 | _=>1
/-- The grade of what a value leads to if all of it is owned. -/
def full:TC->Nat
 | .int | .u8 | .bool | .str=>0
 | .ef=>0
 | .Addr=>0
 | .lD=>0
 | .tE=>2
 | .Command=>0
 | .hD=>0
 | .dR=>0
 | .jf=>2
 | .Event=>0
 | .kP=>2
 | .Cell=>2
 | .Array=>4
 | .nx=>0
 | .eP=>2
 | .iI=>2
 | .kQ=>2
 | .dB=>0
 | .dP=>0
 | .lE=>0
 | .tF=>2
 | .tG=>0
 | .Power=>0
 | .lF=>0
 | .dF=>0
 | .tH=>2
 | .tI=>2
 | .Receiver=>2
 | .Node=>0
 | .Tree=>2
 | .tJ=>2
 | .ny=>0
 | .tK=>2
 | .Move=>0
 | .jz=>2
 | .mo=>2
 | .Config=>0
 | .fK=>0
 | .eR=>4
 | .Act=>2
 | .Fact=>0
 | .tL=>2
 | .sl t=>full t+2
 | .xN=>4
 | .xO _=>0
 | .xP _=>0
 | .xQ _=>0
 | .fnCommand _=>0
/-- The number of a type in this program (0 where the program does not have it). -/
def tid:TC->TypeId
 | .int=>3
 | .u8=>5
 | .bool=>4
 | .str=>9
 | .ef=>69
 | .Addr=>211
 | .lD=>71
 | .tE=>0
 | .Command=>225
 | .hD=>70
 | .dR=>198
 | .jf=>82
 | .Event=>227
 | .kP=>83
 | .Cell=>263
 | .Array=>86
 | .nx=>72
 | .eP=>208
 | .iI=>87
 | .kQ=>88
 | .dB=>215
 | .dP=>219
 | .lE=>93
 | .tF=>0
 | .tG=>0
 | .Power=>94
 | .lF=>75
 | .dF=>200
 | .tH=>0
 | .tI=>0
 | .Receiver=>0
 | .Node=>0
 | .Tree=>0
 | .tJ=>0
 | .ny=>95
 | .tK=>0
 | .Move=>0
 | .jz=>77
 | .mo=>79
 | .Config=>74
 | .fK=>233
 | .eR=>100
 | .Act=>0
 | .Fact=>0
 | .tL=>0
 | .sl .int=>32
 | .sl .bool=>0
 | .sl .str=>67
 | _=>0
inductive V where
 | int (k:IntKind) (n:Int)
 | bool (b:Bool)
 | str (s:ByteArray)
 | nil
 | sl (t:TC) (o:Nat) (q:Bool) (l:List (T t))
def V.aD:V->Option Int | .int .i64 n=>some n | _=>none
def V.I7:V->Option Int | .int .u8 n=>some n | _=>none
def V.jA:V->Option Bool | .bool b=>some b | _=>none
def V.I8:V->Option ByteArray | .str s=>some s | _=>none
def V.cR(t:TC)(o:Nat):V->Option (List (T t))
 | .sl t' o' _ l=>bif Nat.beq o' o || (Nat.ble (full t+2) o'&&Nat.ble (full t+2) o)then (if h:t'=t then some (h ▸ l)else none)else none
 | .nil=>some []
 | _=>none
inductive Wk:V->V->Prop
 | same (x:V):Wk x x
 | nil (t:TC) (o:Nat):Wk .nil (.sl t o false [])
 | q (t:TC) (o:Nat) (l:List (T t)):Wk (.sl t o true l) (.sl t o false l)
 | gr (t:TC) (o o':Nat) (qn:Bool) (l:List (T t)) (h:full t+2<=o) (h':full t+2<=o'):Wk (.sl t o' qn l) (.sl t o false l)
def aY(xs ys:List V):Prop:=xs.length=ys.length/\∀ (j:Nat) (x y:V),xs[j]?=some x->ys[j]?=some y->Wk x y
theorem aY.nil:aY [] []:=⟨rfl,by simp⟩
theorem aY.cons{x y:V}{xs ys:List V}(h:Wk x y)(k:aY xs ys):aY (x :: xs) (y :: ys):=by
 refine⟨by simp[k.1],fun j a b ha hb=>?_⟩
 cases j with
 | zero=>simp at ha hb;subst ha;subst hb;exact h
 | succ j=>simp at ha hb;exact k.2 j a b ha hb
theorem V.aE{x:V}{n:Int}(h:x.aD=some n):Wk x (.int .i64 n):=by
 unfold V.aD at h;split at h <;>first | (injection h with h;subst h;exact .same _) | cases h
theorem V.aaY{x:V}{n:Int}(h:x.I7=some n):Wk x (.int .u8 n):=by
 unfold V.I7 at h;split at h <;>first | (injection h with h;subst h;exact .same _) | cases h
theorem V.kR{x:V}{n:Bool}(h:x.jA=some n):Wk x (.bool n):=by
 unfold V.jA at h;split at h <;>first | (injection h with h;subst h;exact .same _) | cases h
theorem V.aaZ{x:V}{n:ByteArray}(h:x.I8=some n):Wk x (.str n):=by
 unfold V.I8 at h;split at h <;>first | (injection h with h;subst h;exact .same _) | cases h
theorem V.de{x:V}{t:TC}{o:Nat}{l:List (T t)}(h:x.cR t o=some l):Wk x (.sl t o false l):=by
 unfold V.cR at h
 split at h
 ·rename_i t' o' q l'
  cases hc:(Nat.beq o' o || (Nat.ble (full t+2) o'&&Nat.ble (full t+2) o))with
  | false=>rw[hc]at h;cases h
  | true=>
   rw[hc,cond_true]at h
   split at h
   ·rename_i ht
    subst ht
    injection h with h
    subst h
    rw[Bool.or_eq_true,Bool.and_eq_true]at hc
    rcases hc with hc | hc
    ·obtain rfl:=Nat.eq_of_beq_eq_true hc
     cases q
     ·exact .same _
     ·exact .q _ _ _
    ·exact .gr _ _ _ _ _ (Nat.le_of_ble_eq_true hc.2) (Nat.le_of_ble_eq_true hc.1)
   ·cases h
 ·injection h with h;subst h;exact .nil _ _
 ·cases h
def xR(o:Nat)(x:bf):List V:=[.int .i64 x.cZ,.int .i64 x.aO,.int .i64 x.rows,.int .i64 x.cV]
def tM(o:Nat)(x:bW):List V:=[.int .i64 x.cW,.int .i64 x.row,.int .i64 x.ck]
def xS(o:Nat)(x:kN):List V:=[.int .i64 x.order,.bool x.hash]
def An(o:Nat)(x:Ez):List V:=[.sl .int o false x.owner]
def tN(o:Nat)(x:j5):List V:=[.int .i64 x.kind,.int .i64 x.cW,.int .i64 x.row,.int .i64 x.ck]
def xT(o:Nat)(x:fo):List V:=[.int .i64 x.j6,.int .i64 x.rp,.int .i64 x.gq,.int .i64 x.lA,.int .i64 x.j7,.int .i64 x.qb,.int .i64 x.lB,.int .i64 x.lC,.int .i64 x.oa,.int .i64 x.wr,.int .i64 x.nu,.int .i64 x.nv,.int .i64 x.qc,.int .i64 x.oc,.int .i64 x.od,.int .i64 x.xp,.int .i64 x.xs]
def xU(o:Nat)(x:cq):List V:=[.bool x.open_,.int .i64 x.row]
def Ao(o:Nat)(x:eN):List V:=[.sl .dR o false x.aO,.int .i64 x.bM]
def xV(o:Nat)(x:bQ):List V:=[.int .i64 x.at_,.int .i64 x.cmd.kind,.int .i64 x.cmd.cW,.int .i64 x.cmd.row,.int .i64 x.cmd.ck]
def Ap(o:Nat)(x:iD):List V:=[.sl .int o false x.last,.sl .int o false x.dA]
def Aq(o:Nat)(x:cO):List V:=[.sl .int o false x.symbols,.bool x.qd]
def As(o:Nat)(x:iE):List V:=[.sl .Cell o false x.cells,.sl .int o false x.cT,.sl .int o false x.cU]
def xW(o:Nat)(x:oe):List V:=[.int .i64 x.cT,.int .i64 x.cU]
def At(o:Nat)(x:cu):List V:=[.sl .int o false x.rows,.sl .int o false x.counts,.int .i64 x.eE]
def Au(o:Nat)(x:dO):List V:=[.int .i64 x.cx,.sl .int o false x.map]
def Av(o:Nat)(x:iF):List V:=[.sl .int o false x.bX,.int .i64 x.wait,.bool x.j8]
def tO(o:Nat)(x:aS):List V:=[.int .i64 x.id,.int .i64 x.c9,.int .i64 x.line,.bool x.write,.int .i64 x.data,.int .i64 x.at_]
def xX(o:Nat)(x:bT):List V:=[.int .i64 x.weight,.int .i64 x.nw]
def xY(o:Nat)(x:iS):List V:=[.bool x.on,.int .i64 x.low,.int .i64 x.high]
def Aw(o:Nat)(x:EA):List V:=[.sl .int o false x.owner,.int .i64 x.length]
def xZ(o:Nat)(x:EB):List V:=[.int .i64 x.id,.int .i64 x.at_]
def ya(o:Nat)(x:j9):List V:=[.int .i64 x.state,.int .i64 x.since,.int .i64 x.idle]
def yb(o:Nat)(x:ke):List V:=[.int .i64 x.down,.int .i64 x.sleep]
def yc(o:Nat)(x:bx):List V:=[.int .i64 x.line,.int .i64 x.code,.int .i64 x.times]
def Ax(o:Nat)(x:EC):List V:=[.sl .str o false x.aaV]
def Ay(o:Nat)(x:ED):List V:=[.sl .int o false x.aaW,.int .i64 x.next]
def Az(o:Nat)(x:EE):List V:=[.int .i64 x.count,.sl .Command o false x.commands]
def yd(o:Nat)(x:xM):List V:=[.int .i64 x.count,.int .i64 x.tag]
def AA(o:Nat)(x:Al):List V:=[.int .i64 x.root,.sl .Node o false x.mid,.sl .Node o false x.leaf]
def AB(o:Nat)(x:EF):List V:=[.int .i64 x.key,.int .i64 x.tree.root,.sl .Node o false x.tree.mid,.sl .Node o false x.tree.leaf,.sl .int o false x.data,.sl .int o false x.tags]
def ye(o:Nat)(x:og):List V:=[.int .i64 x.next,.int .i64 x.every,.int .i64 x.wait]
def AD(o:Nat)(x:EG):List V:=[.int .i64 x.index,.sl .int o false x.before.symbols,.bool x.before.qd,.sl .int o false x.after.symbols,.bool x.after.qd,.int .i64 x.code]
def yf(o:Nat)(x:EH):List V:=[.int .i64 x.cW,.int .i64 x.from_,.int .i64 x.to,.int .i64 x.next]
def AE(o:Nat)(x:fB):List V:=[.int .i64 x.kf,.int .i64 x.cap,.int .i64 x.gX,.int .i64 x.low,.int .i64 x.high,.sl .int o false x.weights,.int .i64 x.gY.down,.int .i64 x.gY.sleep]
def AF(o:Nat)(x:kO):List V:=[.int .i64 x.eO.kf,.int .i64 x.eO.cap,.int .i64 x.eO.gX,.int .i64 x.eO.low,.int .i64 x.eO.high,.sl .int o false x.eO.weights,.int .i64 x.eO.gY.down,.int .i64 x.eO.gY.sleep,.int .i64 x.next.kf,.int .i64 x.next.cap,.int .i64 x.next.gX,.int .i64 x.next.low,.int .i64 x.next.high,.sl .int o false x.next.weights,.int .i64 x.next.gY.down,.int .i64 x.next.gY.sleep,.bool x.waits]
def yg(o:Nat)(x:gu):List V:=[.int .i64 x.bI.cZ,.int .i64 x.bI.aO,.int .i64 x.bI.rows,.int .i64 x.bI.cV,.int .i64 x.cr.j6,.int .i64 x.cr.rp,.int .i64 x.cr.gq,.int .i64 x.cr.lA,.int .i64 x.cr.j7,.int .i64 x.cr.qb,.int .i64 x.cr.lB,.int .i64 x.cr.lC,.int .i64 x.cr.oa,.int .i64 x.cr.wr,.int .i64 x.cr.nu,.int .i64 x.cr.nv,.int .i64 x.cr.qc,.int .i64 x.cr.oc,.int .i64 x.cr.od,.int .i64 x.cr.xp,.int .i64 x.cr.xs,.int .i64 x.mapping.order,.bool x.mapping.hash,.int .i64 x.cx,.int .i64 x.interval,.int .i64 x.mm,.int .i64 x.gZ.cT,.int .i64 x.gZ.cU]
def yh(o:Nat)(x:cF):List V:=[.int .i64 x.id,.int .i64 x.at_,.int .i64 x.data,.int .i64 x.code]
def tP(o:Nat)(x:cB):List V:=[.int .i64 x.config.bI.cZ,.int .i64 x.config.bI.aO,.int .i64 x.config.bI.rows,.int .i64 x.config.bI.cV,.int .i64 x.config.cr.j6,.int .i64 x.config.cr.rp,.int .i64 x.config.cr.gq,.int .i64 x.config.cr.lA,.int .i64 x.config.cr.j7,.int .i64 x.config.cr.qb,.int .i64 x.config.cr.lB,.int .i64 x.config.cr.lC,.int .i64 x.config.cr.oa,.int .i64 x.config.cr.wr,.int .i64 x.config.cr.nu,.int .i64 x.config.cr.nv,.int .i64 x.config.cr.qc,.int .i64 x.config.cr.oc,.int .i64 x.config.cr.od,.int .i64 x.config.cr.xp,.int .i64 x.config.cr.xs,.int .i64 x.config.mapping.order,.bool x.config.mapping.hash,.int .i64 x.config.cx,.int .i64 x.config.interval,.int .i64 x.config.mm,.int .i64 x.config.gZ.cT,.int .i64 x.config.gZ.cU,.int .i64 x.box.eO.kf,.int .i64 x.box.eO.cap,.int .i64 x.box.eO.gX,.int .i64 x.box.eO.low,.int .i64 x.box.eO.high,.sl .int o false x.box.eO.weights,.int .i64 x.box.eO.gY.down,.int .i64 x.box.eO.gY.sleep,.int .i64 x.box.next.kf,.int .i64 x.box.next.cap,.int .i64 x.box.next.gX,.int .i64 x.box.next.low,.int .i64 x.box.next.high,.sl .int o false x.box.next.weights,.int .i64 x.box.next.gY.down,.int .i64 x.box.next.gY.sleep,.bool x.box.waits,.int .i64 x.now,.sl .dR o false x.gy.aO,.int .i64 x.gy.bM,.sl .int o false x.ready.last,.sl .int o false x.ready.dA,.sl .Cell o false x.array.cells,.sl .int o false x.array.cT,.sl .int o false x.array.cU,.int .i64 x.spare.cx,.sl .int o false x.spare.map,.sl .int o false x.dc.bX,.int .i64 x.dc.wait,.bool x.dc.j8,.sl .eP o false x.dW,.sl .int o false x.guard,.sl .Addr o false x.pending,.sl .dB o false x.queue,.sl .dP o false x.shares,.bool x.drain.on,.int .i64 x.drain.low,.int .i64 x.drain.high,.int .i64 x.bM.state,.int .i64 x.bM.since,.int .i64 x.bM.idle,.int .i64 x.iG.next,.int .i64 x.iG.every,.int .i64 x.iG.wait,.sl .dF o false x.errors,.sl .Event o false x.trace,.sl .fK o false x.iH]
def AG(o:Nat)(x:Am):List V:=[.int .i64 x.kind,.int .i64 x.request.id,.int .i64 x.request.c9,.int .i64 x.request.line,.bool x.request.write,.int .i64 x.request.data,.int .i64 x.request.at_,.int .i64 x.n,.int .i64 x.aaX,.int .i64 x.addr.cW,.int .i64 x.addr.row,.int .i64 x.addr.ck,.int .i64 x.tD.kf,.int .i64 x.tD.cap,.int .i64 x.tD.gX,.int .i64 x.tD.low,.int .i64 x.tD.high,.sl .int o false x.tD.weights,.int .i64 x.tD.gY.down,.int .i64 x.tD.gY.sleep]
def yj(o:Nat)(x:EI):List V:=[.int .i64 x.line,.int .i64 x.data,.int .i64 x.code]
def AH(o:Nat)(x:EJ):List V:=[.sl .u8 o false x.b,.int .i64 x.i,.int .i64 x.h]
/-- The cells of a value;o: the grade of its slices. -/
def enc:(t:TC)->(o:Nat)->T t->List V
 | .int,_,x=>[.int .i64 x]
 | .u8,_,x=>[.int .u8 x]
 | .bool,_,x=>[.bool x]
 | .str,_,x=>[.str x]
 | .ef,o,x=>xR o x
 | .Addr,o,x=>tM o x
 | .lD,o,x=>xS o x
 | .tE,o,x=>An o x
 | .Command,o,x=>tN o x
 | .hD,o,x=>xT o x
 | .dR,o,x=>xU o x
 | .jf,o,x=>Ao o x
 | .Event,o,x=>xV o x
 | .kP,o,x=>Ap o x
 | .Cell,o,x=>Aq o x
 | .Array,o,x=>As o x
 | .nx,o,x=>xW o x
 | .eP,o,x=>At o x
 | .iI,o,x=>Au o x
 | .kQ,o,x=>Av o x
 | .dB,o,x=>tO o x
 | .dP,o,x=>xX o x
 | .lE,o,x=>xY o x
 | .tF,o,x=>Aw o x
 | .tG,o,x=>xZ o x
 | .Power,o,x=>ya o x
 | .lF,o,x=>yb o x
 | .dF,o,x=>yc o x
 | .tH,o,x=>Ax o x
 | .tI,o,x=>Ay o x
 | .Receiver,o,x=>Az o x
 | .Node,o,x=>yd o x
 | .Tree,o,x=>AA o x
 | .tJ,o,x=>AB o x
 | .ny,o,x=>ye o x
 | .tK,o,x=>AD o x
 | .Move,o,x=>yf o x
 | .jz,o,x=>AE o x
 | .mo,o,x=>AF o x
 | .Config,o,x=>yg o x
 | .fK,o,x=>yh o x
 | .eR,o,x=>tP o x
 | .Act,o,x=>AG o x
 | .Fact,o,x=>yj o x
 | .tL,o,x=>AH o x
 | .sl t,o,x=>[.sl t o false x]
 | .xN,o,x=>.bool true :: tP o x
 | .xO g,o,x=>.bool false :: .int .i64 (g:Int) :: [.int .i64 x]
 | .xP g,o,x=>.bool false :: .int .i64 (g:Int) :: tO o x
 | .xQ g,o,x=>.bool false :: .int .i64 (g:Int) :: tM o x
 | .fnCommand g,o,x=>.bool false :: .int .i64 (g:Int) :: tN o x
def I9(o:Nat)(cs:List V):Option bf:=match cs with
 | a0 :: a1 :: a2 :: a3 :: []=>(a0.aD).bind fun x0=>(a1.aD).bind fun x1=>(a2.aD).bind fun x2=>(a3.aD).bind fun x3=>some ⟨x0,x1,x2,x3⟩
 | _=>none
def EK(o:Nat)(cs:List V):Option bW:=match cs with
 | a0 :: a1 :: a2 :: []=>(a0.aD).bind fun x0=>(a1.aD).bind fun x1=>(a2.aD).bind fun x2=>some ⟨x0,x1,x2⟩
 | _=>none
def Ja(o:Nat)(cs:List V):Option kN:=match cs with
 | a0 :: a1 :: []=>(a0.aD).bind fun x0=>(a1.jA).bind fun x1=>some ⟨x0,x1⟩
 | _=>none
def Jb(o:Nat)(cs:List V):Option Ez:=match cs with
 | a0 :: []=>(a0.cR .int o).bind fun x0=>some ⟨x0⟩
 | _=>none
def EL(o:Nat)(cs:List V):Option j5:=match cs with
 | a0 :: a1 :: a2 :: a3 :: []=>(a0.aD).bind fun x0=>(a1.aD).bind fun x1=>(a2.aD).bind fun x2=>(a3.aD).bind fun x3=>some ⟨x0,x1,x2,x3⟩
 | _=>none
def Jc(o:Nat)(cs:List V):Option fo:=match cs with
 | a0 :: a1 :: a2 :: a3 :: a4 :: a5 :: a6 :: a7 :: a8 :: a9 :: kS :: kT :: a12 :: mq :: mw :: lG :: kU :: []=>(a0.aD).bind fun x0=>(a1.aD).bind fun x1=>(a2.aD).bind fun x2=>(a3.aD).bind fun x3=>(a4.aD).bind fun x4=>(a5.aD).bind fun x5=>(a6.aD).bind fun x6=>(a7.aD).bind fun x7=>(a8.aD).bind fun x8=>(a9.aD).bind fun x9=>(kS.aD).bind fun mz=>(kT.aD).bind fun mA=>(a12.aD).bind fun mB=>(mq.aD).bind fun mC=>(mw.aD).bind fun mD=>(lG.aD).bind fun mE=>(kU.aD).bind fun mF=>some ⟨x0,x1,x2,x3,x4,x5,x6,x7,x8,x9,mz,mA,mB,mC,mD,mE,mF⟩
 | _=>none
def Jd(o:Nat)(cs:List V):Option cq:=match cs with
 | a0 :: a1 :: []=>(a0.jA).bind fun x0=>(a1.aD).bind fun x1=>some ⟨x0,x1⟩
 | _=>none
def Je(o:Nat)(cs:List V):Option eN:=match cs with
 | a0 :: a1 :: []=>(a0.cR .dR o).bind fun x0=>(a1.aD).bind fun x1=>some ⟨x0,x1⟩
 | _=>none
def Jf(o:Nat)(cs:List V):Option bQ:=match cs with
 | a0 :: a1 :: a2 :: a3 :: a4 :: []=>(a0.aD).bind fun x0=>(a1.aD).bind fun x1=>(a2.aD).bind fun x2=>(a3.aD).bind fun x3=>(a4.aD).bind fun x4=>some ⟨x0,⟨x1,x2,x3,x4⟩⟩
 | _=>none
def Jg(o:Nat)(cs:List V):Option iD:=match cs with
 | a0 :: a1 :: []=>(a0.cR .int o).bind fun x0=>(a1.cR .int o).bind fun x1=>some ⟨x0,x1⟩
 | _=>none
def Jh(o:Nat)(cs:List V):Option cO:=match cs with
 | a0 :: a1 :: []=>(a0.cR .int o).bind fun x0=>(a1.jA).bind fun x1=>some ⟨x0,x1⟩
 | _=>none
def Ji(o:Nat)(cs:List V):Option iE:=match cs with
 | a0 :: a1 :: a2 :: []=>(a0.cR .Cell o).bind fun x0=>(a1.cR .int o).bind fun x1=>(a2.cR .int o).bind fun x2=>some ⟨x0,x1,x2⟩
 | _=>none
def Jj(o:Nat)(cs:List V):Option oe:=match cs with
 | a0 :: a1 :: []=>(a0.aD).bind fun x0=>(a1.aD).bind fun x1=>some ⟨x0,x1⟩
 | _=>none
def Jk(o:Nat)(cs:List V):Option cu:=match cs with
 | a0 :: a1 :: a2 :: []=>(a0.cR .int o).bind fun x0=>(a1.cR .int o).bind fun x1=>(a2.aD).bind fun x2=>some ⟨x0,x1,x2⟩
 | _=>none
def Jl(o:Nat)(cs:List V):Option dO:=match cs with
 | a0 :: a1 :: []=>(a0.aD).bind fun x0=>(a1.cR .int o).bind fun x1=>some ⟨x0,x1⟩
 | _=>none
def Jm(o:Nat)(cs:List V):Option iF:=match cs with
 | a0 :: a1 :: a2 :: []=>(a0.cR .int o).bind fun x0=>(a1.aD).bind fun x1=>(a2.jA).bind fun x2=>some ⟨x0,x1,x2⟩
 | _=>none
def EM(o:Nat)(cs:List V):Option aS:=match cs with
 | a0 :: a1 :: a2 :: a3 :: a4 :: a5 :: []=>(a0.aD).bind fun x0=>(a1.aD).bind fun x1=>(a2.aD).bind fun x2=>(a3.jA).bind fun x3=>(a4.aD).bind fun x4=>(a5.aD).bind fun x5=>some ⟨x0,x1,x2,x3,x4,x5⟩
 | _=>none
def Jn(o:Nat)(cs:List V):Option bT:=match cs with
 | a0 :: a1 :: []=>(a0.aD).bind fun x0=>(a1.aD).bind fun x1=>some ⟨x0,x1⟩
 | _=>none
def Jo(o:Nat)(cs:List V):Option iS:=match cs with
 | a0 :: a1 :: a2 :: []=>(a0.jA).bind fun x0=>(a1.aD).bind fun x1=>(a2.aD).bind fun x2=>some ⟨x0,x1,x2⟩
 | _=>none
def Jp(o:Nat)(cs:List V):Option EA:=match cs with
 | a0 :: a1 :: []=>(a0.cR .int o).bind fun x0=>(a1.aD).bind fun x1=>some ⟨x0,x1⟩
 | _=>none
def Jq(o:Nat)(cs:List V):Option EB:=match cs with
 | a0 :: a1 :: []=>(a0.aD).bind fun x0=>(a1.aD).bind fun x1=>some ⟨x0,x1⟩
 | _=>none
def Jr(o:Nat)(cs:List V):Option j9:=match cs with
 | a0 :: a1 :: a2 :: []=>(a0.aD).bind fun x0=>(a1.aD).bind fun x1=>(a2.aD).bind fun x2=>some ⟨x0,x1,x2⟩
 | _=>none
def Js(o:Nat)(cs:List V):Option ke:=match cs with
 | a0 :: a1 :: []=>(a0.aD).bind fun x0=>(a1.aD).bind fun x1=>some ⟨x0,x1⟩
 | _=>none
def Jt(o:Nat)(cs:List V):Option bx:=match cs with
 | a0 :: a1 :: a2 :: []=>(a0.aD).bind fun x0=>(a1.aD).bind fun x1=>(a2.aD).bind fun x2=>some ⟨x0,x1,x2⟩
 | _=>none
def Ju(o:Nat)(cs:List V):Option EC:=match cs with
 | a0 :: []=>(a0.cR .str o).bind fun x0=>some ⟨x0⟩
 | _=>none
def Jv(o:Nat)(cs:List V):Option ED:=match cs with
 | a0 :: a1 :: []=>(a0.cR .int o).bind fun x0=>(a1.aD).bind fun x1=>some ⟨x0,x1⟩
 | _=>none
def Jw(o:Nat)(cs:List V):Option EE:=match cs with
 | a0 :: a1 :: []=>(a0.aD).bind fun x0=>(a1.cR .Command o).bind fun x1=>some ⟨x0,x1⟩
 | _=>none
def Jx(o:Nat)(cs:List V):Option xM:=match cs with
 | a0 :: a1 :: []=>(a0.aD).bind fun x0=>(a1.aD).bind fun x1=>some ⟨x0,x1⟩
 | _=>none
def Jy(o:Nat)(cs:List V):Option Al:=match cs with
 | a0 :: a1 :: a2 :: []=>(a0.aD).bind fun x0=>(a1.cR .Node o).bind fun x1=>(a2.cR .Node o).bind fun x2=>some ⟨x0,x1,x2⟩
 | _=>none
def Jz(o:Nat)(cs:List V):Option EF:=match cs with
 | a0 :: a1 :: a2 :: a3 :: a4 :: a5 :: []=>(a0.aD).bind fun x0=>(a1.aD).bind fun x1=>(a2.cR .Node o).bind fun x2=>(a3.cR .Node o).bind fun x3=>(a4.cR .int o).bind fun x4=>(a5.cR .int o).bind fun x5=>some ⟨x0,⟨x1,x2,x3⟩,x4,x5⟩
 | _=>none
def JA(o:Nat)(cs:List V):Option og:=match cs with
 | a0 :: a1 :: a2 :: []=>(a0.aD).bind fun x0=>(a1.aD).bind fun x1=>(a2.aD).bind fun x2=>some ⟨x0,x1,x2⟩
 | _=>none
def JB(o:Nat)(cs:List V):Option EG:=match cs with
 | a0 :: a1 :: a2 :: a3 :: a4 :: a5 :: []=>(a0.aD).bind fun x0=>(a1.cR .int o).bind fun x1=>(a2.jA).bind fun x2=>(a3.cR .int o).bind fun x3=>(a4.jA).bind fun x4=>(a5.aD).bind fun x5=>some ⟨x0,⟨x1,x2⟩,⟨x3,x4⟩,x5⟩
 | _=>none
def JC(o:Nat)(cs:List V):Option EH:=match cs with
 | a0 :: a1 :: a2 :: a3 :: []=>(a0.aD).bind fun x0=>(a1.aD).bind fun x1=>(a2.aD).bind fun x2=>(a3.aD).bind fun x3=>some ⟨x0,x1,x2,x3⟩
 | _=>none
def JD(o:Nat)(cs:List V):Option fB:=match cs with
 | a0 :: a1 :: a2 :: a3 :: a4 :: a5 :: a6 :: a7 :: []=>(a0.aD).bind fun x0=>(a1.aD).bind fun x1=>(a2.aD).bind fun x2=>(a3.aD).bind fun x3=>(a4.aD).bind fun x4=>(a5.cR .int o).bind fun x5=>(a6.aD).bind fun x6=>(a7.aD).bind fun x7=>some ⟨x0,x1,x2,x3,x4,x5,⟨x6,x7⟩⟩
 | _=>none
def JE(o:Nat)(cs:List V):Option kO:=match cs with
 | a0 :: a1 :: a2 :: a3 :: a4 :: a5 :: a6 :: a7 :: a8 :: a9 :: kS :: kT :: a12 :: mq :: mw :: lG :: kU :: []=>(a0.aD).bind fun x0=>(a1.aD).bind fun x1=>(a2.aD).bind fun x2=>(a3.aD).bind fun x3=>(a4.aD).bind fun x4=>(a5.cR .int o).bind fun x5=>(a6.aD).bind fun x6=>(a7.aD).bind fun x7=>(a8.aD).bind fun x8=>(a9.aD).bind fun x9=>(kS.aD).bind fun mz=>(kT.aD).bind fun mA=>(a12.aD).bind fun mB=>(mq.cR .int o).bind fun mC=>(mw.aD).bind fun mD=>(lG.aD).bind fun mE=>(kU.jA).bind fun mF=>some ⟨⟨x0,x1,x2,x3,x4,x5,⟨x6,x7⟩⟩,⟨x8,x9,mz,mA,mB,mC,⟨mD,mE⟩⟩,mF⟩
 | _=>none
def JF(o:Nat)(cs:List V):Option gu:=match cs with
 | a0 :: a1 :: a2 :: a3 :: a4 :: a5 :: a6 :: a7 :: a8 :: a9 :: kS :: kT :: a12 :: mq :: mw :: lG :: kU :: qe :: rm :: AI :: a20 :: a21 :: JG :: JH :: a24 :: JI :: JJ :: JK :: []=>(a0.aD).bind fun x0=>(a1.aD).bind fun x1=>(a2.aD).bind fun x2=>(a3.aD).bind fun x3=>(a4.aD).bind fun x4=>(a5.aD).bind fun x5=>(a6.aD).bind fun x6=>(a7.aD).bind fun x7=>(a8.aD).bind fun x8=>(a9.aD).bind fun x9=>(kS.aD).bind fun mz=>(kT.aD).bind fun mA=>(a12.aD).bind fun mB=>(mq.aD).bind fun mC=>(mw.aD).bind fun mD=>(lG.aD).bind fun mE=>(kU.aD).bind fun mF=>(qe.aD).bind fun tQ=>(rm.aD).bind fun tR=>(AI.aD).bind fun tS=>(a20.aD).bind fun AJ=>(a21.aD).bind fun AK=>(JG.jA).bind fun AL=>(JH.aD).bind fun AM=>(a24.aD).bind fun AN=>(JI.aD).bind fun AO=>(JJ.aD).bind fun AP=>(JK.aD).bind fun AQ=>some ⟨⟨x0,x1,x2,x3⟩,⟨x4,x5,x6,x7,x8,x9,mz,mA,mB,mC,mD,mE,mF,tQ,tR,tS,AJ⟩,⟨AK,AL⟩,AM,AN,AO,⟨AP,AQ⟩⟩
 | _=>none
def JL(o:Nat)(cs:List V):Option cF:=match cs with
 | a0 :: a1 :: a2 :: a3 :: []=>(a0.aD).bind fun x0=>(a1.aD).bind fun x1=>(a2.aD).bind fun x2=>(a3.aD).bind fun x3=>some ⟨x0,x1,x2,x3⟩
 | _=>none
def EN(o:Nat)(cs:List V):Option cB:=match cs with
 | a0 :: a1 :: a2 :: a3 :: a4 :: a5 :: a6 :: a7 :: a8 :: a9 :: kS :: kT :: a12 :: mq :: mw :: lG :: kU :: qe :: rm :: AI :: a20 :: a21 :: JG :: JH :: a24 :: JI :: JJ :: JK :: a28 :: a29 :: a30 :: a31 :: a32 :: a33 :: a34 :: a35 :: a36 :: a37 :: a38 :: a39 :: a40 :: a41 :: a42 :: a43 :: a44 :: a45 :: a46 :: a47 :: a48 :: a49 :: a50 :: a51 :: a52 :: a53 :: a54 :: a55 :: a56 :: a57 :: a58 :: a59 :: a60 :: a61 :: a62 :: a63 :: a64 :: a65 :: a66 :: a67 :: a68 :: a69 :: a70 :: a71 :: a72 :: a73 :: a74 :: []=>(a0.aD).bind fun x0=>(a1.aD).bind fun x1=>(a2.aD).bind fun x2=>(a3.aD).bind fun x3=>(a4.aD).bind fun x4=>(a5.aD).bind fun x5=>(a6.aD).bind fun x6=>(a7.aD).bind fun x7=>(a8.aD).bind fun x8=>(a9.aD).bind fun x9=>(kS.aD).bind fun mz=>(kT.aD).bind fun mA=>(a12.aD).bind fun mB=>(mq.aD).bind fun mC=>(mw.aD).bind fun mD=>(lG.aD).bind fun mE=>(kU.aD).bind fun mF=>(qe.aD).bind fun tQ=>(rm.aD).bind fun tR=>(AI.aD).bind fun tS=>(a20.aD).bind fun AJ=>(a21.aD).bind fun AK=>(JG.jA).bind fun AL=>(JH.aD).bind fun AM=>(a24.aD).bind fun AN=>(JI.aD).bind fun AO=>(JJ.aD).bind fun AP=>(JK.aD).bind fun AQ=>(a28.aD).bind fun OO=>(a29.aD).bind fun OP=>(a30.aD).bind fun OQ=>(a31.aD).bind fun OR=>(a32.aD).bind fun OS=>(a33.cR .int o).bind fun OT=>(a34.aD).bind fun OU=>(a35.aD).bind fun OV=>(a36.aD).bind fun OW=>(a37.aD).bind fun OX=>(a38.aD).bind fun OY=>(a39.aD).bind fun OZ=>(a40.aD).bind fun O0=>(a41.cR .int o).bind fun O1=>(a42.aD).bind fun O2=>(a43.aD).bind fun O3=>(a44.jA).bind fun O4=>(a45.aD).bind fun O5=>(a46.cR .dR o).bind fun O6=>(a47.aD).bind fun O7=>(a48.cR .int o).bind fun O8=>(a49.cR .int o).bind fun O9=>(a50.cR .Cell o).bind fun Pa=>(a51.cR .int o).bind fun Pb=>(a52.cR .int o).bind fun Pc=>(a53.aD).bind fun Pd=>(a54.cR .int o).bind fun Pe=>(a55.cR .int o).bind fun Pf=>(a56.aD).bind fun Pg=>(a57.jA).bind fun Ph=>(a58.cR .eP o).bind fun Pj=>(a59.cR .int o).bind fun Pk=>(a60.cR .Addr o).bind fun Pm=>(a61.cR .dB o).bind fun Pn=>(a62.cR .dP o).bind fun Po=>(a63.jA).bind fun Pp=>(a64.aD).bind fun Pq=>(a65.aD).bind fun Pr=>(a66.aD).bind fun Pu=>(a67.aD).bind fun Pv=>(a68.aD).bind fun Pw=>(a69.aD).bind fun Px=>(a70.aD).bind fun Py=>(a71.aD).bind fun Pz=>(a72.cR .dF o).bind fun PB=>(a73.cR .Event o).bind fun PC=>(a74.cR .fK o).bind fun PD=>some ⟨⟨⟨x0,x1,x2,x3⟩,⟨x4,x5,x6,x7,x8,x9,mz,mA,mB,mC,mD,mE,mF,tQ,tR,tS,AJ⟩,⟨AK,AL⟩,AM,AN,AO,⟨AP,AQ⟩⟩,⟨⟨OO,OP,OQ,OR,OS,OT,⟨OU,OV⟩⟩,⟨OW,OX,OY,OZ,O0,O1,⟨O2,O3⟩⟩,O4⟩,O5,⟨O6,O7⟩,⟨O8,O9⟩,⟨Pa,Pb,Pc⟩,⟨Pd,Pe⟩,⟨Pf,Pg,Ph⟩,Pj,Pk,Pm,Pn,Po,⟨Pp,Pq,Pr⟩,⟨Pu,Pv,Pw⟩,⟨Px,Py,Pz⟩,PB,PC,PD⟩
 | _=>none
def JM(o:Nat)(cs:List V):Option Am:=match cs with
 | a0 :: a1 :: a2 :: a3 :: a4 :: a5 :: a6 :: a7 :: a8 :: a9 :: kS :: kT :: a12 :: mq :: mw :: lG :: kU :: qe :: rm :: AI :: []=>(a0.aD).bind fun x0=>(a1.aD).bind fun x1=>(a2.aD).bind fun x2=>(a3.aD).bind fun x3=>(a4.jA).bind fun x4=>(a5.aD).bind fun x5=>(a6.aD).bind fun x6=>(a7.aD).bind fun x7=>(a8.aD).bind fun x8=>(a9.aD).bind fun x9=>(kS.aD).bind fun mz=>(kT.aD).bind fun mA=>(a12.aD).bind fun mB=>(mq.aD).bind fun mC=>(mw.aD).bind fun mD=>(lG.aD).bind fun mE=>(kU.aD).bind fun mF=>(qe.cR .int o).bind fun tQ=>(rm.aD).bind fun tR=>(AI.aD).bind fun tS=>some ⟨x0,⟨x1,x2,x3,x4,x5,x6⟩,x7,x8,⟨x9,mz,mA⟩,⟨mB,mC,mD,mE,mF,tQ,⟨tR,tS⟩⟩⟩
 | _=>none
def JN(o:Nat)(cs:List V):Option EI:=match cs with
 | a0 :: a1 :: a2 :: []=>(a0.aD).bind fun x0=>(a1.aD).bind fun x1=>(a2.aD).bind fun x2=>some ⟨x0,x1,x2⟩
 | _=>none
def JO(o:Nat)(cs:List V):Option EJ:=match cs with
 | a0 :: a1 :: a2 :: []=>(a0.cR .u8 o).bind fun x0=>(a1.aD).bind fun x1=>(a2.aD).bind fun x2=>some ⟨x0,x1,x2⟩
 | _=>none
def tT{α:Type}(f:V->Option α):List V->Option α
 | [a]=>f a
 | _=>none
def JP{α:Type}(f:List V->Option α):List V->Option α
 | .bool true :: cs=>f cs
 | _=>none
def yl{α:Type}(g:Nat)(f:List V->Option α):List V->Option α
 | .bool false :: .int .i64 n :: cs=>if n=(g:Int)then f cs else none
 | _=>none
def dec:(t:TC)->(o:Nat)->List V->Option (T t)
 | .int,_,cs=>tT V.aD cs
 | .u8,_,cs=>tT V.I7 cs
 | .bool,_,cs=>tT V.jA cs
 | .str,_,cs=>tT V.I8 cs
 | .ef,o,cs=>I9 o cs
 | .Addr,o,cs=>EK o cs
 | .lD,o,cs=>Ja o cs
 | .tE,o,cs=>Jb o cs
 | .Command,o,cs=>EL o cs
 | .hD,o,cs=>Jc o cs
 | .dR,o,cs=>Jd o cs
 | .jf,o,cs=>Je o cs
 | .Event,o,cs=>Jf o cs
 | .kP,o,cs=>Jg o cs
 | .Cell,o,cs=>Jh o cs
 | .Array,o,cs=>Ji o cs
 | .nx,o,cs=>Jj o cs
 | .eP,o,cs=>Jk o cs
 | .iI,o,cs=>Jl o cs
 | .kQ,o,cs=>Jm o cs
 | .dB,o,cs=>EM o cs
 | .dP,o,cs=>Jn o cs
 | .lE,o,cs=>Jo o cs
 | .tF,o,cs=>Jp o cs
 | .tG,o,cs=>Jq o cs
 | .Power,o,cs=>Jr o cs
 | .lF,o,cs=>Js o cs
 | .dF,o,cs=>Jt o cs
 | .tH,o,cs=>Ju o cs
 | .tI,o,cs=>Jv o cs
 | .Receiver,o,cs=>Jw o cs
 | .Node,o,cs=>Jx o cs
 | .Tree,o,cs=>Jy o cs
 | .tJ,o,cs=>Jz o cs
 | .ny,o,cs=>JA o cs
 | .tK,o,cs=>JB o cs
 | .Move,o,cs=>JC o cs
 | .jz,o,cs=>JD o cs
 | .mo,o,cs=>JE o cs
 | .Config,o,cs=>JF o cs
 | .fK,o,cs=>JL o cs
 | .eR,o,cs=>EN o cs
 | .Act,o,cs=>JM o cs
 | .Fact,o,cs=>JN o cs
 | .tL,o,cs=>JO o cs
 | .sl t,o,cs=>tT (V.cR t o) cs
 | .xN,o,cs=>JP (EN o) cs
 | .xO g,o,cs=>yl g (tT V.aD) cs
 | .xP g,o,cs=>yl g (EM o) cs
 | .xQ g,o,cs=>yl g (EK o) cs
 | .fnCommand g,o,cs=>yl g (EL o) cs
/-- The kinds of the cells of such structs. -/
def PE:TC->Nat->List V
 | .eR,o=>tP o ⟨⟨⟨0,0,0,0⟩,⟨0,0,0,0,0,0,0,0,0,0,0,0,0,0,0,0,0⟩,⟨0,false⟩,0,0,0,⟨0,0⟩⟩,⟨⟨0,0,0,0,0,[],⟨0,0⟩⟩,⟨0,0,0,0,0,[],⟨0,0⟩⟩,false⟩,0,⟨[],0⟩,⟨[],[]⟩,⟨[],[],[]⟩,⟨0,[]⟩,⟨[],0,false⟩,[],[],[],[],[],⟨false,0,0⟩,⟨0,0,0⟩,⟨0,0,0⟩,[],[],[]⟩
 | _,_=>[]
theorem jB(t:TC)(o:Nat)(x:T t):(enc t o x).length=aq t:=by cases t <;>rfl
theorem nA(t:TC):0<aq t:=by cases t <;>simp[aq]
theorem bind_some{α β:Type}{a:Option α}{f:α->Option β}{b:β}(h:a.bind f=some b):∃ x,a=some x/\f x=some b:=by
 cases a with
 | none=>cases h
 | some x=>exact⟨x,rfl,h⟩
theorem aa0(o:Nat)(cs:List V)(x:bf)(h:I9 o cs=some x):aY cs (xR o x):=by
 unfold I9 at h
 split at h
 ·obtain⟨x0,h0,h⟩:=bind_some h
  obtain⟨x1,h1,h⟩:=bind_some h
  obtain⟨x2,h2,h⟩:=bind_some h
  obtain⟨x3,h3,h⟩:=bind_some h
  injection h with h
  subst h
  exact(.cons (V.aE h0) (.cons (V.aE h1) (.cons (V.aE h2) (.cons (V.aE h3) aY.nil))))
 ·cases h
theorem PF(o:Nat)(cs:List V)(x:bW)(h:EK o cs=some x):aY cs (tM o x):=by
 unfold EK at h
 split at h
 ·obtain⟨x0,h0,h⟩:=bind_some h
  obtain⟨x1,h1,h⟩:=bind_some h
  obtain⟨x2,h2,h⟩:=bind_some h
  injection h with h
  subst h
  exact(.cons (V.aE h0) (.cons (V.aE h1) (.cons (V.aE h2) aY.nil)))
 ·cases h
theorem aa1(o:Nat)(cs:List V)(x:kN)(h:Ja o cs=some x):aY cs (xS o x):=by
 unfold Ja at h
 split at h
 ·obtain⟨x0,h0,h⟩:=bind_some h
  obtain⟨x1,h1,h⟩:=bind_some h
  injection h with h
  subst h
  exact(.cons (V.aE h0) (.cons (V.kR h1) aY.nil))
 ·cases h
theorem aa2(o:Nat)(cs:List V)(x:Ez)(h:Jb o cs=some x):aY cs (An o x):=by
 unfold Jb at h
 split at h
 ·obtain⟨x0,h0,h⟩:=bind_some h
  injection h with h
  subst h
  exact(.cons (V.de h0) aY.nil)
 ·cases h
theorem PG(o:Nat)(cs:List V)(x:j5)(h:EL o cs=some x):aY cs (tN o x):=by
 unfold EL at h
 split at h
 ·obtain⟨x0,h0,h⟩:=bind_some h
  obtain⟨x1,h1,h⟩:=bind_some h
  obtain⟨x2,h2,h⟩:=bind_some h
  obtain⟨x3,h3,h⟩:=bind_some h
  injection h with h
  subst h
  exact(.cons (V.aE h0) (.cons (V.aE h1) (.cons (V.aE h2) (.cons (V.aE h3) aY.nil))))
 ·cases h
theorem aa3(o:Nat)(cs:List V)(x:fo)(h:Jc o cs=some x):aY cs (xT o x):=by
 unfold Jc at h
 split at h
 ·obtain⟨x0,h0,h⟩:=bind_some h
  obtain⟨x1,h1,h⟩:=bind_some h
  obtain⟨x2,h2,h⟩:=bind_some h
  obtain⟨x3,h3,h⟩:=bind_some h
  obtain⟨x4,h4,h⟩:=bind_some h
  obtain⟨x5,h5,h⟩:=bind_some h
  obtain⟨x6,h6,h⟩:=bind_some h
  obtain⟨x7,h7,h⟩:=bind_some h
  obtain⟨x8,h8,h⟩:=bind_some h
  obtain⟨x9,h9,h⟩:=bind_some h
  obtain⟨mz,fC,h⟩:=bind_some h
  obtain⟨mA,gS,h⟩:=bind_some h
  obtain⟨mB,jg,h⟩:=bind_some h
  obtain⟨mC,mG,h⟩:=bind_some h
  obtain⟨mD,kg,h⟩:=bind_some h
  obtain⟨mE,nB,h⟩:=bind_some h
  obtain⟨mF,mH,h⟩:=bind_some h
  injection h with h
  subst h
  exact(.cons (V.aE h0) (.cons (V.aE h1) (.cons (V.aE h2) (.cons (V.aE h3) (.cons (V.aE h4) (.cons (V.aE h5) (.cons (V.aE h6) (.cons (V.aE h7) (.cons (V.aE h8) (.cons (V.aE h9) (.cons (V.aE fC) (.cons (V.aE gS) (.cons (V.aE jg) (.cons (V.aE mG) (.cons (V.aE kg) (.cons (V.aE nB) (.cons (V.aE mH) aY.nil)))))))))))))))))
 ·cases h
theorem aa4(o:Nat)(cs:List V)(x:cq)(h:Jd o cs=some x):aY cs (xU o x):=by
 unfold Jd at h
 split at h
 ·obtain⟨x0,h0,h⟩:=bind_some h
  obtain⟨x1,h1,h⟩:=bind_some h
  injection h with h
  subst h
  exact(.cons (V.kR h0) (.cons (V.aE h1) aY.nil))
 ·cases h
theorem aa5(o:Nat)(cs:List V)(x:eN)(h:Je o cs=some x):aY cs (Ao o x):=by
 unfold Je at h
 split at h
 ·obtain⟨x0,h0,h⟩:=bind_some h
  obtain⟨x1,h1,h⟩:=bind_some h
  injection h with h
  subst h
  exact(.cons (V.de h0) (.cons (V.aE h1) aY.nil))
 ·cases h
theorem aa6(o:Nat)(cs:List V)(x:bQ)(h:Jf o cs=some x):aY cs (xV o x):=by
 unfold Jf at h
 split at h
 ·obtain⟨x0,h0,h⟩:=bind_some h
  obtain⟨x1,h1,h⟩:=bind_some h
  obtain⟨x2,h2,h⟩:=bind_some h
  obtain⟨x3,h3,h⟩:=bind_some h
  obtain⟨x4,h4,h⟩:=bind_some h
  injection h with h
  subst h
  exact(.cons (V.aE h0) (.cons (V.aE h1) (.cons (V.aE h2) (.cons (V.aE h3) (.cons (V.aE h4) aY.nil)))))
 ·cases h
theorem aa7(o:Nat)(cs:List V)(x:iD)(h:Jg o cs=some x):aY cs (Ap o x):=by
 unfold Jg at h
 split at h
 ·obtain⟨x0,h0,h⟩:=bind_some h
  obtain⟨x1,h1,h⟩:=bind_some h
  injection h with h
  subst h
  exact(.cons (V.de h0) (.cons (V.de h1) aY.nil))
 ·cases h
theorem aa8(o:Nat)(cs:List V)(x:cO)(h:Jh o cs=some x):aY cs (Aq o x):=by
 unfold Jh at h
 split at h
 ·obtain⟨x0,h0,h⟩:=bind_some h
  obtain⟨x1,h1,h⟩:=bind_some h
  injection h with h
  subst h
  exact(.cons (V.de h0) (.cons (V.kR h1) aY.nil))
 ·cases h
theorem aa9(o:Nat)(cs:List V)(x:iE)(h:Ji o cs=some x):aY cs (As o x):=by
 unfold Ji at h
 split at h
 ·obtain⟨x0,h0,h⟩:=bind_some h
  obtain⟨x1,h1,h⟩:=bind_some h
  obtain⟨x2,h2,h⟩:=bind_some h
  injection h with h
  subst h
  exact(.cons (V.de h0) (.cons (V.de h1) (.cons (V.de h2) aY.nil)))
 ·cases h
theorem aba(o:Nat)(cs:List V)(x:oe)(h:Jj o cs=some x):aY cs (xW o x):=by
 unfold Jj at h
 split at h
 ·obtain⟨x0,h0,h⟩:=bind_some h
  obtain⟨x1,h1,h⟩:=bind_some h
  injection h with h
  subst h
  exact(.cons (V.aE h0) (.cons (V.aE h1) aY.nil))
 ·cases h
theorem abb(o:Nat)(cs:List V)(x:cu)(h:Jk o cs=some x):aY cs (At o x):=by
 unfold Jk at h
 split at h
 ·obtain⟨x0,h0,h⟩:=bind_some h
  obtain⟨x1,h1,h⟩:=bind_some h
  obtain⟨x2,h2,h⟩:=bind_some h
  injection h with h
  subst h
  exact(.cons (V.de h0) (.cons (V.de h1) (.cons (V.aE h2) aY.nil)))
 ·cases h
theorem abc(o:Nat)(cs:List V)(x:dO)(h:Jl o cs=some x):aY cs (Au o x):=by
 unfold Jl at h
 split at h
 ·obtain⟨x0,h0,h⟩:=bind_some h
  obtain⟨x1,h1,h⟩:=bind_some h
  injection h with h
  subst h
  exact(.cons (V.aE h0) (.cons (V.de h1) aY.nil))
 ·cases h
theorem abd(o:Nat)(cs:List V)(x:iF)(h:Jm o cs=some x):aY cs (Av o x):=by
 unfold Jm at h
 split at h
 ·obtain⟨x0,h0,h⟩:=bind_some h
  obtain⟨x1,h1,h⟩:=bind_some h
  obtain⟨x2,h2,h⟩:=bind_some h
  injection h with h
  subst h
  exact(.cons (V.de h0) (.cons (V.aE h1) (.cons (V.kR h2) aY.nil)))
 ·cases h
theorem PI(o:Nat)(cs:List V)(x:aS)(h:EM o cs=some x):aY cs (tO o x):=by
 unfold EM at h
 split at h
 ·obtain⟨x0,h0,h⟩:=bind_some h
  obtain⟨x1,h1,h⟩:=bind_some h
  obtain⟨x2,h2,h⟩:=bind_some h
  obtain⟨x3,h3,h⟩:=bind_some h
  obtain⟨x4,h4,h⟩:=bind_some h
  obtain⟨x5,h5,h⟩:=bind_some h
  injection h with h
  subst h
  exact(.cons (V.aE h0) (.cons (V.aE h1) (.cons (V.aE h2) (.cons (V.kR h3) (.cons (V.aE h4) (.cons (V.aE h5) aY.nil))))))
 ·cases h
theorem abe(o:Nat)(cs:List V)(x:bT)(h:Jn o cs=some x):aY cs (xX o x):=by
 unfold Jn at h
 split at h
 ·obtain⟨x0,h0,h⟩:=bind_some h
  obtain⟨x1,h1,h⟩:=bind_some h
  injection h with h
  subst h
  exact(.cons (V.aE h0) (.cons (V.aE h1) aY.nil))
 ·cases h
theorem abf(o:Nat)(cs:List V)(x:iS)(h:Jo o cs=some x):aY cs (xY o x):=by
 unfold Jo at h
 split at h
 ·obtain⟨x0,h0,h⟩:=bind_some h
  obtain⟨x1,h1,h⟩:=bind_some h
  obtain⟨x2,h2,h⟩:=bind_some h
  injection h with h
  subst h
  exact(.cons (V.kR h0) (.cons (V.aE h1) (.cons (V.aE h2) aY.nil)))
 ·cases h
theorem abg(o:Nat)(cs:List V)(x:EA)(h:Jp o cs=some x):aY cs (Aw o x):=by
 unfold Jp at h
 split at h
 ·obtain⟨x0,h0,h⟩:=bind_some h
  obtain⟨x1,h1,h⟩:=bind_some h
  injection h with h
  subst h
  exact(.cons (V.de h0) (.cons (V.aE h1) aY.nil))
 ·cases h
theorem abh(o:Nat)(cs:List V)(x:EB)(h:Jq o cs=some x):aY cs (xZ o x):=by
 unfold Jq at h
 split at h
 ·obtain⟨x0,h0,h⟩:=bind_some h
  obtain⟨x1,h1,h⟩:=bind_some h
  injection h with h
  subst h
  exact(.cons (V.aE h0) (.cons (V.aE h1) aY.nil))
 ·cases h
theorem abi(o:Nat)(cs:List V)(x:j9)(h:Jr o cs=some x):aY cs (ya o x):=by
 unfold Jr at h
 split at h
 ·obtain⟨x0,h0,h⟩:=bind_some h
  obtain⟨x1,h1,h⟩:=bind_some h
  obtain⟨x2,h2,h⟩:=bind_some h
  injection h with h
  subst h
  exact(.cons (V.aE h0) (.cons (V.aE h1) (.cons (V.aE h2) aY.nil)))
 ·cases h
theorem abj(o:Nat)(cs:List V)(x:ke)(h:Js o cs=some x):aY cs (yb o x):=by
 unfold Js at h
 split at h
 ·obtain⟨x0,h0,h⟩:=bind_some h
  obtain⟨x1,h1,h⟩:=bind_some h
  injection h with h
  subst h
  exact(.cons (V.aE h0) (.cons (V.aE h1) aY.nil))
 ·cases h
theorem abk(o:Nat)(cs:List V)(x:bx)(h:Jt o cs=some x):aY cs (yc o x):=by
 unfold Jt at h
 split at h
 ·obtain⟨x0,h0,h⟩:=bind_some h
  obtain⟨x1,h1,h⟩:=bind_some h
  obtain⟨x2,h2,h⟩:=bind_some h
  injection h with h
  subst h
  exact(.cons (V.aE h0) (.cons (V.aE h1) (.cons (V.aE h2) aY.nil)))
 ·cases h
theorem abl(o:Nat)(cs:List V)(x:EC)(h:Ju o cs=some x):aY cs (Ax o x):=by
 unfold Ju at h
 split at h
 ·obtain⟨x0,h0,h⟩:=bind_some h
  injection h with h
  subst h
  exact(.cons (V.de h0) aY.nil)
 ·cases h
theorem abm(o:Nat)(cs:List V)(x:ED)(h:Jv o cs=some x):aY cs (Ay o x):=by
 unfold Jv at h
 split at h
 ·obtain⟨x0,h0,h⟩:=bind_some h
  obtain⟨x1,h1,h⟩:=bind_some h
  injection h with h
  subst h
  exact(.cons (V.de h0) (.cons (V.aE h1) aY.nil))
 ·cases h
theorem abn(o:Nat)(cs:List V)(x:EE)(h:Jw o cs=some x):aY cs (Az o x):=by
 unfold Jw at h
 split at h
 ·obtain⟨x0,h0,h⟩:=bind_some h
  obtain⟨x1,h1,h⟩:=bind_some h
  injection h with h
  subst h
  exact(.cons (V.aE h0) (.cons (V.de h1) aY.nil))
 ·cases h
theorem abo(o:Nat)(cs:List V)(x:xM)(h:Jx o cs=some x):aY cs (yd o x):=by
 unfold Jx at h
 split at h
 ·obtain⟨x0,h0,h⟩:=bind_some h
  obtain⟨x1,h1,h⟩:=bind_some h
  injection h with h
  subst h
  exact(.cons (V.aE h0) (.cons (V.aE h1) aY.nil))
 ·cases h
theorem abp(o:Nat)(cs:List V)(x:Al)(h:Jy o cs=some x):aY cs (AA o x):=by
 unfold Jy at h
 split at h
 ·obtain⟨x0,h0,h⟩:=bind_some h
  obtain⟨x1,h1,h⟩:=bind_some h
  obtain⟨x2,h2,h⟩:=bind_some h
  injection h with h
  subst h
  exact(.cons (V.aE h0) (.cons (V.de h1) (.cons (V.de h2) aY.nil)))
 ·cases h
theorem abq(o:Nat)(cs:List V)(x:EF)(h:Jz o cs=some x):aY cs (AB o x):=by
 unfold Jz at h
 split at h
 ·obtain⟨x0,h0,h⟩:=bind_some h
  obtain⟨x1,h1,h⟩:=bind_some h
  obtain⟨x2,h2,h⟩:=bind_some h
  obtain⟨x3,h3,h⟩:=bind_some h
  obtain⟨x4,h4,h⟩:=bind_some h
  obtain⟨x5,h5,h⟩:=bind_some h
  injection h with h
  subst h
  exact(.cons (V.aE h0) (.cons (V.aE h1) (.cons (V.de h2) (.cons (V.de h3) (.cons (V.de h4) (.cons (V.de h5) aY.nil))))))
 ·cases h
theorem abr(o:Nat)(cs:List V)(x:og)(h:JA o cs=some x):aY cs (ye o x):=by
 unfold JA at h
 split at h
 ·obtain⟨x0,h0,h⟩:=bind_some h
  obtain⟨x1,h1,h⟩:=bind_some h
  obtain⟨x2,h2,h⟩:=bind_some h
  injection h with h
  subst h
  exact(.cons (V.aE h0) (.cons (V.aE h1) (.cons (V.aE h2) aY.nil)))
 ·cases h
theorem abt(o:Nat)(cs:List V)(x:EG)(h:JB o cs=some x):aY cs (AD o x):=by
 unfold JB at h
 split at h
 ·obtain⟨x0,h0,h⟩:=bind_some h
  obtain⟨x1,h1,h⟩:=bind_some h
  obtain⟨x2,h2,h⟩:=bind_some h
  obtain⟨x3,h3,h⟩:=bind_some h
  obtain⟨x4,h4,h⟩:=bind_some h
  obtain⟨x5,h5,h⟩:=bind_some h
  injection h with h
  subst h
  exact(.cons (V.aE h0) (.cons (V.de h1) (.cons (V.kR h2) (.cons (V.de h3) (.cons (V.kR h4) (.cons (V.aE h5) aY.nil))))))
 ·cases h
theorem abu(o:Nat)(cs:List V)(x:EH)(h:JC o cs=some x):aY cs (yf o x):=by
 unfold JC at h
 split at h
 ·obtain⟨x0,h0,h⟩:=bind_some h
  obtain⟨x1,h1,h⟩:=bind_some h
  obtain⟨x2,h2,h⟩:=bind_some h
  obtain⟨x3,h3,h⟩:=bind_some h
  injection h with h
  subst h
  exact(.cons (V.aE h0) (.cons (V.aE h1) (.cons (V.aE h2) (.cons (V.aE h3) aY.nil))))
 ·cases h
theorem abv(o:Nat)(cs:List V)(x:fB)(h:JD o cs=some x):aY cs (AE o x):=by
 unfold JD at h
 split at h
 ·obtain⟨x0,h0,h⟩:=bind_some h
  obtain⟨x1,h1,h⟩:=bind_some h
  obtain⟨x2,h2,h⟩:=bind_some h
  obtain⟨x3,h3,h⟩:=bind_some h
  obtain⟨x4,h4,h⟩:=bind_some h
  obtain⟨x5,h5,h⟩:=bind_some h
  obtain⟨x6,h6,h⟩:=bind_some h
  obtain⟨x7,h7,h⟩:=bind_some h
  injection h with h
  subst h
  exact(.cons (V.aE h0) (.cons (V.aE h1) (.cons (V.aE h2) (.cons (V.aE h3) (.cons (V.aE h4) (.cons (V.de h5) (.cons (V.aE h6) (.cons (V.aE h7) aY.nil))))))))
 ·cases h
theorem abw(o:Nat)(cs:List V)(x:kO)(h:JE o cs=some x):aY cs (AF o x):=by
 unfold JE at h
 split at h
 ·obtain⟨x0,h0,h⟩:=bind_some h
  obtain⟨x1,h1,h⟩:=bind_some h
  obtain⟨x2,h2,h⟩:=bind_some h
  obtain⟨x3,h3,h⟩:=bind_some h
  obtain⟨x4,h4,h⟩:=bind_some h
  obtain⟨x5,h5,h⟩:=bind_some h
  obtain⟨x6,h6,h⟩:=bind_some h
  obtain⟨x7,h7,h⟩:=bind_some h
  obtain⟨x8,h8,h⟩:=bind_some h
  obtain⟨x9,h9,h⟩:=bind_some h
  obtain⟨mz,fC,h⟩:=bind_some h
  obtain⟨mA,gS,h⟩:=bind_some h
  obtain⟨mB,jg,h⟩:=bind_some h
  obtain⟨mC,mG,h⟩:=bind_some h
  obtain⟨mD,kg,h⟩:=bind_some h
  obtain⟨mE,nB,h⟩:=bind_some h
  obtain⟨mF,mH,h⟩:=bind_some h
  injection h with h
  subst h
  exact(.cons (V.aE h0) (.cons (V.aE h1) (.cons (V.aE h2) (.cons (V.aE h3) (.cons (V.aE h4) (.cons (V.de h5) (.cons (V.aE h6) (.cons (V.aE h7) (.cons (V.aE h8) (.cons (V.aE h9) (.cons (V.aE fC) (.cons (V.aE gS) (.cons (V.aE jg) (.cons (V.de mG) (.cons (V.aE kg) (.cons (V.aE nB) (.cons (V.kR mH) aY.nil)))))))))))))))))
 ·cases h
theorem abx(o:Nat)(cs:List V)(x:gu)(h:JF o cs=some x):aY cs (yg o x):=by
 unfold JF at h
 split at h
 ·obtain⟨x0,h0,h⟩:=bind_some h
  obtain⟨x1,h1,h⟩:=bind_some h
  obtain⟨x2,h2,h⟩:=bind_some h
  obtain⟨x3,h3,h⟩:=bind_some h
  obtain⟨x4,h4,h⟩:=bind_some h
  obtain⟨x5,h5,h⟩:=bind_some h
  obtain⟨x6,h6,h⟩:=bind_some h
  obtain⟨x7,h7,h⟩:=bind_some h
  obtain⟨x8,h8,h⟩:=bind_some h
  obtain⟨x9,h9,h⟩:=bind_some h
  obtain⟨mz,fC,h⟩:=bind_some h
  obtain⟨mA,gS,h⟩:=bind_some h
  obtain⟨mB,jg,h⟩:=bind_some h
  obtain⟨mC,mG,h⟩:=bind_some h
  obtain⟨mD,kg,h⟩:=bind_some h
  obtain⟨mE,nB,h⟩:=bind_some h
  obtain⟨mF,mH,h⟩:=bind_some h
  obtain⟨tQ,nD,h⟩:=bind_some h
  obtain⟨tR,AR,h⟩:=bind_some h
  obtain⟨tS,vw,h⟩:=bind_some h
  obtain⟨AJ,AS,h⟩:=bind_some h
  obtain⟨AK,JQ,h⟩:=bind_some h
  obtain⟨AL,JR,h⟩:=bind_some h
  obtain⟨AM,AT,h⟩:=bind_some h
  obtain⟨AN,JS,h⟩:=bind_some h
  obtain⟨AO,AU,h⟩:=bind_some h
  obtain⟨AP,JT,h⟩:=bind_some h
  obtain⟨AQ,JU,h⟩:=bind_some h
  injection h with h
  subst h
  exact(.cons (V.aE h0) (.cons (V.aE h1) (.cons (V.aE h2) (.cons (V.aE h3) (.cons (V.aE h4) (.cons (V.aE h5) (.cons (V.aE h6) (.cons (V.aE h7) (.cons (V.aE h8) (.cons (V.aE h9) (.cons (V.aE fC) (.cons (V.aE gS) (.cons (V.aE jg) (.cons (V.aE mG) (.cons (V.aE kg) (.cons (V.aE nB) (.cons (V.aE mH) (.cons (V.aE nD) (.cons (V.aE AR) (.cons (V.aE vw) (.cons (V.aE AS) (.cons (V.aE JQ) (.cons (V.kR JR) (.cons (V.aE AT) (.cons (V.aE JS) (.cons (V.aE AU) (.cons (V.aE JT) (.cons (V.aE JU) aY.nil))))))))))))))))))))))))))))
 ·cases h
theorem aby(o:Nat)(cs:List V)(x:cF)(h:JL o cs=some x):aY cs (yh o x):=by
 unfold JL at h
 split at h
 ·obtain⟨x0,h0,h⟩:=bind_some h
  obtain⟨x1,h1,h⟩:=bind_some h
  obtain⟨x2,h2,h⟩:=bind_some h
  obtain⟨x3,h3,h⟩:=bind_some h
  injection h with h
  subst h
  exact(.cons (V.aE h0) (.cons (V.aE h1) (.cons (V.aE h2) (.cons (V.aE h3) aY.nil))))
 ·cases h
theorem PJ(o:Nat)(cs:List V)(x:cB)(h:EN o cs=some x):aY cs (tP o x):=by
 unfold EN at h
 split at h
 ·obtain⟨x0,h0,h⟩:=bind_some h
  obtain⟨x1,h1,h⟩:=bind_some h
  obtain⟨x2,h2,h⟩:=bind_some h
  obtain⟨x3,h3,h⟩:=bind_some h
  obtain⟨x4,h4,h⟩:=bind_some h
  obtain⟨x5,h5,h⟩:=bind_some h
  obtain⟨x6,h6,h⟩:=bind_some h
  obtain⟨x7,h7,h⟩:=bind_some h
  obtain⟨x8,h8,h⟩:=bind_some h
  obtain⟨x9,h9,h⟩:=bind_some h
  obtain⟨mz,fC,h⟩:=bind_some h
  obtain⟨mA,gS,h⟩:=bind_some h
  obtain⟨mB,jg,h⟩:=bind_some h
  obtain⟨mC,mG,h⟩:=bind_some h
  obtain⟨mD,kg,h⟩:=bind_some h
  obtain⟨mE,nB,h⟩:=bind_some h
  obtain⟨mF,mH,h⟩:=bind_some h
  obtain⟨tQ,nD,h⟩:=bind_some h
  obtain⟨tR,AR,h⟩:=bind_some h
  obtain⟨tS,vw,h⟩:=bind_some h
  obtain⟨AJ,AS,h⟩:=bind_some h
  obtain⟨AK,JQ,h⟩:=bind_some h
  obtain⟨AL,JR,h⟩:=bind_some h
  obtain⟨AM,AT,h⟩:=bind_some h
  obtain⟨AN,JS,h⟩:=bind_some h
  obtain⟨AO,AU,h⟩:=bind_some h
  obtain⟨AP,JT,h⟩:=bind_some h
  obtain⟨AQ,JU,h⟩:=bind_some h
  obtain⟨OO,h28,h⟩:=bind_some h
  obtain⟨OP,h29,h⟩:=bind_some h
  obtain⟨OQ,h30,h⟩:=bind_some h
  obtain⟨OR,h31,h⟩:=bind_some h
  obtain⟨OS,h32,h⟩:=bind_some h
  obtain⟨OT,h33,h⟩:=bind_some h
  obtain⟨OU,h34,h⟩:=bind_some h
  obtain⟨OV,h35,h⟩:=bind_some h
  obtain⟨OW,h36,h⟩:=bind_some h
  obtain⟨OX,h37,h⟩:=bind_some h
  obtain⟨OY,h38,h⟩:=bind_some h
  obtain⟨OZ,h39,h⟩:=bind_some h
  obtain⟨O0,h40,h⟩:=bind_some h
  obtain⟨O1,h41,h⟩:=bind_some h
  obtain⟨O2,h42,h⟩:=bind_some h
  obtain⟨O3,h43,h⟩:=bind_some h
  obtain⟨O4,h44,h⟩:=bind_some h
  obtain⟨O5,h45,h⟩:=bind_some h
  obtain⟨O6,h46,h⟩:=bind_some h
  obtain⟨O7,h47,h⟩:=bind_some h
  obtain⟨O8,h48,h⟩:=bind_some h
  obtain⟨O9,h49,h⟩:=bind_some h
  obtain⟨Pa,h50,h⟩:=bind_some h
  obtain⟨Pb,h51,h⟩:=bind_some h
  obtain⟨Pc,h52,h⟩:=bind_some h
  obtain⟨Pd,h53,h⟩:=bind_some h
  obtain⟨Pe,h54,h⟩:=bind_some h
  obtain⟨Pf,h55,h⟩:=bind_some h
  obtain⟨Pg,h56,h⟩:=bind_some h
  obtain⟨Ph,h57,h⟩:=bind_some h
  obtain⟨Pj,h58,h⟩:=bind_some h
  obtain⟨Pk,h59,h⟩:=bind_some h
  obtain⟨Pm,h60,h⟩:=bind_some h
  obtain⟨Pn,h61,h⟩:=bind_some h
  obtain⟨Po,h62,h⟩:=bind_some h
  obtain⟨Pp,n9,h⟩:=bind_some h
  obtain⟨Pq,h64,h⟩:=bind_some h
  obtain⟨Pr,h65,h⟩:=bind_some h
  obtain⟨Pu,h66,h⟩:=bind_some h
  obtain⟨Pv,h67,h⟩:=bind_some h
  obtain⟨Pw,h68,h⟩:=bind_some h
  obtain⟨Px,h69,h⟩:=bind_some h
  obtain⟨Py,h70,h⟩:=bind_some h
  obtain⟨Pz,h71,h⟩:=bind_some h
  obtain⟨PB,h72,h⟩:=bind_some h
  obtain⟨PC,h73,h⟩:=bind_some h
  obtain⟨PD,h74,h⟩:=bind_some h
  injection h with h
  subst h
  exact(.cons (V.aE h0) (.cons (V.aE h1) (.cons (V.aE h2) (.cons (V.aE h3) (.cons (V.aE h4) (.cons (V.aE h5) (.cons (V.aE h6) (.cons (V.aE h7) (.cons (V.aE h8) (.cons (V.aE h9) (.cons (V.aE fC) (.cons (V.aE gS) (.cons (V.aE jg) (.cons (V.aE mG) (.cons (V.aE kg) (.cons (V.aE nB) (.cons (V.aE mH) (.cons (V.aE nD) (.cons (V.aE AR) (.cons (V.aE vw) (.cons (V.aE AS) (.cons (V.aE JQ) (.cons (V.kR JR) (.cons (V.aE AT) (.cons (V.aE JS) (.cons (V.aE AU) (.cons (V.aE JT) (.cons (V.aE JU) (.cons (V.aE h28) (.cons (V.aE h29) (.cons (V.aE h30) (.cons (V.aE h31) (.cons (V.aE h32) (.cons (V.de h33) (.cons (V.aE h34) (.cons (V.aE h35) (.cons (V.aE h36) (.cons (V.aE h37) (.cons (V.aE h38) (.cons (V.aE h39) (.cons (V.aE h40) (.cons (V.de h41) (.cons (V.aE h42) (.cons (V.aE h43) (.cons (V.kR h44) (.cons (V.aE h45) (.cons (V.de h46) (.cons (V.aE h47) (.cons (V.de h48) (.cons (V.de h49) (.cons (V.de h50) (.cons (V.de h51) (.cons (V.de h52) (.cons (V.aE h53) (.cons (V.de h54) (.cons (V.de h55) (.cons (V.aE h56) (.cons (V.kR h57) (.cons (V.de h58) (.cons (V.de h59) (.cons (V.de h60) (.cons (V.de h61) (.cons (V.de h62) (.cons (V.kR n9) (.cons (V.aE h64) (.cons (V.aE h65) (.cons (V.aE h66) (.cons (V.aE h67) (.cons (V.aE h68) (.cons (V.aE h69) (.cons (V.aE h70) (.cons (V.aE h71) (.cons (V.de h72) (.cons (V.de h73) (.cons (V.de h74) aY.nil)))))))))))))))))))))))))))))))))))))))))))))))))))))))))))))))))))))))))))
 ·cases h
theorem abz(o:Nat)(cs:List V)(x:Am)(h:JM o cs=some x):aY cs (AG o x):=by
 unfold JM at h
 split at h
 ·obtain⟨x0,h0,h⟩:=bind_some h
  obtain⟨x1,h1,h⟩:=bind_some h
  obtain⟨x2,h2,h⟩:=bind_some h
  obtain⟨x3,h3,h⟩:=bind_some h
  obtain⟨x4,h4,h⟩:=bind_some h
  obtain⟨x5,h5,h⟩:=bind_some h
  obtain⟨x6,h6,h⟩:=bind_some h
  obtain⟨x7,h7,h⟩:=bind_some h
  obtain⟨x8,h8,h⟩:=bind_some h
  obtain⟨x9,h9,h⟩:=bind_some h
  obtain⟨mz,fC,h⟩:=bind_some h
  obtain⟨mA,gS,h⟩:=bind_some h
  obtain⟨mB,jg,h⟩:=bind_some h
  obtain⟨mC,mG,h⟩:=bind_some h
  obtain⟨mD,kg,h⟩:=bind_some h
  obtain⟨mE,nB,h⟩:=bind_some h
  obtain⟨mF,mH,h⟩:=bind_some h
  obtain⟨tQ,nD,h⟩:=bind_some h
  obtain⟨tR,AR,h⟩:=bind_some h
  obtain⟨tS,vw,h⟩:=bind_some h
  injection h with h
  subst h
  exact(.cons (V.aE h0) (.cons (V.aE h1) (.cons (V.aE h2) (.cons (V.aE h3) (.cons (V.kR h4) (.cons (V.aE h5) (.cons (V.aE h6) (.cons (V.aE h7) (.cons (V.aE h8) (.cons (V.aE h9) (.cons (V.aE fC) (.cons (V.aE gS) (.cons (V.aE jg) (.cons (V.aE mG) (.cons (V.aE kg) (.cons (V.aE nB) (.cons (V.aE mH) (.cons (V.de nD) (.cons (V.aE AR) (.cons (V.aE vw) aY.nil))))))))))))))))))))
 ·cases h
theorem abA(o:Nat)(cs:List V)(x:EI)(h:JN o cs=some x):aY cs (yj o x):=by
 unfold JN at h
 split at h
 ·obtain⟨x0,h0,h⟩:=bind_some h
  obtain⟨x1,h1,h⟩:=bind_some h
  obtain⟨x2,h2,h⟩:=bind_some h
  injection h with h
  subst h
  exact(.cons (V.aE h0) (.cons (V.aE h1) (.cons (V.aE h2) aY.nil)))
 ·cases h
theorem abB(o:Nat)(cs:List V)(x:EJ)(h:JO o cs=some x):aY cs (AH o x):=by
 unfold JO at h
 split at h
 ·obtain⟨x0,h0,h⟩:=bind_some h
  obtain⟨x1,h1,h⟩:=bind_some h
  obtain⟨x2,h2,h⟩:=bind_some h
  injection h with h
  subst h
  exact(.cons (V.de h0) (.cons (V.aE h1) (.cons (V.aE h2) aY.nil)))
 ·cases h
theorem ym{α:Type}{f:V->Option α}{g:α->V}(hf:∀ x a,f x=some a->Wk x (g a)){cs:List V}{x:α}(h:tT f cs=some x):aY cs [g x]:=by
 unfold tT at h
 split at h
 ·exact .cons (hf _ _ h) .nil
 ·cases h
theorem abC{α:Type}{f:List V->Option α}{g:α->List V}(hf:∀ x a,f x=some a->aY x (g a)){cs:List V}{x:α}(h:JP f cs=some x):aY cs (.bool true :: g x):=by
 unfold JP at h
 split at h
 ·exact .cons (.same _) (hf _ _ h)
 ·cases h
theorem EO{α:Type}{n:Nat}{f:List V->Option α}{g:α->List V}(hf:∀ x a,f x=some a->aY x (g a)){cs:List V}{x:α}(h:yl n f cs=some x):aY cs (.bool false :: .int .i64 (n:Int) :: g x):=by
 unfold yl at h
 split at h
 ·split at h
  ·rename_i hn
   subst hn
   exact .cons (.same _) (.cons (.same _) (hf _ _ h))
  ·cases h
 ·cases h
theorem jC:(t:TC)->(o:Nat)->(cs:List V)->(x:T t)->dec t o cs=some x->aY cs (enc t o x)
 | .int,_,_,_,h=>ym (g:=fun n=>.int .i64 n) (fun _ _=>V.aE) h
 | .u8,_,_,_,h=>ym (g:=fun n=>.int .u8 n) (fun _ _=>V.aaY) h
 | .bool,_,_,_,h=>ym (g:=fun n=>.bool n) (fun _ _=>V.kR) h
 | .str,_,_,_,h=>ym (g:=fun n=>.str n) (fun _ _=>V.aaZ) h
 | .ef,o,cs,x,h=>aa0 o cs x h
 | .Addr,o,cs,x,h=>PF o cs x h
 | .lD,o,cs,x,h=>aa1 o cs x h
 | .tE,o,cs,x,h=>aa2 o cs x h
 | .Command,o,cs,x,h=>PG o cs x h
 | .hD,o,cs,x,h=>aa3 o cs x h
 | .dR,o,cs,x,h=>aa4 o cs x h
 | .jf,o,cs,x,h=>aa5 o cs x h
 | .Event,o,cs,x,h=>aa6 o cs x h
 | .kP,o,cs,x,h=>aa7 o cs x h
 | .Cell,o,cs,x,h=>aa8 o cs x h
 | .Array,o,cs,x,h=>aa9 o cs x h
 | .nx,o,cs,x,h=>aba o cs x h
 | .eP,o,cs,x,h=>abb o cs x h
 | .iI,o,cs,x,h=>abc o cs x h
 | .kQ,o,cs,x,h=>abd o cs x h
 | .dB,o,cs,x,h=>PI o cs x h
 | .dP,o,cs,x,h=>abe o cs x h
 | .lE,o,cs,x,h=>abf o cs x h
 | .tF,o,cs,x,h=>abg o cs x h
 | .tG,o,cs,x,h=>abh o cs x h
 | .Power,o,cs,x,h=>abi o cs x h
 | .lF,o,cs,x,h=>abj o cs x h
 | .dF,o,cs,x,h=>abk o cs x h
 | .tH,o,cs,x,h=>abl o cs x h
 | .tI,o,cs,x,h=>abm o cs x h
 | .Receiver,o,cs,x,h=>abn o cs x h
 | .Node,o,cs,x,h=>abo o cs x h
 | .Tree,o,cs,x,h=>abp o cs x h
 | .tJ,o,cs,x,h=>abq o cs x h
 | .ny,o,cs,x,h=>abr o cs x h
 | .tK,o,cs,x,h=>abt o cs x h
 | .Move,o,cs,x,h=>abu o cs x h
 | .jz,o,cs,x,h=>abv o cs x h
 | .mo,o,cs,x,h=>abw o cs x h
 | .Config,o,cs,x,h=>abx o cs x h
 | .fK,o,cs,x,h=>aby o cs x h
 | .eR,o,cs,x,h=>PJ o cs x h
 | .Act,o,cs,x,h=>abz o cs x h
 | .Fact,o,cs,x,h=>abA o cs x h
 | .tL,o,cs,x,h=>abB o cs x h
 | .sl t,o,_,_,h=>ym (g:=fun n=>.sl t o false n) (fun _ _=>V.de) h
 | .xN,o,_,_,h=>abC (g:=tP o) (PJ o) h
 | .xO g,o,_,_,h=>EO (g:=fun n=>[.int .i64 n]) (fun _ _ h=>ym (g:=fun n=>.int .i64 n) (fun _ _=>V.aE) h) h
 | .xP g,o,_,_,h=>EO (g:=tO o) (PI o) h
 | .xQ g,o,_,_,h=>EO (g:=tM o) (PF o) h
 | .fnCommand g,o,_,_,h=>EO (g:=tN o) (PG o) h
def V.low(n:Nat):V->Bool
 | .sl t _ _ _=>Nat.ble (full t+2) n
 | _=>true
theorem EP(t:TC)(o:Nat)(x:T t):∀ y∈enc t o x,y.low (full t)=true:=by
 cases t <;>simp[enc,V.low,full,xR,tM,xS,An,tN,xT,xU,Ao,xV,Ap,Aq,As,xW,At,Au,Av,tO,xX,xY,Aw,xZ,ya,yb,yc,Ax,Ay,Az,yd,AA,AB,ye,AD,yf,AE,AF,yg,yh,tP,AG,yj,AH]
def V.plain:V->Bool
 | .int _ _ | .bool _ | .str _=>true
 | _=>false
theorem AV(t:TC)(o:Nat)(x:T t)(h:full t=0):∀ y∈enc t o x,y.plain=true:=by
 cases t <;>first | (simp[full]at h;done) | simp[enc,V.plain,xR,tM,xS,tN,xT,xU,xV,xW,tO,xX,xY,xZ,ya,yb,yc,yd,ye,yf,yg,yh,yj]
def V.mI:V->Bool
 | .nil=>false
 | _=>true
theorem JV(t:TC)(o:Nat)(x:T t):∀ y∈enc t o x,y.mI=true:=by
 cases t <;>simp[enc,V.mI,xR,tM,xS,An,tN,xT,xU,Ao,xV,Ap,Aq,As,xW,At,Au,Av,tO,xX,xY,Aw,xZ,ya,yb,yc,Ax,Ay,Az,yd,AA,AB,ye,AD,yf,AE,AF,yg,yh,tP,AG,yj,AH]
def tcs:List TC:=[.int,.u8,.bool,.str,.sl .int,.sl .bool,.sl .str,.ef,.Addr,.lD,.tE,.Command,.hD,.dR,.jf,.Event,.kP,.Cell,.Array,.nx,.eP,.iI,.kQ,.dB,.dP,.lE,.tF,.tG,.Power,.lF,.dF,.tH,.tI,.Receiver,.Node,.Tree,.tJ,.ny,.tK,.Move,.jz,.mo,.Config,.fK,.eR,.Act,.Fact,.tL]
def PL(e:TypeId):Option TC:=tcs.find? fun t=>Nat.beq (tid t) e
theorem abD{e:TypeId}{t:TC}(h:PL e=some t):tid t=e:=Nat.eq_of_beq_eq_true (List.find?_some (p:=fun t=>Nat.beq (tid t) e) h)
def V.gr(o:Nat):V->Bool
 | .sl _ o' _ _=>o'==o
 | _=>true
theorem rq(t:TC)(o:Nat)(x:T t):∀ y∈enc t o x,y.gr o=true:=by
 cases t <;>simp[enc,V.gr,xR,tM,xS,An,tN,xT,xU,Ao,xV,Ap,Aq,As,xW,At,Au,Av,tO,xX,xY,Aw,xZ,ya,yb,yc,Ax,Ay,Az,yd,AA,AB,ye,AD,yf,AE,AF,yg,yh,tP,AG,yj,AH]
/-- Contents that nobody writes. -/
def V.ah:V->Bool
 | .sl _ o _ _=>decide (o<2)
 | _=>true
/-- The contents,held to be frozen. -/
def V.gz:V->V
 | .sl t _ q l=>.sl t 0 q l
 | x=>x
theorem abE(t:TC)(o:Nat)(x y:T t):(enc t o x).map (fun v=>(v.plain,v.ah))=(enc t o y).map (fun v=>(v.plain,v.ah)):=by cases t <;>rfl
theorem V.arM(x:V):x.gz.ah=true:=by cases x <;>simp[V.gz,V.ah]
theorem hG(t:TC)(o:Nat)(x:T t)(ho:o<2)(j:Nat)(y:V)(h:(enc t o x)[j]?=some y):y.ah=true:=by
 have:=rq t o x y (List.mem_of_getElem? h)
 cases y <;>simp_all [V.gr,V.ah]
theorem PM(t:TC)(o:Nat)(x:T t):enc t 0 x=(enc t o x).map V.gz:=by cases t <;>rfl
theorem ru(t:TC)(o:Nat)(x:T t)(j:Nat)(y:V)(h:(enc t 0 x)[j]?=some y):∃ z,(enc t o x)[j]?=some z/\y=z.gz:=by
 rw[PM t o x,List.getElem?_map]at h
 cases hz:(enc t o x)[j]? with
 | none=>rw[hz]at h;cases h
 | some z=>rw[hz]at h;injection h with h;exact⟨z,rfl,h.symm⟩
def inner:Nat->Nat
 | 0=>0
 | 1=>1
 | n+2=>n
abbrev aQ:=Nat->Option (List Nat)
inductive RV (w:World) (B:Nat) (lab:aQ):List Nat->V->Value->Prop
 | int (q:List Nat) (k:IntKind) (n:Int):RV w B lab q (.int k n) (.int k n)
 | bool (q:List Nat) (b:Bool):RV w B lab q (.bool b) (.bool b)
 | str (q:List Nat) (s:ByteArray):RV w B lab q (.str s) (.string s)
 | nil (q:List Nat):RV w B lab q .nil (.slice none 0 0)
 | bO (q:List Nat) (t:TC) (o:Nat):RV w B lab q (.sl t o false []) (.slice none 0 0)
 | bY (q:List Nat) (t:TC) (o:Nat) (A:Addr) (c:Nat) (ho:o<2):RV w B lab q (.sl t o false []) (.slice (some A) 0 c)
 | cy (q:List Nat) (t:TC) (o:Nat) (A:Addr) (c:Nat) (ho:o<2):RV w B lab q (.sl t o true []) (.slice (some A) 0 c)
 | ah (q:List Nat) (t:TC) (o:Nat) (qn:Bool) (l:List (T t)) (b off cap:Nat) (u:Nat->Nat->Value) (ho:o<2) (hl:lab b=none) (hb:b<w.heap.size) (h1:o=1->B<=b) (hcap:l.length<=cap)
   (hc:∀ i (h:i<l.length) j x,(enc t o l[i])[j]?=some x->w.cell? ⟨b,off+(i*aq t+j),none⟩=some (u i j))
   (hr:∀ i (h:i<l.length) j x,(enc t o l[i])[j]?=some x->RV w B lab [] x (u i j)):RV w B lab q (.sl t o qn l) (.slice (some ⟨b,off,none⟩) l.length cap)
 | own (q:List Nat) (t:TC) (o:Nat) (qn:Bool) (l:List (T t)) (b cap:Nat) (cs:Array Value) (u:Nat->Nat->Value) (hl:lab b=some q) (hh:w.heap[b]?=some (.cells cs (tid t) (0,0)))
   (hs:cs.size=cap*aq t) (hn:l.length<=cap) (hm:cap<=maxLen/\(qn=true->cap=l.length))
   (hc:∀ i (h:i<l.length) j x,(enc t o l[i])[j]?=some x->cs[i*aq t+j]?=some (u i j))
   (hr:∀ i (h:i<l.length) j x,(enc t o l[i])[j]?=some x->RV w B lab (j :: i :: aq t :: q) x (u i j)):RV w B lab q (.sl t (o+2) qn l) (.slice (some ⟨b,0,none⟩) l.length cap)
section
variable {w w':World} {B:Nat} {lab aj:aQ}
def V.AX(n:Nat):V->V
 | .sl t _ q l=>.sl t n q l
 | x=>x
theorem abF(t:TC)(o n:Nat)(x:T t):enc t n x=(enc t o x).map (V.AX n):=by cases t <;>rfl
def V.fu(n:Nat):V->Prop
 | .sl t o _ _=>full t+2<=o/\full t+2<=n
 | _=>True
theorem RV.AX{q:List Nat}{x:V}{v:Value}(h:RV w B lab q x v):∀ n,x.fu n->RV w B lab q (x.AX n) v:=by
 induction h with
 | int=>exact fun _ _=>.int _ _ _
 | bool=>exact fun _ _=>.bool _ _
 | str=>exact fun _ _=>.str _ _
 | nil=>exact fun _ _=>.nil _
 | bO=>exact fun _ _=>.bO _ _ _
 | bY q t o A c ho=>exact fun n hn=>by have:=hn.1;omega
 | cy q t o A c ho=>exact fun n hn=>by have:=hn.1;omega
 | ah q t o qn l b off cap u ho hl hb h1 hcap hc hr ih=>exact fun n hn=>by have:=hn.1;omega
 | own q t o qn l b cap cs u hl hh hs hn hm hc hr ih=>
  intro n hf
  obtain⟨h1,h2⟩:=hf
  obtain⟨m,rfl⟩:∃ m,n=m+2:=⟨n-2,by omega⟩
  have key:∀ (i:Nat) (h:i<l.length) (j:Nat) (x:V),(enc t m l[i])[j]?=some x->∃ y:V,(enc t o l[i])[j]?=some y/\y.AX m=x/\y.fu m:=by
   intro i h j x hx
   rw[abF t o m l[i],List.getElem?_map]at hx
   cases hy:(enc t o l[i])[j]? with
   | none=>rw[hy]at hx;cases hx
   | some y=>
    rw[hy]at hx
    injection hx with hx
    refine⟨y,rfl,hx,?_⟩
    have g1:=rq t o l[i] y (List.mem_of_getElem? hy)
    have g2:=EP t o l[i] y (List.mem_of_getElem? hy)
    cases y with
    | sl t' o' q' l'=>
     have e:o'=o:=by simpa [V.gr]using g1
     have:=Nat.le_of_ble_eq_true (show Nat.ble (full t'+2) (full t)=true from g2)
     exact⟨by omega,by omega⟩
    | _=>trivial
  refine .own _ _ _ _ _ _ _ cs u hl hh hs hn hm (fun i h j x hx=>?_) (fun i h j x hx=>?_)
  ·obtain⟨y,hy,_⟩:=key i h j x hx
   exact hc i h j y hy
  ·obtain⟨y,hy,rfl,hf⟩:=key i h j x hx
   exact ih i h j y hy m hf
theorem RV.wk{q:List Nat}{x y:V}{v:Value}(h:RV w B lab q x v)(k:Wk x y):RV w B lab q y v:=by
 cases k with
 | same=>exact h
 | nil t o=>cases h;exact .bO _ _ _
 | gr t o o' qn l h1 h2=>
  have h:=h.AX o ⟨h2,h1⟩
  have h:RV w B lab q (.sl t o qn l) v:=h
  cases h with
  | bO=>exact .bO _ _ _
  | bY q t o A c ho=>exact .bY _ _ _ _ _ ho
  | cy q t o A c ho=>exact .bY _ _ _ _ _ ho
  | ah q t o qn l b off cap u ho hl hb h1 hcap hc hr=>exact .ah _ _ _ _ _ _ _ _ u ho hl hb h1 hcap hc hr
  | own q t o qn l b cap cs u hl hh hs hn hm hc hr=>exact .own _ _ _ _ _ _ _ cs u hl hh hs hn ⟨hm.1,fun h=>by cases h⟩ hc hr
 | q t o l=>
  cases h with
  | cy q t o A c ho=>exact .bY _ _ _ _ _ ho
  | ah q t o qn l b off cap u ho hl hb h1 hcap hc hr=>exact .ah _ _ _ _ _ _ _ _ u ho hl hb h1 hcap hc hr
  | own q t o qn l b cap cs u hl hh hs hn hm hc hr=>exact .own _ _ _ _ _ _ _ cs u hl hh hs hn ⟨hm.1,fun h=>by cases h⟩ hc hr
theorem RV.key{q q':List Nat}{x:V}{v:Value}(h:RV w B lab q x v)(hf:x.ah=true):RV w B lab q' x v:=by
 cases h with
 | int=>exact .int _ _ _
 | bool=>exact .bool _ _
 | str=>exact .str _ _
 | nil=>exact .nil _
 | bO=>exact .bO _ _ _
 | bY=>exact .bY _ _ _ _ _ (by first | assumption | omega)
 | cy=>exact .cy _ _ _ _ _ (by first | assumption | omega)
 | ah q t o qn l b off cap u ho hl hb h1 hcap hc hr=>exact .ah _ _ _ _ _ _ _ _ u ho hl hb h1 hcap hc hr
 | own q t o qn l b cap cs u hl hh hs hn hm hc hr=>simp[V.ah]at hf;omega
def iT:Value->Bool
 | .slice ..=>true
 | _=>false
theorem RV.ER{q:List Nat}{x:V}{u:Value}(h:RV w B lab q x u)(hf:x.ah=false):iT u=true:=by
 cases h <;>first | rfl | cases hf
theorem RV.one{q:List Nat}{x:V}{u:Value}(h:RV w B lab q x u):u.oneCell'=true:=by
 cases h <;>rfl
theorem RV.dL{q:List Nat}{x:V}{v:Value}(h:RV w B lab q x v)(hz:w.heap.size<=w'.heap.size)(hk:∀ b,b<w.heap.size->w'.heap[b]?=w.heap[b]?/\aj b=lab b):RV w' B aj q x v:=by
 induction h with
 | int=>exact .int _ _ _
 | bool=>exact .bool _ _
 | str=>exact .str _ _
 | nil=>exact .nil _
 | bO=>exact .bO _ _ _
 | bY=>exact .bY _ _ _ _ _ (by first | assumption | omega)
 | cy=>exact .cy _ _ _ _ _ (by first | assumption | omega)
 | ah q t o qn l b off cap u ho hl hb h1 hcap hc hr ih=>
  exact .ah _ _ _ _ _ _ _ _ u ho ((hk b hb).2.trans hl) (Nat.lt_of_lt_of_le hb hz) h1 hcap (fun i h j x hx=>(World.cell?_of_block (a:=⟨b,_,none⟩) (hk b hb).1).trans (hc i h j x hx)) ih
 | own q t o qn l b cap cs u hl hh hs hn hm hc hr ih=>
  have hb:b<w.heap.size:=(Array.getElem?_eq_some_iff.1 hh).1
  exact .own _ _ _ _ _ _ _ cs u ((hk b hb).2.trans hl) ((hk b hb).1.trans hh) hs hn hm hc ih
theorem RV.apart{q kt:List Nat}{x:V}{v:Value}{bt:Nat}(h:RV w B lab q x v)(yp:lab bt=some kt)(hq:¬ q <:+ kt\/x.ah=true)(hz:w.heap.size<=w'.heap.size)(hk:∀ b,b≠bt->w'.heap[b]?=w.heap[b]?):RV w' B lab q x v:=by
 induction h with
 | int=>exact .int _ _ _
 | bool=>exact .bool _ _
 | str=>exact .str _ _
 | nil=>exact .nil _
 | bO=>exact .bO _ _ _
 | bY=>exact .bY _ _ _ _ _ (by first | assumption | omega)
 | cy=>exact .cy _ _ _ _ _ (by first | assumption | omega)
 | ah q t o qn l b off cap u ho hl hb h1 hcap hc hr ih=>
  have aK:b≠bt:=by rintro rfl;rw[hl]at yp;cases yp
  refine .ah _ _ _ _ _ _ _ _ u ho hl (Nat.lt_of_lt_of_le hb hz) h1 hcap (fun i h j x hx=>(World.cell?_of_block (a:=⟨b,_,none⟩) (hk b aK)).trans (hc i h j x hx)) (fun i h j x hx=>ih i h j x hx (.inr (hG t o l[i] ho j x hx)))
 | own q t o qn l b cap cs u hl hh hs hn hm hc hr ih=>
  have jh:¬ q <:+ kt:=by
   rcases hq with hq | hq
   ·exact hq
   ·simp[V.ah]at hq;omega
  have aK:b≠bt:=by rintro rfl;rw[hl]at yp;injection yp with yp;subst yp;exact jh (List.suffix_refl _)
  refine .own _ _ _ _ _ _ _ cs u hl ((hk b aK).trans hh) hs hn hm hc (fun i h j x hx=>ih i h j x hx (.inl fun hs=>jh (List.IsSuffix.trans ⟨[j,i,aq t],rfl⟩ hs)))
theorem RV.gz{q q':List Nat}{x:V}{v:Value}(h:RV w B lab q x v){B':Nat}:RV w B' (fun _=>none) q' x.gz v:=by
 induction h generalizing q' with
 | int=>exact .int _ _ _
 | bool=>exact .bool _ _
 | str=>exact .str _ _
 | nil=>exact .nil _
 | bO=>exact .bO _ _ _
 | bY=>exact .bY _ _ _ _ _ (by first | assumption | omega)
 | cy=>exact .cy _ _ _ _ _ (by first | assumption | omega)
 | ah q t o qn l b off cap u ho hl hb h1 hcap hc hr ih=>
  refine .ah _ _ _ _ _ _ _ _ u (by omega) rfl hb (by omega) hcap (fun i h j x hx=>?_) (fun i h j x hx=>?_)
  ·obtain⟨y,hy,_⟩:=ru t o l[i] j x hx
   exact hc i h j y hy
  ·obtain⟨y,hy,rfl⟩:=ru t o l[i] j x hx
   exact ih i h j y hy
 | own q t o qn l b cap cs u hl hh hs hn hm hc hr ih=>
  refine .ah _ _ _ _ _ _ _ _ u (by omega) rfl (Array.getElem?_eq_some_iff.1 hh).1 (by omega) hn (fun i h j x hx=>?_) (fun i h j x hx=>?_)
  ·obtain⟨y,hy,_⟩:=ru t o l[i] j x hx
   have:=hc i h j y hy
   rw[Nat.zero_add,cell_of_row w b _ cs _ _ hh]
   exact this
  ·obtain⟨y,hy,rfl⟩:=ru t o l[i] j x hx
   exact ih i h j y hy
end
end Go.Proofs.YtmffpkippmkjbaaGreatDoor
namespace Go.Proofs.YtmffpkippmkjbaaGreatDoor
open Go.RowKit
set_option linter.unusedVariables false
inductive Lf where
 | v (x:V)
 | own (k:List Nat)
 | dead
inductive A where
 | undef
 | skip
 | lf (x:Lf)
 | agg (cs:List Lf)
 | bJ (xs:List (Bool×List Lf))
 | ptr (k:List Nat)
 | az (r j:Nat)
 | fL (cs:List V)
 | jD (f:Nat) (cs:List V)
 | pk (r n:Nat)
 | view (k:List Nat) (s i j:Nat)
 | fn (f:Nat) (cap:List (Nat×Nat))
inductive ax where
 | blk (cs:List Lf)
 | sl (y:V)
 | mp (l:List (Int×Bool))
 | gh (xs:List A)
structure S where
 t:Nat->A
 m:Nat->Option ax
inductive Loc where
 | blk (b off:Nat)
 | cS (v:Value)
 | aT (us:List Value)
def addrAt(w:World)(lab:aQ)(ρ:Nat->Loc):List Nat->Option Addr
 | j :: i :: s :: [r]=>match ρ r with
  | .cS (.slice (some ⟨b,0,none⟩) _ _)=>if lab b=some [r]then some ⟨b,i*s+j,none⟩else none
  | _=>none
 | j :: i :: s :: q=>match (addrAt w lab ρ q).bind w.cell? with
  | some (.slice (some ⟨b,0,none⟩) _ _)=>if lab b=some q then some ⟨b,i*s+j,none⟩else none
  | _=>none
 | _=>none
def bC(w:World)(lab:aQ)(ρ:Nat->Loc):List Nat->Option Value
 | [r]=>match ρ r with
  | .cS v=>some v
  | _=>none
 | q=>(addrAt w lab ρ q).bind w.cell?
def cg(w:World)(B:Nat)(lab:aQ)(ρ:Nat->Loc):Lf->Value->Prop
 | .v x,u=>x.ah=true/\RV w B lab [] x u
 | .own k,u=>iT u=true/\bC w lab ρ k=some u
 | .dead,_=>True
def cG(w:World)(B:Nat)(lab:aQ)(ρ:Nat->Loc)(cs:List Lf)(us:Array Value):Prop:=
 us.size=cs.length/\∀ (j:Nat) x,cs[j]?=some x->∃ u,us[j]?=some u/\cg w B lab ρ x u
def RP(w:World)(B:Nat)(lab:aQ)(ρ:Nat->Loc)(p:Bool×List Lf)(u:Value):Prop:=
 match p with
 | (true,cs)=>∃ us,u = .agg us/\cG w B lab ρ cs us
 | (false,cs)=>cG w B lab ρ cs #[u]
def mJ:Nat:=4294967296
def ES(b n:Nat):Value:=bif Nat.beq n mJ then .map (some b)else .slice (some ⟨b,0,none⟩) n n
theorem JW{b n:Nat}(h:n<mJ):ES b n = .slice (some ⟨b,0,none⟩) n n:=by
 unfold ES
 cases hb:Nat.beq n mJ with
 | true=>have:=Nat.eq_of_beq_eq_true hb;omega
 | false=>rfl
theorem JX(b:Nat):ES b mJ = .map (some b):=rfl
def RF(w:World)(B:Nat)(lab:aQ)(cs:List V)(u:Value):Prop:=
 ∃ b off,u = .pointer (some ⟨b,off,none⟩)/\b<w.heap.size/\lab b=none/\∀ (j:Nat) x,cs[j]?=some x->x.ah=true/\∃ v,w.cell? ⟨b,off+j,none⟩=some v/\RV w B lab [] x v
def RA(w:World)(B:Nat)(lab:aQ)(ρ:Nat->Loc):A->Value->Prop
 | .undef,_=>True
 | .skip,u=>u=Go.undef
 | .lf x,u=>cg w B lab ρ x u
 | .agg cs,u=>RP w B lab ρ (true,cs) u
 | .bJ xs,u=>∃ us:Array Value,u = .tuple us/\us.size=xs.length/\∀ (j:Nat) p,xs[j]?=some p->∃ v,us[j]?=some v/\RP w B lab ρ p v
 | .ptr k,u=>∃ ad,u = .pointer (some ad)/\addrAt w lab ρ k=some ad
 | .az r j,u=>∃ b off,ρ r = .blk b off/\u = .pointer (some ⟨b,off+j,none⟩)
 | .fL cs,u=>RF w B lab cs u
 | .jD f cs,u=>∃ pv,u = .func (.func f) #[] #[pv]/\RF w B lab cs pv
 | .pk r n,u=>∃ b,ρ r = .blk b 0/\u=ES b n
 | .view k s i j,u=>∃ A n c,bC w lab ρ k=some (.slice A n c)/\i<=j/\j<=n/\u=sliced A i j c s
 | .fn f cap,u=>∃ vs:Array Value,u = .func (.func f) #[] vs/\vs.size=cap.length/\∀ (j:Nat) p,cap[j]?=some p->∃ b off,ρ p.1 = .blk b off/\vs[j]?=some (.pointer (some ⟨b,off+p.2,none⟩))
inductive cX (w:World) (B:Nat) (lab:aQ) (ρ:Nat->Loc) (r:Nat):ax->Prop
 | blk (b off:Nat) (cells:Array Value) (e:TypeId) (cs:List Lf) (us:Nat->Value) (av:ρ r = .blk b off) (hl:lab b=some [r]) (hh:w.heap[b]?=some (.cells cells e (0,0))) (hs:off+cs.length<=cells.size)
   (hc:∀ (j:Nat) x,cs[j]?=some x->cells[off+j]?=some (us j)/\cg w B lab ρ x (us j)):cX w B lab ρ r (.blk cs)
 | sl (v:Value) (y:V) (av:ρ r = .cS v) (hr:RV w B lab [r] y v):cX w B lab ρ r (.sl y)
 | mp (b clock:Nat) (es:Array MapEntry) (l:List (Int×Bool)) (av:ρ r = .blk b 0) (hl:lab b=some [r]) (hh:w.heap[b]?=some (.map es clock)) (he:es.toList.map (fun e=>(e.key,e.val))=l.map fun p=>(.int .i64 p.1,.bool p.2)):cX w B lab ρ r (.mp l)
 | gh (us:List Value) (xs:List A) (av:ρ r = .aT us) (hx:∀ (j:Nat) x,xs[j]?=some x->RA w B lab ρ x (us.getD j undef)):cX w B lab ρ r (.gh xs)
def Qw(w:World):Prop:=Lib.TabIs Tryz.prog w "internal/strconv.uint64pow10" .u64 Lib.pow10Tab
theorem Qw.tab{w:World}(h:Qw w):Lib.TabIs Tryz.prog w "internal/strconv.uint64pow10" .u64 Lib.pow10Tab:=h
structure abG (n:Nat) (L:aQ) (w w':World):Prop where
 os:w'.os=w.os
 tape:w'.tape=w.tape
 output:w'.output=w.output
 size:w.heap.size<=w'.heap.size
 block:∀ k,k<n->L k=none->w'.heap[k]?=w.heap[k]?
def Hd(w:World)(L:aQ):Prop:=∀ w',abG w.heap.size L w w'->Qw w'
theorem abH{w:World}(h:Qw w):Hd w fun _=>none:=fun w' hb=>Lib.tabBelow_of_tabIs h w' ⟨hb.os,hb.tape,hb.output,hb.size,fun k hk=>hb.block k hk rfl⟩
theorem Hd.here{w:World}{L:aQ}(h:Hd w L):Qw w:=h w ⟨rfl,rfl,rfl,Nat.le_refl _,fun _ _ _=>rfl⟩
structure Wd where
 w:World
 L:aQ
 F:Nat->Option Loc
 held:Hd w L
 low:∀ r,r<20000->F r=none
def Wd.heap(d:Wd):Array Obj:=d.w.heap
def Wd.of(w:World)(h:Hd w fun _=>none):Wd:=⟨w,fun _=>none,fun _=>none,h,fun _ _=>rfl⟩
structure gv (d:Wd) (w w':World):Prop where
 os:w'.os=w.os
 tape:w'.tape=w.tape
 output:w'.output=w.output
 size:w.heap.size<=w'.heap.size
 block:∀ k,k<d.heap.size->d.L k=none->w'.heap[k]?=w.heap[k]?
theorem gv.trans{d:Wd}{a b c:World}(h:gv d a b)(k:gv d b c):gv d a c:=
 ⟨k.os.trans h.os,k.tape.trans h.tape,k.output.trans h.output,Nat.le_trans h.size k.size,fun i hi hl=>(k.block i hi hl).trans (h.block i hi hl)⟩
theorem Wd.on(d:Wd){w:World}(h:gv d d.w w){L:aQ}(hL:∀ b k,L b=some k->d.heap.size<=b\/d.L b≠none):Hd w L:=fun w' hb=>
 d.held w' ⟨hb.os.trans h.os,hb.tape.trans h.tape,hb.output.trans h.output,Nat.le_trans h.size hb.size,fun k hk hl=>by
  have e:L k=none:=by
   cases e:L k with
   | none=>rfl
   | some q=>
    rcases hL k q e with h1 | h1
    ·exact absurd hk (Nat.not_lt.2 h1)
    ·exact absurd hl h1
  exact(hb.block k (Nat.lt_of_lt_of_le hk h.size) e).trans (h.block k hk hl)⟩
theorem gv.of{d:Wd}{a b:World}{B:Nat}(h:Below B a b)(hB:d.heap.size<=B):gv d a b:=
 ⟨h.os,h.tape,h.output,h.size,fun i hi _=>h.block i (Nat.lt_of_lt_of_le hi hB)⟩
structure Rl (w0:Wd) (N:Nat) (lab:aQ) (ρ:Nat->Loc) (σ:S) (a:Act) (w:World):Prop where
 below:gv w0 w0.w w
 bV:∀ b k,lab b=some k->(w0.heap.size<=b\/w0.L b≠none)/\b<w.heap.size/\k≠[]
 root:∀ r x,σ.m r=some x->cX w w0.heap.size lab ρ r x
 tmp:∀ k,RA w w0.heap.size lab ρ (σ.t k) (a.tmps.getD k undef)
 size:a.tmps.size=N
 defers:a.defers=[]
 fix:∀ r l,w0.F r=some l->ρ r=l
 dM:∀ r,(r<N\/60000<=r)->w0.F r=none
def R(w0:Wd)(N:Nat)(σ:S)(a:Act)(w:World):Prop:=∃ lab ρ,Rl w0 N lab ρ σ a w
/-! Reading along a key. -/
inductive qf (m:Nat->Option ax):List Nat->V->Prop
 | root (r:Nat) (y:V) (h:m r=some (.sl y)):qf m [r] y
 | elem (j i:Nat) (q:List Nat) (t:TC) (o:Nat) (qn:Bool) (l:List (T t)) (y:V) (h:qf m q (.sl t (o+2) qn l)) (hi:i<l.length) (hy:(enc t o l[i])[j]?=some y):qf m (j :: i :: aq t :: q) y
section
variable {w w':World} {w0:Wd} {B N:Nat} {lab aj:aQ} {ρ ρ':Nat->Loc} {m:Nat->Option ax} {σ:S} {a:Act}
theorem vz{q:List Nat}(j i s:Nat){b n c:Nat}(h:bC w lab ρ q=some (.slice (some ⟨b,0,none⟩) n c))(hl:lab b=some q):addrAt w lab ρ (j :: i :: s :: q)=some ⟨b,i*s+j,none⟩:=by
 match q,h,hl with
 | [r],h,hl=>
  simp only[bC]at h
  simp only[addrAt]
  cases hr:ρ r with
  | blk b off=>rw[hr]at h;cases h
  | cS v=>rw[hr]at h;injection h with h;subst h;simp[hl]
  | aT us=>rw[hr]at h;cases h
 | [],h,hl=>simp[bC,addrAt]at h
 | x :: y :: q,h,hl=>
  simp only[bC]at h
  simp only[addrAt,h,hl,if_true]
theorem ET{j i s:Nat}{q:List Nat}:bC w lab ρ (j :: i :: s :: q)=(addrAt w lab ρ (j :: i :: s :: q)).bind w.cell?:=rfl
theorem qf.ok{k:List Nat}{y:V}(h:qf m k y)(hm:∀ r x,m r=some x->cX w B lab ρ r x):∃ u,bC w lab ρ k=some u/\RV w B lab k y u:=by
 induction h with
 | root r y h=>
  cases hm _ _ h with
  | sl v y av hr=>exact⟨v,by simp[bC,av],hr⟩
 | elem j i q t o qn l y h hi hy ih=>
  obtain⟨u,hu,hr⟩:=ih
  cases hr with
  | bO=>simp at hi
  | bY=>simp at hi
  | cy=>simp at hi
  | ah _ _ _ _ _ _ _ _ _ ho=>omega
  | own _ _ _ _ _ b cap cs us hl hh hs hn hm hc hr=>
   refine⟨us i j,?_,hr i hi j y hy⟩
   rw[ET,vz j i (aq t) hu hl]
   show w.cell? _=_
   rw[cell_of_row w b _ cs _ _ hh]
   exact hc i hi j y hy
theorem tU:∀ (k:List Nat) (ad:Addr),addrAt w lab ρ k=some ad->∃ j i s q,k=j :: i :: s :: q/\lab ad.block=some q/\ad.off=i*s+j/\ad.spot=none/\(∀ r,q=[r]->∃ v,ρ r = .cS v)
 | [],_,h=>by simp[addrAt]at h
 | [_],_,h=>by simp[addrAt]at h
 | [_,_],_,h=>by simp[addrAt]at h
 | [_,_,_],_,h=>by simp[addrAt]at h
 | [j,i,s,r],ad,h=>by
  simp only[addrAt]at h
  split at h
  ·rename_i v b n c hr
   split at h
   ·rename_i hl
    injection h with h
    subst h
    exact⟨j,i,s,[r],rfl,hl,rfl,rfl,fun r' e=>by injection e with e;subst e;exact⟨_,hr⟩⟩
   ·cases h
  ·cases h
 | j :: i :: s :: x :: y :: q,ad,h=>by
  simp only[addrAt]at h
  split at h
  ·split at h
   ·rename_i hl
    injection h with h
    subst h
    exact⟨j,i,s,x :: y :: q,rfl,hl,rfl,rfl,fun r' e=>by injection e with _ e;cases e⟩
   ·cases h
  ·cases h
theorem JY(hk:∀ b,b<w.heap.size->w'.heap[b]?=w.heap[b]?/\aj b=lab b)(hg:∀ b k,lab b=some k->b<w.heap.size):∀ (k:List Nat) (ad:Addr),addrAt w lab ρ k=some ad->addrAt w' aj ρ k=some ad
 | [],_,h=>h
 | [_],_,h=>h
 | [_,_],_,h=>h
 | [_,_,_],_,h=>by simp only[addrAt]at h ⊢;exact h
 | [j,i,s,r],_,h=>by
  simp only[addrAt]at h ⊢
  split at h
  ·rename_i v b n c hr
   split at h
   ·rename_i hl
    rw[if_pos ((hk _ (hg _ _ hl)).2.trans hl)]
    exact h
   ·cases h
  ·cases h
 | j :: i :: s :: x :: y :: q,ad,h=>by
  simp only[addrAt]at h ⊢
  cases ha:addrAt w lab ρ (x :: y :: q)with
  | none=>rw[ha]at h;cases h
  | some lH=>
   rw[JY hk hg _ _ ha]
   rw[ha]at h
   cases hc:w.cell? lH with
   | none=>simp[hc]at h
   | some v=>
    have e:w'.cell? lH=some v:=(World.cell?_of_block (hk _ (block_lt_of_cell hc)).1).trans hc
    simp only[Option.bind_some,hc]at h
    simp only[Option.bind_some,e]
    split at h
    ·split at h
     ·rename_i hl
      rw[if_pos ((hk _ (hg _ _ hl)).2.trans hl)]
      exact h
     ·cases h
    ·cases h
theorem PN(hk:∀ b,b<w.heap.size->w'.heap[b]?=w.heap[b]?/\aj b=lab b)(hg:∀ b k,lab b=some k->b<w.heap.size)(k:List Nat)(u:Value)(h:bC w lab ρ k=some u):bC w' aj ρ k=some u:=by
 match k,h with
 | [],h=>simp[bC,addrAt]at h
 | [r],h=>exact h
 | x :: y :: q,h=>
  simp only[bC]at h ⊢
  cases ha:addrAt w lab ρ (x :: y :: q)with
  | none=>rw[ha]at h;cases h
  | some ad=>
   rw[JY hk hg _ _ ha]
   rw[ha]at h
   have h:w.cell? ad=some u:=h
   exact(World.cell?_of_block (hk _ (block_lt_of_cell h)).1).trans h
theorem cg.dL{x:Lf}{u:Value}(h:cg w B lab ρ x u)(hz:w.heap.size<=w'.heap.size)(hk:∀ b,b<w.heap.size->w'.heap[b]?=w.heap[b]?/\aj b=lab b)(hg:∀ b k,lab b=some k->b<w.heap.size):cg w' B aj ρ x u:=by
 cases x with
 | v x=>exact⟨h.1,h.2.dL hz hk⟩
 | own k=>exact⟨h.1,PN hk hg _ _ h.2⟩
 | dead=>trivial
theorem cG.dL{cs:List Lf}{us:Array Value}(h:cG w B lab ρ cs us)(hz:w.heap.size<=w'.heap.size)(hk:∀ b,b<w.heap.size->w'.heap[b]?=w.heap[b]?/\aj b=lab b)(hg:∀ b k,lab b=some k->b<w.heap.size):cG w' B aj ρ cs us:=
 ⟨h.1,fun j x hx=>let ⟨u,hu,r⟩:=h.2 j x hx;⟨u,hu,r.dL hz hk hg⟩⟩
theorem RP.dL{p:Bool×List Lf}{u:Value}(h:RP w B lab ρ p u)(hz:w.heap.size<=w'.heap.size)(hk:∀ b,b<w.heap.size->w'.heap[b]?=w.heap[b]?/\aj b=lab b)(hg:∀ b k,lab b=some k->b<w.heap.size):RP w' B aj ρ p u:=by
 obtain⟨b,cs⟩:=p
 cases b with
 | true=>obtain⟨us,e,h⟩:=h;exact⟨us,e,h.dL hz hk hg⟩
 | false=>exact cG.dL h hz hk hg
theorem RF.dL{cs:List V}{u:Value}(h:RF w B lab cs u)(hz:w.heap.size<=w'.heap.size)(hk:∀ b,b<w.heap.size->w'.heap[b]?=w.heap[b]?/\aj b=lab b):RF w' B aj cs u:=by
 obtain⟨b,off,e,hb,hl,h⟩:=h
 refine⟨b,off,e,Nat.lt_of_lt_of_le hb hz,((hk b hb).2).trans hl,fun j x hx=>?_⟩
 obtain⟨hf,v,hv,hr⟩:=h j x hx
 exact⟨hf,v,(World.cell?_of_block (a:=⟨b,_,none⟩) (hk b hb).1).trans hv,hr.dL hz hk⟩
theorem RA.dL{x:A}{u:Value}(h:RA w B lab ρ x u)(hz:w.heap.size<=w'.heap.size)(hk:∀ b,b<w.heap.size->w'.heap[b]?=w.heap[b]?/\aj b=lab b)(hg:∀ b k,lab b=some k->b<w.heap.size):RA w' B aj ρ x u:=by
 cases x with
 | undef=>trivial
 | skip=>exact h
 | lf x=>exact cg.dL h hz hk hg
 | agg cs=>exact RP.dL (p:=(true,cs)) h hz hk hg
 | bJ xs=>obtain⟨us,e,hs,h⟩:=h;exact⟨us,e,hs,fun j p hp=>let ⟨v,hv,r⟩:=h j p hp;⟨v,hv,r.dL hz hk hg⟩⟩
 | ptr k=>obtain⟨ad,e,h⟩:=h;exact⟨ad,e,JY hk hg _ _ h⟩
 | view k s i j=>obtain⟨A,n,c,h,g⟩:=h;exact⟨A,n,c,PN hk hg _ _ h,g⟩
 | pk r n=>exact h
 | az r j=>exact h
 | fL cs=>exact RF.dL h hz hk
 | jD f cs=>obtain⟨pv,e,h⟩:=h;exact⟨pv,e,h.dL hz hk⟩
 | fn f cap=>exact h
theorem cX.dL{r:Nat}{x:ax}(h:cX w B lab ρ r x)(hz:w.heap.size<=w'.heap.size)(hk:∀ b,b<w.heap.size->w'.heap[b]?=w.heap[b]?/\aj b=lab b)(hg:∀ b k,lab b=some k->b<w.heap.size):cX w' B aj ρ r x:=by
 cases h with
 | blk b off cells e cs us av hl hh hs hc=>
  have hb:b<w.heap.size:=(Array.getElem?_eq_some_iff.1 hh).1
  exact .blk b off cells e cs us av ((hk b hb).2.trans hl) ((hk b hb).1.trans hh) hs (fun j x hx=>⟨(hc j x hx).1,(hc j x hx).2.dL hz hk hg⟩)
 | sl v y av hr=>exact .sl v y av (hr.dL hz hk)
 | mp b c es l av hl hh he=>
  have hb:b<w.heap.size:=(Array.getElem?_eq_some_iff.1 hh).1
  exact .mp b c es l av ((hk b hb).2.trans hl) ((hk b hb).1.trans hh) he
 | gh us xs av hx=>exact .gh us xs av fun j x hj=>(hx j x hj).dL hz hk hg
/-! A root's name is given anew: what named it before is forgotten. -/
def aM(d:Nat)(k:List Nat):Bool:=k.getLast?==some d
def Lf.drop(d:Nat):Lf->Lf
 | .own k=>bif aM d k then .dead else .own k
 | x=>x
def A.drop(d:Nat):A->A
 | .lf x=>.lf (x.drop d)
 | .agg cs=>.agg (cs.map (Lf.drop d))
 | .bJ xs=>.bJ (xs.map fun p=>(p.1,p.2.map (Lf.drop d)))
 | .ptr k=>bif aM d k then .undef else .ptr k
 | .az r j=>bif Nat.beq r d then .undef else .az r j
 | .pk r n=>bif Nat.beq r d then .undef else .pk r n
 | .view k s i j=>bif aM d k then .undef else .view k s i j
 | .fn f cap=>bif cap.any (fun p=>Nat.beq p.1 d)then .undef else .fn f cap
 | x=>x
def ax.drop(d:Nat):ax->ax
 | .blk cs=>.blk (cs.map (Lf.drop d))
 | .gh xs=>.gh (xs.map (A.drop d))
 | x=>x
theorem JZ{d:Nat}(av:∀ r,r≠d->ρ' r=ρ r):∀ (k:List Nat),aM d k=false->addrAt w lab ρ' k=addrAt w lab ρ k
 | [],_=>rfl
 | [_],_=>rfl
 | [_,_],_=>rfl
 | [_,_,_],_=>rfl
 | [j,i,s,r],h=>by
  have hr:r≠d:=by rintro rfl;simp[aM]at h
  simp only[addrAt,av r hr]
 | j :: i :: s :: x :: y :: q,h=>by
  have h':aM d (x :: y :: q)=false:=by simpa [aM]using h
  simp only[addrAt,JZ av (x :: y :: q) h']
theorem PO{d:Nat}(av:∀ r,r≠d->ρ' r=ρ r)(k:List Nat)(h:aM d k=false):bC w lab ρ' k=bC w lab ρ k:=by
 match k,h with
 | [],_=>rfl
 | [r],h=>
  have hr:r≠d:=by rintro rfl;simp[aM]at h
  simp only[bC,av r hr]
 | x :: y :: q,h=>simp only[bC,JZ av _ h]
theorem cg.dj{d:Nat}(av:∀ r,r≠d->ρ' r=ρ r){x:Lf}{u:Value}(h:cg w B lab ρ x u):cg w B lab ρ' (x.drop d) u:=by
 cases x with
 | v x=>exact h
 | dead=>trivial
 | own k=>
  have e:Lf.drop d (.own k)=(bif aM d k then .dead else .own k):=rfl
  rw[e]
  cases hl:aM d k with
  | true=>trivial
  | false=>exact⟨h.1,(PO av k hl).trans h.2⟩
theorem cG.dj{d:Nat}(av:∀ r,r≠d->ρ' r=ρ r){cs:List Lf}{us:Array Value}(h:cG w B lab ρ cs us):cG w B lab ρ' (cs.map (Lf.drop d)) us:=by
 refine⟨by rw[List.length_map];exact h.1,fun j x hx=>?_⟩
 rw[List.getElem?_map]at hx
 cases hy:cs[j]? with
 | none=>rw[hy]at hx;cases hx
 | some y=>
  rw[hy]at hx
  injection hx with hx
  subst hx
  obtain⟨u,hu,r⟩:=h.2 j y hy
  exact⟨u,hu,r.dj av⟩
theorem RP.dj{d:Nat}(av:∀ r,r≠d->ρ' r=ρ r){p:Bool×List Lf}{u:Value}(h:RP w B lab ρ p u):RP w B lab ρ' (p.1,p.2.map (Lf.drop d)) u:=by
 obtain⟨b,cs⟩:=p
 cases b with
 | true=>obtain⟨us,e,h⟩:=h;exact⟨us,e,h.dj av⟩
 | false=>exact cG.dj av h
theorem RA.dj{d:Nat}(av:∀ r,r≠d->ρ' r=ρ r){x:A}{u:Value}(h:RA w B lab ρ x u):RA w B lab ρ' (x.drop d) u:=by
 cases x with
 | undef=>trivial
 | skip=>exact h
 | lf x=>exact cg.dj av h
 | agg cs=>exact RP.dj (p:=(true,cs)) av h
 | bJ xs=>
  obtain⟨us,e,hs,h⟩:=h
  refine⟨us,e,by rw[List.length_map];exact hs,fun j p hp=>?_⟩
  rw[List.getElem?_map]at hp
  cases hy:xs[j]? with
  | none=>rw[hy]at hp;cases hp
  | some y=>
   rw[hy]at hp
   injection hp with hp
   subst hp
   obtain⟨v,hv,r⟩:=h j y hy
   exact⟨v,hv,r.dj av⟩
 | ptr k=>
  have e:A.drop d (.ptr k)=(bif aM d k then .undef else .ptr k):=rfl
  rw[e]
  cases hl:aM d k with
  | true=>trivial
  | false=>obtain⟨ad,e,h⟩:=h;exact⟨ad,e,(JZ av k hl).trans h⟩
 | view k s i j=>
  have e:A.drop d (.view k s i j)=(bif aM d k then .undef else .view k s i j):=rfl
  rw[e]
  cases hl:aM d k with
  | true=>trivial
  | false=>obtain⟨A,n,c,h,g⟩:=h;exact⟨A,n,c,(PO av k hl).trans h,g⟩
 | pk r n=>
  have e:A.drop d (.pk r n)=(bif Nat.beq r d then .undef else .pk r n):=rfl
  rw[e]
  cases hl:Nat.beq r d with
  | true=>trivial
  | false=>
   have hr:r≠d:=by rintro rfl;simp at hl
   obtain⟨b,e,h⟩:=h
   exact⟨b,(av r hr).trans e,h⟩
 | az r j=>
  have e:A.drop d (.az r j)=(bif Nat.beq r d then .undef else .az r j):=rfl
  rw[e]
  cases hl:Nat.beq r d with
  | true=>trivial
  | false=>
   have hr:r≠d:=by rintro rfl;simp at hl
   obtain⟨b,off,e,h⟩:=h
   exact⟨b,off,(av r hr).trans e,h⟩
 | fL cs=>exact h
 | jD f cs=>exact h
 | fn f cap=>
  have e:A.drop d (.fn f cap)=(bif cap.any (fun p=>Nat.beq p.1 d)then .undef else .fn f cap):=rfl
  rw[e]
  cases hl:cap.any (fun p=>Nat.beq p.1 d)with
  | true=>trivial
  | false=>
   obtain⟨vs,e,hs,h⟩:=h
   refine⟨vs,e,hs,fun j p hp=>?_⟩
   obtain⟨b,off,e2,h2⟩:=h j p hp
   have hr:p.1≠d:=by
    rintro rfl
    have:=List.any_eq_false.1 hl p (List.mem_of_getElem? hp)
    simp at this
   exact⟨b,off,(av _ hr).trans e2,h2⟩
theorem cX.dj{d r:Nat}(av:∀ r,r≠d->ρ' r=ρ r)(hr:r≠d){x:ax}(h:cX w B lab ρ r x):cX w B lab ρ' r (x.drop d):=by
 cases h with
 | blk b off cells e cs us fM hl hh hs hc=>
  refine .blk b off cells e _ us ((av r hr).trans fM) hl hh (by rw[List.length_map];exact hs) (fun j x hx=>?_)
  rw[List.getElem?_map]at hx
  cases hy:cs[j]? with
  | none=>rw[hy]at hx;cases hx
  | some y=>
   rw[hy]at hx
   injection hx with hx
   subst hx
   exact⟨(hc j y hy).1,(hc j y hy).2.dj av⟩
 | sl v y fM AY=>exact .sl v y ((av r hr).trans fM) AY
 | mp b c es l fM hl hh he=>exact .mp b c es l ((av r hr).trans fM) hl hh he
 | gh us xs fM hx=>
  refine .gh us _ ((av r hr).trans fM) (fun j x hj=>?_)
  rw[List.getElem?_map]at hj
  cases hy:xs[j]? with
  | none=>rw[hy]at hj;cases hj
  | some y=>
   rw[hy]at hj
   injection hj with hj
   subst hj
   exact(hx j y hy).dj av
def aX{α:Type}(f:Nat->α)(d:Nat)(x:α):Nat->α:=fun k=>bif Nat.beq k d then x else f k
theorem aZ{α:Type}(f:Nat->α)(d:Nat)(x:α):aX f d x d=x:=by simp[aX]
theorem bB{α:Type}(f:Nat->α)(d:Nat)(x:α){k:Nat}(h:k≠d):aX f d x k=f k:=by
 have:Nat.beq k d=false:=by
  cases hb:Nat.beq k d with
  | false=>rfl
  | true=>exact absurd (Nat.eq_of_beq_eq_true hb) h
 simp only[aX,this,cond_false]
def S.set(σ:S)(d:Nat)(x:A):S:={ σ with t:=aX σ.t d x }
def S.drop(σ:S)(d:Nat):S:=⟨fun k=>(σ.t k).drop d,fun r=>bif Nat.beq r d then none else (σ.m r).map (ax.drop d)⟩
def S.root(σ:S)(d:Nat)(x:ax):S:={ σ with m:=aX σ.m d (some x) }
theorem Rl.set{x:A}{v:Value}{d:Nat}(h:Rl w0 N lab ρ σ a w)(hx:RA w w0.heap.size lab ρ x v)(hd:d<N):Rl w0 N lab ρ (σ.set d x) (a.put (some d) v) w:=by
 refine⟨h.below,h.bV,h.root,fun k=>?_,?_,h.defers,h.fix,h.dM⟩
 ·show RA w w0.heap.size lab ρ (aX σ.t d x k) ((a.tmps.setIfInBounds d v).getD k undef)
  by_cases hk:k=d
  ·subst hk
   rw[aZ,Array.getD_eq_getD_getElem?,Array.getElem?_setIfInBounds_self]
   have:k<a.tmps.size:=by rw[h.size];exact hd
   simp only[this,if_true,Option.getD_some]
   exact hx
  ·rw[bB _ _ _ hk,Array.getD_eq_getD_getElem?,Array.getElem?_setIfInBounds_ne (Ne.symm hk),<-Array.getD_eq_getD_getElem?]
   exact h.tmp k
 ·show (a.tmps.setIfInBounds d v).size=N
  rw[Array.size_setIfInBounds]
  exact h.size
theorem Rl.grow(h:Rl w0 N lab ρ σ a w)(hb:Below w.heap.size w w')(hl:∀ b,b<w.heap.size->aj b=lab b)(hg:∀ b k,w.heap.size<=b->aj b=some k->b<w'.heap.size/\k≠[]):Rl w0 N aj ρ σ a w':=by
 have hk:∀ b,b<w.heap.size->w'.heap[b]?=w.heap[b]?/\aj b=lab b:=fun b iU=>⟨hb.block b iU,hl b iU⟩
 refine⟨h.below.trans (.of hb h.below.size),fun b k hbk=>?_,fun r x hx=>(h.root r x hx).dL hb.size hk (fun b k hb=>(h.bV b k hb).2.1),fun k=>(h.tmp k).dL hb.size hk (fun b k hb=>(h.bV b k hb).2.1),h.size,h.defers,h.fix,h.dM⟩
 rcases Nat.lt_or_ge b w.heap.size with bU | j3
 ·rw[hl b bU]at hbk
  have:=h.bV b k hbk
  exact⟨this.1,Nat.lt_of_lt_of_le this.2.1 hb.size,this.2.2⟩
 ·have:=hg b k j3 hbk
  exact⟨.inl (Nat.le_trans h.below.size j3),this.1,this.2⟩
theorem Rl.new{d:Nat}{x:ax}(h:Rl w0 N lab ρ σ a w)(l:Loc)(hx:cX w w0.heap.size lab (aX ρ d l) d x)(hF:w0.F d=none):Rl w0 N lab (aX ρ d l) ((σ.drop d).root d x) a w:=by
 have av:∀ r,r≠d->aX ρ d l r=ρ r:=fun r hr=>bB _ _ _ hr
 refine⟨h.below,h.bV,fun r y hy=>?_,fun k=>(h.tmp k).dj av,h.size,h.defers,fun r l' hr=>(av r (by rintro rfl;rw[hF]at hr;cases hr)).trans (h.fix r l' hr),h.dM⟩
 by_cases hr:r=d
 ·subst hr
  have e:(aX (σ.drop r).m r (some x)) r=some x:=aZ _ _ _
  have hy:(aX (σ.drop r).m r (some x)) r=some y:=hy
  rw[e]at hy
  injection hy with hy
  subst hy
  exact hx
 ·have hy:(aX (σ.drop d).m d (some x)) r=some y:=hy
  rw[bB _ _ _ hr]at hy
  have hb:Nat.beq r d=false:=by
   cases hb:Nat.beq r d with
   | false=>rfl
   | true=>exact absurd (Nat.eq_of_beq_eq_true hb) hr
  simp only[S.drop,hb,cond_false]at hy
  cases hm:σ.m r with
  | none=>rw[hm]at hy;cases hy
  | some z=>
   rw[hm]at hy
   injection hy with hy
   subst hy
   exact(h.root r z hm).dj av hr
end
end Go.Proofs.YtmffpkippmkjbaaGreatDoor
namespace Go.Proofs.YtmffpkippmkjbaaGreatDoor
open Go.RowKit
set_option linter.unusedVariables false
def dZ{α:Type}(l:List α)(j:Nat)(xs:List α):List α:=l.take j++xs++l.drop (j+xs.length)
theorem vA{α:Type}(l:List α)(j:Nat)(xs:List α)(h:j+xs.length<=l.length):(dZ l j xs).length=l.length:=by
 simp[dZ];omega
theorem vB{α:Type}(l:List α)(j:Nat)(xs:List α)(h:j+xs.length<=l.length)(n:Nat):
  (dZ l j xs)[n]?=if n<j then l[n]? else if n<j+xs.length then xs[n-j]? else l[n]?:=by
 unfold dZ
 have ht:(l.take j).length=j:=by simp;omega
 split
 ·rename_i hn
  rw[List.append_assoc,List.getElem?_append_left (by rw[ht];exact hn),List.getElem?_take,if_pos hn]
 ·split
  ·rename_i h1 h2
   rw[List.append_assoc,List.getElem?_append_right (by rw[ht];omega),ht,List.getElem?_append_left (by omega)]
  ·rename_i h1 h2
   rw[List.getElem?_append_right (by simp;omega),List.getElem?_drop]
   congr 1
   simp
   omega
structure qg (w w':World) (bt:Nat):Prop where
 size:w'.heap.size=w.heap.size
 os:w'.os=w.os
 tape:w'.tape=w.tape
 output:w'.output=w.output
 block:∀ k,k≠bt->w'.heap[k]?=w.heap[k]?
theorem J0(w:World)(b o:Nat)(l:List Value):qg w (w.setCells b o l) b:=by
 have g:=I6 b l o w
 have s:=I5 b l o w
 refine⟨s,g.os,g.tape,g.output,fun k hk=>?_⟩
 rcases Nat.lt_or_ge k w.heap.size with bU | j3
 ·exact g.block k bU (by intro e;injection e with e;exact hk e)
 ·rw[Array.getElem?_eq_none j3,Array.getElem?_eq_none (by rw[s];exact j3)]
section
variable {w w':World} {w0:Wd} {B N:Nat} {lab:aQ} {ρ:Nat->Loc} {m m':Nat->Option ax} {σ:S} {a:Act} {bt:Nat} {kt:List Nat}
def oh(w w':World)(lab:aQ)(ρ:Nat->Loc):Prop:=∀ k ad v,addrAt w lab ρ k=some ad->w.cell? ad=some v->iT v=true->w'.cell? ad=some v
theorem J1(hC:oh w w' lab ρ):∀ (k:List Nat) (ad:Addr),addrAt w lab ρ k=some ad->addrAt w' lab ρ k=some ad
 | [],_,h=>h
 | [_],_,h=>h
 | [_,_],_,h=>h
 | [_,_,_],_,h=>by simp only[addrAt]at h ⊢;exact h
 | [j,i,s,r],_,h=>by simp only[addrAt]at h ⊢;exact h
 | j :: i :: s :: x :: y :: q,ad,h=>by
  simp only[addrAt]at h ⊢
  cases ha:addrAt w lab ρ (x :: y :: q)with
  | none=>rw[ha]at h;cases h
  | some lH=>
   rw[J1 hC _ _ ha]
   rw[ha]at h
   cases hc:w.cell? lH with
   | none=>simp[hc]at h
   | some v=>
    simp only[Option.bind_some,hc]at h
    have hv:iT v=true:=by
     split at h
     ·rename_i e;injection e with e;subst e;rfl
     ·cases h
    simp only[Option.bind_some,hC _ _ _ ha hc hv]
    exact h
theorem PR(hC:oh w w' lab ρ)(k:List Nat)(u:Value)(hu:iT u=true)(h:bC w lab ρ k=some u):bC w' lab ρ k=some u:=by
 match k,h with
 | [],h=>simp[bC,addrAt]at h
 | [r],h=>exact h
 | x :: y :: q,h=>
  simp only[bC]at h ⊢
  cases ha:addrAt w lab ρ (x :: y :: q)with
  | none=>rw[ha]at h;cases h
  | some ad=>
   rw[J1 hC _ _ ha]
   rw[ha]at h
   have h:w.cell? ad=some u:=h
   exact hC _ _ _ ha h hu
theorem cg.wrote{x:Lf}{u:Value}(h:cg w B lab ρ x u)(hw:qg w w' bt)(hl:lab bt=some kt)(hC:oh w w' lab ρ):cg w' B lab ρ x u:=by
 cases x with
 | v x=>exact⟨h.1,h.2.apart hl (.inr h.1) (Nat.le_of_eq hw.size.symm) hw.block⟩
 | own k=>exact⟨h.1,PR hC k u h.1 h.2⟩
 | dead=>trivial
theorem cG.wrote{cs:List Lf}{us:Array Value}(h:cG w B lab ρ cs us)(hw:qg w w' bt)(hl:lab bt=some kt)(hC:oh w w' lab ρ):cG w' B lab ρ cs us:=
 ⟨h.1,fun j x hx=>let ⟨u,hu,r⟩:=h.2 j x hx;⟨u,hu,r.wrote hw hl hC⟩⟩
theorem RP.wrote{p:Bool×List Lf}{u:Value}(h:RP w B lab ρ p u)(hw:qg w w' bt)(hl:lab bt=some kt)(hC:oh w w' lab ρ):RP w' B lab ρ p u:=by
 obtain⟨b,cs⟩:=p
 cases b with
 | true=>obtain⟨us,e,h⟩:=h;exact⟨us,e,h.wrote hw hl hC⟩
 | false=>exact cG.wrote h hw hl hC
theorem RF.wrote{cs:List V}{u:Value}(h:RF w B lab cs u)(hw:qg w w' bt)(hl:lab bt=some kt):RF w' B lab cs u:=by
 obtain⟨b,off,e,hb,eB,h⟩:=h
 have aK:b≠bt:=by rintro rfl;rw[hl]at eB;cases eB
 refine⟨b,off,e,by rw[hw.size];exact hb,eB,fun j x hx=>?_⟩
 obtain⟨hf,v,hv,hr⟩:=h j x hx
 exact⟨hf,v,(World.cell?_of_block (a:=⟨b,_,none⟩) (hw.block b aK)).trans hv,hr.apart hl (.inr hf) (Nat.le_of_eq hw.size.symm) hw.block⟩
theorem RA.wrote{x:A}{u:Value}(h:RA w B lab ρ x u)(hw:qg w w' bt)(hl:lab bt=some kt)(hC:oh w w' lab ρ):RA w' B lab ρ x u:=by
 cases x with
 | undef=>trivial
 | skip=>exact h
 | lf x=>exact cg.wrote h hw hl hC
 | agg cs=>exact RP.wrote (p:=(true,cs)) h hw hl hC
 | bJ xs=>obtain⟨us,e,hs,h⟩:=h;exact⟨us,e,hs,fun j p hp=>let ⟨v,hv,r⟩:=h j p hp;⟨v,hv,r.wrote hw hl hC⟩⟩
 | ptr k=>obtain⟨ad,e,h⟩:=h;exact⟨ad,e,J1 hC _ _ h⟩
 | view k s i j=>obtain⟨A,n,c,h,g⟩:=h;exact⟨A,n,c,PR hC k _ rfl h,g⟩
 | pk r n=>exact h
 | az r j=>exact h
 | fL cs=>exact RF.wrote h hw hl
 | jD f cs=>obtain⟨pv,e,h⟩:=h;exact⟨pv,e,h.wrote hw hl⟩
 | fn f cap=>exact h
theorem cX.wrote{r:Nat}{x:ax}(h:cX w B lab ρ r x)(hw:qg w w' bt)(hl:lab bt=some kt)(hC:oh w w' lab ρ)(hr:¬ [r] <:+ kt):cX w' B lab ρ r x:=by
 cases h with
 | blk b off cells e cs us av eB hh hs hc=>
  have aK:b≠bt:=by rintro rfl;rw[hl]at eB;injection eB with eB;subst eB;exact hr (List.suffix_refl _)
  exact .blk b off cells e cs us av eB ((hw.block b aK).trans hh) hs (fun j x hx=>⟨(hc j x hx).1,(hc j x hx).2.wrote hw hl hC⟩)
 | sl v y av cw=>exact .sl v y av (cw.apart hl (.inl hr) (Nat.le_of_eq hw.size.symm) hw.block)
 | mp b c es l av eB hh he=>
  have aK:b≠bt:=by rintro rfl;rw[hl]at eB;injection eB with eB;subst eB;exact hr (List.suffix_refl _)
  exact .mp b c es l av eB ((hw.block b aK).trans hh) he
 | gh us xs av hx=>exact .gh us xs av fun j x hj=>(hx j x hj).wrote hw hl hC
theorem Rl.wrote(h:Rl w0 N lab ρ σ a w)(hw:qg w w' bt)(hl:lab bt=some kt)(hC:oh w w' lab ρ)(hm:∀ r x,m' r=some x->cX w' w0.heap.size lab ρ r x):Rl w0 N lab ρ ⟨σ.t,m'⟩ a w':=by
 have hb:=(h.bV bt kt hl).1
 have aK:∀ k,k<w0.heap.size->w0.L k=none->k≠bt:=by
  rintro k hk hL rfl
  rcases hb with hb | hb
  ·exact absurd hk (Nat.not_lt.2 hb)
  ·exact hb hL
 refine⟨⟨hw.os.trans h.below.os,hw.tape.trans h.below.tape,hw.output.trans h.below.output,by rw[hw.size];exact h.below.size,fun k hk hL=>(hw.block k (aK k hk hL)).trans (h.below.block k hk hL)⟩,fun b k hbk=>?_,hm,fun k=>(h.tmp k).wrote hw hl hC,h.size,h.defers,h.fix,h.dM⟩
 rw[hw.size]
 exact h.bV b k hbk
theorem J2{r r':Nat}(h:r'≠r):¬ [r'] <:+ [r]:=by
 intro hs
 have:=hs.eq_of_length rfl
 injection this with this
 exact h this
theorem Rl.AZ{r j:Nat}{cs xs:List Lf}{us:Array Value}(h:Rl w0 N lab ρ σ a w)(hm:σ.m r=some (.blk cs))(hx:cG w w0.heap.size lab ρ xs us)(hj:j+xs.length<=cs.length):
  ∃ b off,ρ r = .blk b off/\w.there b (off+j) us.size/\Rl w0 N lab ρ ⟨σ.t,aX σ.m r (some (.blk (dZ cs j xs)))⟩ a (w.setCells b (off+j) us.toList):=by
 have hr:=h.root r _ hm
 generalize he:ax.blk cs=x at hr
 cases hr with
 | sl=>cases he
 | mp=>cases he
 | gh=>cases he
 | blk b off cells e cz u av hl hh hs hc=>
  injection he with he
  subst he
  have hlen:us.size=xs.length:=hx.1
  have hJ:off+j+us.toList.length<=cells.size:=by rw[Array.length_toList,hlen];omega
  have hW:=J0 w b (off+j) us.toList
  obtain⟨c2,eK,ki⟩:=Ak b e us.toList (off+j) w cells hh hJ
  have hC:oh w (w.setCells b (off+j) us.toList) lab ρ:=by
   intro k ad v ha hv fD
   obtain⟨j',i',s',q,rfl,hq,_,_,J3⟩:=tU k ad ha
   have aK:ad.block≠b:=by
    intro e
    rw[e,hl]at hq
    injection hq with hq
    obtain⟨v',dh⟩:=J3 r hq.symm
    rw[av]at dh
    cases dh
   exact(World.cell?_of_block (hW.block _ aK)).trans hv
  refine⟨b,off,av,fun n hn=>⟨?_,frozen_of_row w b _ cells e hh⟩,h.wrote hW hl hC fun r' y hy=>?_⟩
  ·rw[cell_of_row w b _ cells e _ hh]
   simp
   omega
  ·by_cases ji:r'=r
   ·subst ji
    rw[aZ]at hy
    injection hy with hy
    subst hy
    refine .blk b off c2 e _ (fun n=>if n<j then u n else if n<j+xs.length then us.getD (n-j) undef else u n) av hl eK ?_ fun n x rz=>?_
    ·rw[vA _ _ _ hj,<-Array.length_toList,ki]
     have:=vA cells.toList (off+j) us.toList (by simpa using hJ)
     simp only[dZ]at this
     rw[this]
     simpa using hs
    ·have e2:c2[off+n]?=(dZ cells.toList (off+j) us.toList)[off+n]?:=by
      rw[show c2[off+n]?=c2.toList[off+n]? by simp,ki]
      rfl
     rw[e2,vB _ _ _ (by simpa using hJ)]
     rw[vB _ _ _ hj]at rz
     by_cases h1:n<j
     ·rw[if_pos (by omega)]
      simp only[h1,if_true]at rz ⊢
      refine⟨?_,(hc n x rz).2.wrote hW hl hC⟩
      rw[Array.getElem?_toList]
      exact(hc n x rz).1
     ·by_cases h2:n<j+xs.length
      ·rw[if_neg (by omega),if_pos (by rw[Array.length_toList,hlen];omega)]
       simp only[h1,h2,if_true,if_false]at rz ⊢
       obtain⟨v,hv,hr⟩:=hx.2 (n-j) x rz
       have hg:us.getD (n-j) undef=v:=by rw[Array.getD_eq_getD_getElem?,hv];rfl
       rw[hg]
       refine⟨?_,hr.wrote hW hl hC⟩
       rw[show off+n-(off+j)=n-j by omega,Array.getElem?_toList]
       exact hv
      ·rw[if_neg (by omega),if_neg (by rw[Array.length_toList,hlen];omega)]
       simp only[h1,h2,if_false]at rz ⊢
       refine⟨?_,(hc n x rz).2.wrote hW hl hC⟩
       rw[Array.getElem?_toList]
       exact(hc n x rz).1
   ·rw[bB _ _ _ ji]at hy
    exact(h.root r' y hy).wrote hW hl hC (J2 ji)
inductive vC (m:Nat->Option ax):List Nat->V->(Nat->Option ax)->Prop
 | root (r:Nat) (y0 y:V) (h:m r=some (.sl y0)):vC m [r] y (aX m r (some (.sl y)))
 | elem (j i:Nat) (q:List Nat) (t:TC) (o:Nat) (qn:Bool) (l:List (T t)) (y:V) (e:T t) (m':Nat->Option ax) (h:qf m q (.sl t (o+2) qn l)) (hi:i<l.length) (hj:j<aq t)
   (hd:dec t o (dZ (enc t o l[i]) j [y])=some e) (hp:vC m q (.sl t (o+2) qn (l.set i e)) m'):vC m (j :: i :: aq t :: q) y m'
theorem J4{α:Type}{a b c:List α}(ha:a <:+ c)(hb:b <:+ c)(h:a.length=b.length):a=b:=by
 obtain⟨x,hx⟩:=ha
 obtain⟨y,hy⟩:=hb
 rw[<-hx]at hy
 exact((List.append_inj' hy h.symm).2).symm
theorem RV.EU{q:List Nat}{t:TC}{o:Nat}{qn:Bool}{l:List (T t)}{i j:Nat}{xs:List V}{e:T t}{b cap:Nat}{cs cz:Array Value}{u us:Nat->Nat->Value}
  (hl:lab b=some q) (hh:w'.heap[b]?=some (.cells cz (tid t) (0,0))) (hs:cz.size=cap*aq t) (hn:l.length<=cap) (hm:cap<=maxLen/\(qn=true->cap=l.length)) (hi:i<l.length) (hj:j+xs.length<=aq t)
  (hd:dec t o (dZ (enc t o l[i]) j xs)=some e)
  (hc:∀ i' (h:i'<l.length) (j':Nat) x,(enc t o l[i'])[j']?=some x->¬ (i'=i/\j<=j'/\j'<j+xs.length)->cz[i'*aq t+j']?=some (u i' j')/\RV w' B lab (j' :: i' :: aq t :: q) x (u i' j'))
  (hx:∀ (n:Nat) x,xs[n]?=some x->cz[i*aq t+(j+n)]?=some (us i (j+n))/\RV w' B lab ((j+n) :: i :: aq t :: q) x (us i (j+n))):
  RV w' B lab q (.sl t (o+2) qn (l.set i e)) (.slice (some ⟨b,0,none⟩) l.length cap):=by
 have hlen:(l.set i e).length=l.length:=List.length_set
 have key:∀ i' (h:i'<(l.set i e).length) (j':Nat) x,(enc t o (l.set i e)[i'])[j']?=some x->
   ∃ v,cz[i'*aq t+j']?=some v/\RV w' B lab (j' :: i' :: aq t :: q) x v:=by
  intro i' h j' x bR
  rw[List.getElem_set]at bR
  by_cases PS:i=i'
  ·subst PS
   rw[if_pos rfl]at bR
   have hk:=jC t o _ e hd
   have oV:j'<(enc t o e).length:=(List.getElem?_eq_some_iff.1 bR).1
   rw[<-hk.1]at oV
   have hy:=List.getElem?_eq_getElem oV
   generalize (dZ (enc t o l[i]) j xs)[j']=y at hy
   have hw:=hk.2 j' y x hy bR
   rw[vB _ _ _ (by rw[jB];exact hj)]at hy
   by_cases h1:j'<j
   ·rw[if_pos h1]at hy
    obtain⟨h3,h4⟩:=hc i hi j' y hy (by omega)
    exact⟨_,h3,h4.wk hw⟩
   ·by_cases h2:j'<j+xs.length
    ·rw[if_neg h1,if_pos h2]at hy
     obtain⟨h3,h4⟩:=hx (j'-j) y hy
     rw[show j+(j'-j)=j' by omega]at h3 h4
     exact⟨_,h3,h4.wk hw⟩
    ·rw[if_neg h1,if_neg h2]at hy
     obtain⟨h3,h4⟩:=hc i hi j' y hy (by omega)
     exact⟨_,h3,h4.wk hw⟩
  ·rw[if_neg PS]at bR
   obtain⟨h3,h4⟩:=hc i' (by rw[<-hlen];exact h) j' x bR (by omega)
   exact⟨_,h3,h4⟩
 rw[<-hlen]
 refine .own q t o qn (l.set i e) b cap cz (fun i' j'=>(cz[i'*aq t+j']?).getD undef) hl hh hs (by rw[hlen];exact hn) ⟨hm.1,fun h=>by rw[hlen];exact hm.2 h⟩ (fun i' h j' x bR=>?_) (fun i' h j' x bR=>?_)
 ·obtain⟨v,hv,_⟩:=key i' h j' x bR
  rw[hv]
  rfl
 ·obtain⟨v,hv,hr⟩:=key i' h j' x bR
  rw[hv]
  exact hr
theorem PT{r:Nat}{q:List Nat}(h:[r] <:+ q){r':Nat}(h':[r'] <:+ q):r'=r:=by
 have:=J4 h' h rfl
 injection this
theorem vC.ok{q:List Nat}{y:V}(h:vC m q y m')(hm:∀ r x,m r=some x->cX w B lab ρ r x)(hw:qg w w' bt)(hl:lab bt=some kt)(hq:q <:+ kt)(hC:oh w w' lab ρ){hv:Value}(ec:bC w lab ρ q=some hv)(hy:RV w' B lab q y hv):
  ∀ r x,m' r=some x->cX w' B lab ρ r x:=by
 induction h generalizing hv with
 | root r y0 y h=>
  intro r' x hx
  by_cases hr:r'=r
  ·subst hr
   rw[aZ]at hx
   injection hx with hx
   subst hx
   simp only[bC]at ec
   cases av:ρ r' with
   | blk b off=>rw[av]at ec;cases ec
   | aT us=>rw[av]at ec;cases ec
   | cS v=>
    rw[av]at ec
    injection ec with ec
    subst ec
    exact .sl v y av hy
  ·rw[bB _ _ _ hr]at hx
   exact(hm r' x hx).wrote hw hl hC (fun hs=>hr (PT hq hs))
 | elem j i q t o qn l y e m' h hi hj hd hp ih=>
  obtain⟨dh,A2,cw⟩:=h.ok hm
  have hqk:q <:+ kt:=List.IsSuffix.trans ⟨[j,i,aq t],rfl⟩ hq
  cases cw with
  | bO=>simp at hi
  | bY=>simp at hi
  | cy=>simp at hi
  | ah _ _ _ _ _ _ _ _ _ ho=>omega
  | own _ _ _ _ _ b cap cs us cL hh hs hn vD hc hr=>
   have aK:b≠bt:=by
    rintro rfl
    rw[hl]at cL
    injection cL with cL
    subst cL
    have:=hq.length_le
    simp at this
    omega
   have hz:=Nat.le_of_eq hw.size.symm
   refine ih hqk A2 (RV.EU (us:=fun _ _=>hv) (u:=us) (cs:=cs) (xs:=[y]) cL ((hw.block b aK).trans hh) hs hn vD hi (show j+1<=aq t from hj) hd (fun i' h' j' x hx A3=>⟨hc i' h' j' x hx,(hr i' h' j' x hx).apart hl (.inl fun kj=>A3 ?_) hz hw.block⟩) (fun n x hx=>?_))
   ·have:=J4 kj hq rfl
    injection this with e1 e2
    injection e2 with e2 _
    subst e1 e2
    exact⟨rfl,Nat.le_refl _,by simp⟩
   ·cases n with
    | succ n=>simp at hx
    | zero=>
     simp at hx
     subst hx
     refine⟨?_,hy⟩
     rw[ET,vz j i (aq t) A2 cL]at ec
     have ec:w.cell? ⟨b,i*aq t+j,none⟩=some hv:=ec
     rw[cell_of_row w b _ cs _ _ hh]at ec
     exact ec
theorem RV.abI{q:List Nat}{x:V}{v:Value}(h:RV w B lab q x v)(hx:x.plain=true):iT v=false:=by
 cases h <;>first | rfl | cases hx
theorem RV.tV{q q':List Nat}{x:V}{v:Value}{B':Nat}{aj:aQ}(h:RV w B lab q x v)(hx:x.plain=true):RV w' B' aj q' x v:=by
 cases h <;>first | exact .int _ _ _ | exact .bool _ _ | exact .str _ _ | cases hx
theorem Rl.abJ{j i:Nat}{q:List Nat}{t:TC}{o:Nat}{qn:Bool}{l:List (T t)}{xs:List V}{us:Array Value}{e:T t}(h:Rl w0 N lab ρ σ a w)(hg:qf σ.m q (.sl t (o+2) qn l))(hi:i<l.length)(hj:j+xs.length<=aq t)
  (hd:dec t o (dZ (enc t o l[i]) j xs)=some e) (hold:∀ (n:Nat) x,n<xs.length->(enc t o l[i])[j+n]?=some x->x.plain=true) (hxp:∀ x∈xs,x.plain=true) (dN:us.size=xs.length) (hx:∀ (n:Nat) x,xs[n]?=some x->∃ u,us[n]?=some u/\RV w w0.heap.size lab [] x u)
  (hp:vC σ.m q (.sl t (o+2) qn (l.set i e)) m'):
  ∃ b,addrAt w lab ρ (j :: i :: aq t :: q)=some ⟨b,i*aq t+j,none⟩/\w.there b (i*aq t+j) us.size/\Rl w0 N lab ρ ⟨σ.t,m'⟩ a (w.setCells b (i*aq t+j) us.toList):=by
 obtain⟨dh,A2,cw⟩:=hg.ok h.root
 cases cw with
 | bO=>simp at hi
 | bY=>simp at hi
 | cy=>simp at hi
 | ah _ _ _ _ _ _ _ _ _ ho=>omega
 | own _ _ _ _ _ b cap cs u cL hh hs hn vD hc hr=>
  have vE:i*aq t+aq t<=cap*aq t:=by
   have:(i+1)*aq t<=cap*aq t:=Nat.mul_le_mul_right _ (by omega)
   rw[Nat.succ_mul]at this
   exact this
  have hJ:i*aq t+j+us.toList.length<=cs.size:=by rw[Array.length_toList,dN,hs];omega
  have hW:=J0 w b (i*aq t+j) us.toList
  obtain⟨c2,eK,ki⟩:=Ak b (tid t) us.toList (i*aq t+j) w cs hh hJ
  have yu:∀ n,c2[n]?=if n<i*aq t+j then cs[n]? else if n<i*aq t+j+xs.length then us[n-(i*aq t+j)]? else cs[n]?:=by
   intro n
   have e2:c2[n]?=(dZ cs.toList (i*aq t+j) us.toList)[n]?:=by
    rw[show c2[n]?=c2.toList[n]? by simp,ki]
    rfl
   rw[e2,vB _ _ _ (by simpa using hJ),Array.length_toList,dN]
   simp
  have J5:c2.size=cs.size:=by
   rw[<-Array.length_toList,ki]
   have:=vA cs.toList (i*aq t+j) us.toList (by simpa using hJ)
   simp only[dZ]at this
   rw[this]
   simp
  have hC:oh w (w.setCells b (i*aq t+j) us.toList) lab ρ:=by
   intro k ad v ha hv fD
   by_cases aK:ad.block=b
   ·obtain⟨j',i',s',q',rfl,jh,arN,rA,_⟩:=tU k ad ha
    have gG:ad=⟨b,ad.off,none⟩:=by cases ad;simp_all
    rw[gG,cell_of_row w b _ cs _ _ hh]at hv
    rw[gG,cell_of_row _ b _ c2 _ _ eK,yu]
    by_cases h1:ad.off<i*aq t+j
    ·rw[if_pos h1];exact hv
    ·by_cases h2:ad.off<i*aq t+j+xs.length
     ·exfalso
      have hjs:ad.off-(i*aq t+j)<xs.length:=by omega
      have om:j+(ad.off-(i*aq t+j))<(enc t o l[i]).length:=by rw[jB];omega
      have hy:=List.getElem?_eq_getElem om
      generalize (enc t o l[i])[j+(ad.off-(i*aq t+j))]=y at hy
      have gH:=hold _ y hjs hy
      have h3:=hc i hi _ y hy
      rw[show i*aq t+(j+(ad.off-(i*aq t+j)))=ad.off by omega]at h3
      rw[hv]at h3
      injection h3 with h3
      have:=(hr i hi _ y hy).abI gH
      rw[<-h3,fD]at this
      cases this
     ·rw[if_neg h1,if_neg h2];exact hv
   ·exact(World.cell?_of_block (hW.block _ aK)).trans hv
  refine⟨b,vz j i (aq t) A2 cL,fun n rB=>⟨?_,frozen_of_row w b _ cs _ hh⟩,h.wrote hW cL hC (hp.ok h.root hW cL (List.suffix_refl _) hC A2 ?_)⟩
  ·rw[cell_of_row w b _ cs _ _ hh]
   simp
   omega
  ·refine RV.EU (u:=u) (us:=fun _ n=>us.getD (n-j) undef) (cs:=cs) (xs:=xs) cL eK (J5.trans hs) hn vD hi hj hd (fun i' h' j' x bR A3=>?_) (fun n x bR=>?_)
   ·have oV:j'<aq t:=by have:=(List.getElem?_eq_some_iff.1 bR).1;rwa [jB]at this
    refine⟨?_,(hr i' h' j' x bR).apart cL (.inl fun kj=>?_) (Nat.le_of_eq hW.size.symm) hW.block⟩
    ·rw[yu]
     have oW:¬ (¬ i'*aq t+j'<i*aq t+j/\i'*aq t+j'<i*aq t+j+xs.length):=by
      rintro⟨h1,h2⟩
      rcases Nat.lt_trichotomy i' i with bU | heq | yw
      ·have:(i'+1)*aq t<=i*aq t:=Nat.mul_le_mul_right _ bU
       rw[Nat.succ_mul]at this
       omega
      ·subst heq
       exact A3 ⟨rfl,by omega,by omega⟩
      ·have:(i+1)*aq t<=i'*aq t:=Nat.mul_le_mul_right _ yw
       rw[Nat.succ_mul]at this
       omega
     split
     ·exact hc i' h' j' x bR
     ·rw[if_neg (by omega)]
      exact hc i' h' j' x bR
    ·have:=kj.length_le
     simp at this
     omega
   ·obtain⟨v,hv,yx⟩:=hx n x bR
    have rB:n<xs.length:=(List.getElem?_eq_some_iff.1 bR).1
    have rC:us.getD (j+n-j) undef=v:=by rw[show j+n-j=n by omega,Array.getD_eq_getD_getElem?,hv];rfl
    show c2[_]?=some (us.getD (j+n-j) undef)/\RV _ _ _ _ _ (us.getD (j+n-j) undef)
    rw[rC,yu,if_neg (by omega),if_pos (by omega)]
    refine⟨?_,yx.tV (hxp x (List.mem_of_getElem? bR))⟩
    rw[show i*aq t+(j+n)-(i*aq t+j)=n by omega]
    exact hv
end
end Go.Proofs.YtmffpkippmkjbaaGreatDoor
namespace Go.Proofs.YtmffpkippmkjbaaGreatDoor
open Go.RowKit
set_option linter.unusedVariables false
def yz:Value->A
 | .bool b=>.lf (.v (.bool b))
 | .int k n=>.lf (.v (.int k n))
 | .string s=>.lf (.v (.str s))
 | .slice none 0 0=>.lf (.v .nil)
 | _=>.undef
def ak(σ:S):Operand->A
 | .tmp t=>σ.t t
 | .const v=>yz v
 | .func f=>.fn f []
 | .global _=>.undef
def fN{X:Type}(N:Nat)(σ:S)(dst:Option Tmp)(x:A)(k:S->Option X):Option X:=
 match dst with
 | none=>k σ
 | some d=>bif Nat.blt d N then k (σ.set d x)else none
def iJ(P:Program)(w0:Wd)(N:Nat)(o:Oper)(σ af:S):Prop:=
 ∀ a w K Q,R w0 N σ a w->(∀ a' w',R w0 N af a' w'->K a' w')->o.wp P a w K Q
section
variable {P:Program} {w:World} {w0:Wd} {B N:Nat} {lab:aQ} {ρ:Nat->Loc} {σ:S} {a:Act} {X:Type} {r:X} {k:S->Option X} {o:Oper}
theorem abK(v:Value):RA w B lab ρ (yz v) v:=by
 unfold yz
 split
 ·exact⟨rfl,.bool _ _⟩
 ·exact⟨rfl,.int _ _ _⟩
 ·exact⟨rfl,.str _ _⟩
 ·exact⟨rfl,.nil _⟩
 ·trivial
theorem Rl.ak(h:Rl w0 N lab ρ σ a w)(x:Operand):RA w w0.heap.size lab ρ (ak σ x) (a.eval x):=by
 cases x with
 | tmp t=>exact h.tmp t
 | const v=>exact abK v
 | func f=>exact⟨#[],rfl,rfl,by simp⟩
 | global g=>trivial
theorem iJ.val{x:A}(hk:fN N σ o.dst x k=some r)(h:∀ lab ρ a w,Rl w0 N lab ρ σ a w->∃ v,(execOp a.eval o).run P w = .ok (.value v) w/\RA w w0.heap.size lab ρ x v):∃ af,k af=some r/\iJ P w0 N o σ af:=by
 unfold fN at hk
 split at hk
 ·rename_i hd
  refine⟨σ,hk,fun a w K Q hR hK=>?_⟩
  obtain⟨lab,ρ,hl⟩:=hR
  obtain⟨v,hv,hx⟩:=h lab ρ a w hl
  unfold Oper.wp
  rw[hv,Oper.upon_value,hd]
  exact hK _ _ ⟨lab,ρ,hl⟩
 ·rename_i d hd
  cases hN:Nat.blt d N with
  | false=>rw[hN]at hk;cases hk
  | true=>
   rw[hN]at hk
   refine⟨_,hk,fun a w K Q hR hK=>?_⟩
   obtain⟨lab,ρ,hl⟩:=hR
   obtain⟨v,hv,hx⟩:=h lab ρ a w hl
   unfold Oper.wp
   rw[hv,Oper.upon_value,hd]
   exact hK _ _ ⟨lab,ρ,hl.set hx (by have:=Nat.le_of_ble_eq_true hN;omega)⟩
/-! Contents of leaves. -/
def eF{X:Type}(m:Nat->Option ax):List Nat->(V->Option X)->Option X
 | [r],k=>match m r with
  | some (.sl y)=>k y
  | _=>none
 | j :: i :: s :: q,k=>eF m q fun y=>match y with
  | .sl t (o+2) _ l=>if s=aq t then (if h:i<l.length then (match (enc t o l[i])[j]? with | some z=>k z | none=>none)else none)else none
  | _=>none
 | _,_=>none
theorem oq{m:Nat->Option ax}:∀ (q:List Nat) (k:V->Option X),eF m q k=some r->∃ y,qf m q y/\k y=some r
 | [],_,h=>by simp[eF]at h
 | [x],k,h=>by
  simp only[eF]at h
  split at h
  ·rename_i y hy;exact⟨y,.root x y hy,h⟩
  ·cases h
 | [_,_],_,h=>by simp[eF]at h
 | j :: i :: s :: q,k,h=>by
  simp only[eF]at h
  obtain⟨y,hy,h2⟩:=oq q _ h
  clear h
  split at h2
  ·split at h2
   ·rename_i hs
    subst hs
    split at h2
    ·rename_i hi
     split at h2
     ·rename_i z hz;exact⟨z,.elem j i q _ _ _ _ z hy hi hz,h2⟩
     ·cases h2
    ·cases h2
   ·cases h2
  ·cases h2
def fE{X:Type}(σ:S)(x:Lf)(k:V->Option X):Option X:=
 match x with
 | .v y=>k y
 | .own q=>eF σ.m q k
 | .dead=>none
theorem arO{x:Lf}{k:V->Option X}(h:fE σ x k=some r){u:Value}(hR:Rl w0 N lab ρ σ a w)(hu:cg w w0.heap.size lab ρ x u):∃ y q,k y=some r/\RV w w0.heap.size lab q y u:=by
 cases x with
 | v y=>exact⟨y,[],h,hu.2⟩
 | dead=>cases h
 | own q=>
  obtain⟨y,hy,h'⟩:=oq q k h
  obtain⟨v,hv,hr⟩:=hy.ok hR.root
  have:v=u:=by
   have h2:=hu.2
   rw[hv]at h2
   injection h2
  subst this
  exact⟨y,q,h',hr⟩
theorem RV.part{q:List Nat}{tc:TC}{g:Nat}{qn:Bool}{xs:List (T tc)}{A:Option Addr}{n c a h:Nat}(hr:RV w B lab q (.sl tc g qn xs) (.slice A n c))(hg:g<2)(h1:a<=h)(h2:h<=xs.length):RV w B lab q (.sl tc g false ((xs.take h).drop a)) (sliced A a h c (aq tc))/\n=xs.length/\xs.length<=c:=by
 have hlen:((xs.take h).drop a).length=h-a:=by simp;omega
 cases hr with
 | bO=>
  have:a=0:=by simp at h2;omega
  have:h=0:=by simpa using h2
  subst_vars
  exact⟨.bO _ _ _,rfl,Nat.le_refl _⟩
 | bY=>
  have:h=0:=by simpa using h2
  subst this
  have:a=0:=by omega
  subst this
  exact⟨by unfold sliced;split <;>exact .bY _ _ _ _ _ hg,rfl,Nat.zero_le _⟩
 | cy=>
  have:h=0:=by simpa using h2
  subst this
  have:a=0:=by omega
  subst this
  exact⟨by unfold sliced;split <;>exact .bY _ _ _ _ _ hg,rfl,Nat.zero_le _⟩
 | own=>omega
 | ah _ _ _ _ _ b off cap u ho hl hb hB hcap hc hr=>
  refine⟨?_,rfl,hcap⟩
  by_cases he:a=h
  ·subst he
   have e0:(xs.take a).drop a=[]:=List.eq_nil_of_length_eq_zero (by rw[hlen];omega)
   rw[e0]
   unfold sliced
   rw[Nat.sub_self]
   split <;>exact .bY _ _ _ _ _ hg
  ·unfold sliced
   rw[if_neg (by omega),<-hlen]
   have n8:(some (⟨b,off,none⟩:Addr)).map (·.add (a*aq tc))=some ⟨b,off+a*aq tc,none⟩:=by
    simp only[Option.map_some]
    unfold Addr.add
    split <;>simp_all
   rw[n8]
   have gI:∀ i (hi:i<((xs.take h).drop a).length),((xs.take h).drop a)[i]=xs[a+i]'(by omega):=by
    intro i hi
    rw[List.getElem_drop,List.getElem_take]
   refine .ah _ _ _ _ _ b (off+a*aq tc) (c-a) (fun i j=>u (a+i) j) ho hl hb hB (by omega) (fun i hi j x hx=>?_) (fun i hi j x hx=>?_)
   ·rw[gI i hi]at hx
    have:=hc (a+i) (by omega) j x hx
    rw[<-this]
    congr 2
    rw[Nat.add_mul]
    omega
   ·rw[gI i hi]at hx
    exact hr (a+i) (by omega) j x hx
def PU(s i j:Nat):V->Option V
 | .sl t _ _ l=>bif Nat.beq s (aq t)then some (.sl t 0 false ((l.take j).drop i))else none
 | _=>none
def ot{X:Type}(σ:S)(q:List Nat)(s i j:Nat)(k:V->Option X):Option X:=
 eF σ.m q fun y=>match PU s i j y with
  | some z=>k z
  | none=>none
def mK{X:Type}(σ:S)(y:A)(k:V->Option X):Option X:=
 match y with
 | .lf l=>fE σ l k
 | .view q s i j=>ot σ q s i j k
 | _=>none
theorem PW{q:List Nat}{s i j:Nat}{k:V->Option X}(h:ot σ q s i j k=some r):∃ z,k z=some r/\z.ah=true/\∀ w0 N lab ρ a w,Rl w0 N lab ρ σ a w->∀ u,RA w w0.heap.size lab ρ (.view q s i j) u->∀ B',RV w B' (fun _=>none) [] z u:=by
 obtain⟨y,hy,h2⟩:=oq q _ h
 clear h
 split at h2
 ·rename_i z hz
  unfold PU at hz
  split at hz
  ·rename_i t g qn l
   cases hs:Nat.beq s (aq t)with
   | false=>rw[hs]at hz;cases hz
   | true=>
    rw[hs,cond_true]at hz
    obtain rfl:=Nat.eq_of_beq_eq_true hs
    injection hz with hz
    subst hz
    refine⟨_,h2,rfl,fun w0 N lab ρ a w hR u hu B'=>?_⟩
    obtain⟨A,n,c,hv,h1,h3,rfl⟩:=hu
    obtain⟨v,dh,hr⟩:=hy.ok hR.root
    rw[hv]at dh
    injection dh with dh
    subst dh
    have hf:RV w B' (fun _=>none) [] (.sl t 0 qn l) (.slice A n c):=hr.gz
    have hn:n=l.length:=by cases hf <;>rfl
    exact(hf.part (by omega) h1 (by omega)).1
  ·cases hz
 ·cases h2
def vK{X:Type}(x:A)(k:V->Option X):Option X:=
 match x with
 | .lf (.v y)=>k y
 | _=>none
theorem EV{x:A}{k:V->Option X}(h:vK x k=some r):∃ y,x = .lf (.v y)/\k y=some r:=by
 unfold vK at h
 split at h
 ·exact⟨_,rfl,h⟩
 ·cases h
theorem RV.gk{q:List Nat}{k:IntKind}{n:Int}{u:Value}(h:RV w B lab q (.int k n) u):u = .int k n:=by cases h;rfl
theorem RV.qh{q:List Nat}{n:Bool}{u:Value}(h:RV w B lab q (.bool n) u):u = .bool n:=by cases h;rfl
theorem RV.nE{q:List Nat}{n:ByteArray}{u:Value}(h:RV w B lab q (.str n) u):u = .string n:=by cases h;rfl
/-! Arithmetic and comparison. -/
def aV(n:Nat):Bool:=decide (n<1073741824)
def jE{X:Type}(P:Program)(ty:TypeId)(op:BinOp)(x y:V)(k:V->Option X):Option X:=
 match x,y with
 | .int kx a,.int ky b=>match op with
  | .shl=>if b<0 then none else k (.int kx (kx.wrap (a*2 ^ (min b.toNat kx.bits))))
  | .shr=>if b<0 then none else k (.int kx (a.fdiv (2 ^ (min b.toNat kx.bits))))
  | op=>if kx=ky then (match op with
   | .add=>k (.int kx (kx.wrap (a+b)))
   | .sub=>k (.int kx (kx.wrap (a-b)))
   | .mul=>k (.int kx (kx.wrap (a*b)))
   | .quo=>if b=0 then none else k (.int kx (kx.wrap (a.tdiv b)))
   | .rem=>if b=0 then none else k (.int kx (a.tmod b))
   | .and=>k (.int kx (bits .and kx a b))
   | .or=>k (.int kx (bits .or kx a b))
   | .xor=>k (.int kx (bits .xor kx a b))
   | .andNot=>k (.int kx (bits .andNot kx a b))
   | .eql=>k (.bool (a==b))
   | .neq=>k (.bool (a != b))
   | .lss=>k (.bool (decide (a<b)))
   | .leq=>k (.bool (decide (a<=b)))
   | .gtr=>k (.bool (decide (a > b)))
   | .geq=>k (.bool (decide (a >= b)))
   | _=>none)else none
 | .bool a,.bool b=>match P.underlying ty with
  | some .bool=>(match op with
   | .eql=>k (.bool (a==b))
   | .neq=>k (.bool (!(a==b)))
   | _=>none)
  | _=>none
 | .str a,.str b=>match op with
  | .add=>bif aV (a.size+b.size)then k (.str (a++b))else none
  | .eql=>k (.bool (a.toList==b.toList))
  | .neq=>k (.bool (!(a.toList==b.toList)))
  | _=>none
 | _,_=>none
theorem abL{ty:TypeId}{op:BinOp}{x y:V}{k:V->Option X}(h:jE P ty op x y k=some r):∃ z,k z=some r/\z.plain=true/\∀ (w:World) (B:Nat) (lab:aQ) (xo yo:Operand) (q q':List Nat) (u v:Value),RV w B lab q x u->RV w B lab q' y v->
  ∃ t,(do eqGuard op ty xo yo u v;binOp op ty u v:Sem Value).run P w = .ok t w/\RV w B lab [] z t:=by
 unfold jE at h
 split at h
 ·rename_i kx a ky b
  split at h
  ·split at h
   ·cases h
   ·rename_i hb
    refine⟨_,h,rfl,fun w B lab xo yo q q' u v hu hv=>?_⟩
    obtain rfl:=hu.gk
    obtain rfl:=hv.gk
    exact⟨_,by simp[eqGuard,binOp,Op.shift,hb],.int _ _ _⟩
  ·split at h
   ·cases h
   ·rename_i hb
    refine⟨_,h,rfl,fun w B lab xo yo q q' u v hu hv=>?_⟩
    obtain rfl:=hu.gk
    obtain rfl:=hv.gk
    exact⟨_,by simp[eqGuard,binOp,Op.shift,hb],.int _ _ _⟩
  ·rename_i h1 h2
   split at h
   ·rename_i hk
    subst hk
    cases op
    case shl=>exact absurd rfl h1
    case shr=>exact absurd rfl h2
    case quo=>
     by_cases hb:b=0
     ·simp only[hb,if_true]at h;cases h
     ·simp only[hb,if_false]at h
      refine⟨_,h,rfl,fun w B lab xo yo q q' u v hu hv=>?_⟩
      obtain rfl:=hu.gk
      obtain rfl:=hv.gk
      exact⟨_,by simp[eqGuard,binOp,Op.intDiv,hb],.int _ _ _⟩
    case rem=>
     by_cases hb:b=0
     ·simp only[hb,if_true]at h;cases h
     ·simp only[hb,if_false]at h
      refine⟨_,h,rfl,fun w B lab xo yo q q' u v hu hv=>?_⟩
      obtain rfl:=hu.gk
      obtain rfl:=hv.gk
      exact⟨_,by simp[eqGuard,binOp,Op.intDiv,hb],.int _ _ _⟩
    all_goals first
     | (refine⟨_,h,rfl,fun w B lab xo yo q q' u v hu hv=>?_⟩
        obtain rfl:=hu.gk
        obtain rfl:=hv.gk
        first
         | (refine⟨_,?_,.int _ _ _⟩;simp[eqGuard,binOp,Op.intArith];done)
         | (refine⟨_,?_,.int _ _ _⟩;simp[eqGuard,binOp,intBits_and,intBits_or,intBits_xor,intBits_andNot];done)
         | (refine⟨_,?_,.bool _ _⟩;simp[eqGuard,binOp,Op.intCmp];done))
     | cases h
   ·cases h
 ·rename_i a b
  split at h
  ·rename_i A4
   split at h
   ·refine⟨_,h,rfl,fun w B lab xo yo q q' u v hu hv=>?_⟩
    obtain rfl:=hu.qh
    obtain rfl:=hv.qh
    have e:binOp .eql ty (.bool a) (.bool b)=(do pure (.bool (<-Op.equal ty (.bool a) (.bool b)))):=rfl
    have g:eqGuard .eql ty xo yo (.bool a) (.bool b)=pure ():=rfl
    exact⟨_,by rw[e,g,Sem.run_bind,Sem.run_pure,Result.andThen_ok,Sem.run_bind,run_equal_bool _ _ _ _ A4];rfl,.bool _ _⟩
   ·refine⟨_,h,rfl,fun w B lab xo yo q q' u v hu hv=>?_⟩
    obtain rfl:=hu.qh
    obtain rfl:=hv.qh
    have e:binOp .neq ty (.bool a) (.bool b)=(do pure (.bool (!(<-Op.equal ty (.bool a) (.bool b))))):=rfl
    have g:eqGuard .neq ty xo yo (.bool a) (.bool b)=pure ():=rfl
    exact⟨_,by rw[e,g,Sem.run_bind,Sem.run_pure,Result.andThen_ok,Sem.run_bind,run_equal_bool _ _ _ _ A4];rfl,.bool _ _⟩
   ·cases h
  ·cases h
 ·rename_i a b
  split at h
  ·cases hL:aV (a.size+b.size)with
   | false=>rw[hL]at h;cases h
   | true=>
    rw[hL]at h
    refine⟨_,h,rfl,fun w B lab xo yo q q' u v hu hv=>?_⟩
    obtain rfl:=hu.nE
    obtain rfl:=hv.nE
    have hL':a.size+b.size<1073741824:=by simpa [aV]using hL
    refine⟨_,?_,.str _ _⟩
    have h9:IntKind.i64.max=9223372036854775807:=rfl
    simp only[eqGuard,binOp,Op.stringOp,h9]
    simp
    omega
  ·refine⟨_,h,rfl,fun w B lab xo yo q q' u v hu hv=>?_⟩
   obtain rfl:=hu.nE
   obtain rfl:=hv.nE
   exact⟨_,by simp[eqGuard,binOp,Op.stringOp],.bool _ _⟩
  ·refine⟨_,h,rfl,fun w B lab xo yo q q' u v hu hv=>?_⟩
   obtain rfl:=hu.nE
   obtain rfl:=hv.nE
   exact⟨_,by simp[eqGuard,binOp,Op.stringOp],.bool _ _⟩
  ·cases h
 ·cases h
def yA{X:Type}(op:UnOp)(x:V)(k:V->Option X):Option X:=
 match op,x with
 | .not,.bool b=>k (.bool (!b))
 | .neg,.int kx n=>k (.int kx (kx.wrap (0-n)))
 | _,_=>none
theorem abM{op:UnOp}{x:V}{k:V->Option X}(h:yA op x k=some r):∃ z,k z=some r/\z.plain=true/\∀ (w:World) (B:Nat) (lab:aQ) (q:List Nat) (u:Value),RV w B lab q x u->∃ t,(Op.unary op u).run P w = .ok t w/\RV w B lab [] z t:=by
 unfold yA at h
 split at h
 ·refine⟨_,h,rfl,fun w B lab q u hu=>?_⟩
  obtain rfl:=hu.qh
  exact⟨_,by simp[Op.unary],.bool _ _⟩
 ·refine⟨_,h,rfl,fun w B lab q u hu=>?_⟩
  obtain rfl:=hu.gk
  exact⟨_,by simp[Op.unary,Op.intArith],.int _ _ _⟩
 ·cases h
theorem V.A5{x:V}(h:x.plain=true):x.ah=true:=by cases x <;>first | rfl | cases h
end
end Go.Proofs.YtmffpkippmkjbaaGreatDoor
namespace Go.Proofs.YtmffpkippmkjbaaGreatDoor
open Go.RowKit
set_option linter.unusedVariables false
def ia(P:Program)(t:TypeId):Option Nat:=(P.info? t).map (·.size)
def yB(P:Program)(t:TypeId):Option Bool:=
 match P.underlying t with
 | some (.struct _) | some (.array _ _)=>some true
 | some _=>some false
 | none=>none
def ou(P:Program)(t:TypeId):Option TypeId:=
 match P.underlying t with
 | some (.slice e)=>some e
 | _=>none
def A6(P:Program)(s:TypeId)(f:Nat):Option Field:=
 match P.underlying s with
 | some (.struct fs)=>fs[f]?
 | _=>none
def ic{X:Type}(P:Program)(t:TypeId)(cs:List Lf)(k:A->Option X):Option X:=
 match ia P t with
 | some n=>if cs.length=n then (match yB P t with
  | some true=>k (.agg cs)
  | some false=>(match cs with
   | [y]=>k (.lf y)
   | _=>none)
  | none=>none)else none
 | none=>none
def leaves(key:Nat->List Nat):Nat->List V->List Lf
 | _,[]=>[]
 | j,z :: zs=>(bif z.ah then .v z else .own (key j)) :: leaves key (j+1) zs
def gw{X:Type}(P:Program)(σ:S)(t:TypeId)(x:A)(k:A->Option X):Option X:=
 match ia P t with
 | none=>none
 | some n=>match x with
  | .az r j=>(match σ.m r with
   | some (.blk cs)=>ic P t ((cs.drop j).take n) k
   | _=>none)
  | .fL cs=>ic P t ((cs.take n).map .v) k
  | .ptr (j :: i :: s :: q)=>eF σ.m q fun y=>(match y with
   | .sl t' (o+2) _ l=>if s=aq t' then (if h:i<l.length then ic P t (leaves (fun j'=>j' :: i :: s :: q) j (((enc t' o l[i]).drop j).take n)) k else none)else none
   | _=>none)
  | _=>none
section
variable {P:Program} {w:World} {w0:Wd} {B N:Nat} {lab:aQ} {ρ:Nat->Loc} {σ:S} {a:Act} {X:Type} {r:X} {o:Oper}
theorem abN(key:Nat->List Nat):∀ (j:Nat) (zs:List V),(leaves key j zs).length=zs.length
 | _,[]=>rfl
 | j,z :: zs=>by simp[leaves,abN key (j+1) zs]
theorem J6(key:Nat->List Nat):∀ (j:Nat) (zs:List V) (n:Nat),(leaves key j zs)[n]?=(zs[n]?).map fun z=>bif z.ah then .v z else .own (key (j+n))
 | _,[],n=>by simp[leaves]
 | j,z :: zs,0=>by simp[leaves]
 | j,z :: zs,n+1=>by
  simp only[leaves,List.getElem?_cons_succ,J6 key (j+1) zs n]
  rw[show j+1+n=j+(n+1) by omega]
theorem J7{t:TypeId}{cs:List Lf}{k:A->Option X}(h:ic P t cs k=some r):∃ x,k x=some r/\∀ (w:World) (B:Nat) (lab:aQ) (ρ:Nat->Loc) (b o:Nat) (vs:List Value),cG w B lab ρ cs vs.toArray->w.rangeAt b o vs->
  ∃ v,(Instr.loadAt t (.pointer (some ⟨b,o,none⟩))).run P w = .ok v w/\RA w B lab ρ x v:=by
 unfold ic at h
 split at h
 ·rename_i n hn
  split at h
  ·rename_i hlen
   split at h
   ·rename_i iK
    refine⟨_,h,fun w B lab ρ b o vs hl hr=>?_⟩
    have ow:vs.length=n:=by have:=hl.1;simpa [hlen]using this
    unfold yB at iK
    split at iK
    ·rename_i fs hu
     exact⟨_,run_loadAt_mid w b o t vs _ hr hu rfl (by rw[ow];exact hn),_,rfl,hl⟩
    ·rename_i c e hu
     exact⟨_,run_loadAt_mid w b o t vs _ hr hu rfl (by rw[ow];exact hn),_,rfl,hl⟩
    ·cases iK
    ·cases iK
   ·rename_i iK
    split at h
    ·rename_i y
     refine⟨_,h,fun w B lab ρ b o vs hl hr=>?_⟩
     have ow:vs.length=1:=by have:=hl.1;simpa using this
     obtain⟨v,rfl⟩:=List.length_eq_one_iff.1 ow
     have hv:w.cell? ⟨b,o,none⟩=some v:=hr 0 v rfl
     obtain⟨u,hu,hR⟩:=hl.2 0 y rfl
     have:v=u:=by simpa using hu
     subst this
     refine⟨v,?_,hR⟩
     unfold yB at iK
     split at iK
     ·cases iK
     ·cases iK
     ·rename_i d hs ha hu
      have rD:(isAgg t).run P w = .ok false w:=by
       unfold isAgg
       rw[Sem.run_bind,run_underlying hu w]
       cases d <;>first | rfl | (rename_i x;exact absurd rfl (hs x)) | (rename_i x y;exact absurd rfl (ha x y)) | simp_all
      simp[Instr.loadAt,Instr.sureAddr,loadVar,Sem.run_bind,rD,load,Sem.run,hv]
     ·cases iK
    ·cases h
   ·cases h
  ·cases h
 ·cases h
theorem EW{α:Type}(l:List α)(j n i:Nat)(x:α)(h:((l.drop j).take n)[i]?=some x):i<n/\l[j+i]?=some x:=by
 rw[List.getElem?_take]at h
 split at h
 ·rename_i hi;rw[List.getElem?_drop]at h;exact⟨hi,h⟩
 ·cases h
theorem PX{t:TypeId}{x:A}{k:A->Option X}(h:gw P σ t x k=some r):∃ y,k y=some r/\∀ lab ρ a w,Rl w0 N lab ρ σ a w->∀ u,RA w w0.heap.size lab ρ x u->
  ∃ v,(Instr.loadAt t u).run P w = .ok v w/\RA w w0.heap.size lab ρ y v:=by
 unfold gw at h
 split at h
 ·cases h
 ·rename_i n hn
  split at h
  ·rename_i r' j
   split at h
   ·rename_i cs cC
    obtain⟨y,hy,hf⟩:=J7 h
    refine⟨y,hy,fun lab ρ a w hR u hu=>?_⟩
    obtain⟨b,off,av,rfl⟩:=hu
    have hr:=hR.root r' _ cC
    generalize he:ax.blk cs=x at hr
    cases hr with
    | sl=>cases he
    | mp=>cases he
    | gh=>cases he
    | blk b' mj cells e cz us fF hl hh hs hc=>
     injection he with he
     subst he
     rw[av]at fF
     injection fF with e1 e2
     subst e1 e2
     refine hf w _ lab ρ b (off+j) (((cs.drop j).take n).mapIdx fun i _=>us (j+i)) ⟨by simp,fun i x hx=>?_⟩ (fun i v hv=>?_)
     ·obtain⟨hi,bR⟩:=EW _ _ _ _ _ hx
      refine⟨us (j+i),?_,(hc _ x bR).2⟩
      simp only[List.getElem?_toArray,List.getElem?_mapIdx,hx,Option.map_some]
     ·rw[List.getElem?_mapIdx]at hv
      cases hx:((cs.drop j).take n)[i]? with
      | none=>rw[hx]at hv;cases hv
      | some x=>
       rw[hx]at hv
       injection hv with hv
       subst hv
       obtain⟨hi,bR⟩:=EW _ _ _ _ _ hx
       rw[cell_of_row w b _ cells _ _ hh,Nat.add_assoc]
       exact(hc _ x bR).1
   ·cases h
  ·rename_i cs
   obtain⟨y,hy,hf⟩:=J7 h
   refine⟨y,hy,fun lab ρ a w hR u hu=>?_⟩
   obtain⟨b,off,rfl,hb,hl,hc⟩:=hu
   have gI:∀ (i:Nat) (x:Lf),((cs.take n).map Lf.v)[i]?=some x->∃ z v,x = .v z/\z.ah=true/\w.cell? ⟨b,off+i,none⟩=some v/\RV w w0.heap.size lab [] z v:=by
    intro i x hx
    rw[List.getElem?_map]at hx
    cases hz:(cs.take n)[i]? with
    | none=>rw[hz]at hx;cases hx
    | some z=>
     rw[hz]at hx
     injection hx with hx
     rw[List.getElem?_take]at hz
     split at hz
     ·obtain⟨mL,v,hv,hr⟩:=hc i z hz
      exact⟨z,v,hx.symm,mL,hv,hr⟩
     ·cases hz
   refine hf w _ lab ρ b off (((cs.take n).map Lf.v).mapIdx fun i _=>(w.cell? ⟨b,off+i,none⟩).getD undef) ⟨by simp,fun i x hx=>?_⟩ (fun i v hv=>?_)
   ·obtain⟨z,v,rfl,mL,hv,hr⟩:=gI i x hx
    refine⟨v,?_,mL,hr⟩
    simp only[List.getElem?_toArray,List.getElem?_mapIdx,hx,Option.map_some,hv,Option.getD_some]
   ·rw[List.getElem?_mapIdx]at hv
    cases hx:((cs.take n).map Lf.v)[i]? with
    | none=>rw[hx]at hv;cases hv
    | some x=>
     rw[hx]at hv
     obtain⟨z,v',rfl,mL,dh,hr⟩:=gI i x hx
     rw[dh]at hv
     injection hv with hv
     rw[dh]
     exact congrArg some hv
  ·rename_i j i s q
   obtain⟨y0,hg,h2⟩:=oq _ _ h
   clear h
   split at h2
   ·rename_i t' o' qn l
    split at h2
    ·rename_i hs
     subst hs
     split at h2
     ·rename_i hi
      obtain⟨y,hy,hf⟩:=J7 h2
      refine⟨y,hy,fun lab ρ a w hR u hu=>?_⟩
      obtain⟨ad,rfl,gG⟩:=hu
      obtain⟨hv,ec,kn⟩:=hg.ok hR.root
      cases kn with
      | bO=>simp at hi
      | bY=>simp at hi
      | cy=>simp at hi
      | ah _ _ _ _ _ _ _ _ _ ho=>omega
      | own _ _ _ _ _ b cap cs us cL hh hs hn vD hc hr=>
       rw[vz j i (aq t') ec cL]at gG
       injection gG with gG
       subst gG
       have gI:∀ (m:Nat) (x:Lf),(leaves (fun j'=>j' :: i :: aq t' :: q) j (((enc t' o' l[i]).drop j).take n))[m]?=some x->cs[i*aq t'+(j+m)]?=some (us i (j+m))/\cg w w0.heap.size lab ρ x (us i (j+m)):=by
        intro m x hx
        rw[J6]at hx
        cases hz:(((enc t' o' l[i]).drop j).take n)[m]? with
        | none=>rw[hz]at hx;cases hx
        | some z=>
         rw[hz]at hx
         injection hx with hx
         have hx:(bif z.ah then Lf.v z else Lf.own ((j+m) :: i :: aq t' :: q))=x:=hx
         obtain⟨_,yC⟩:=EW _ _ _ _ _ hz
         have h3:=hc i hi _ z yC
         have h4:=hr i hi _ z yC
         refine⟨h3,?_⟩
         cases yD:z.ah with
         | true=>
          rw[yD]at hx
          have hx:Lf.v z=x:=hx
          subst hx
          exact⟨yD,h4.key yD⟩
         | false=>
          rw[yD]at hx
          have hx:Lf.own ((j+m) :: i :: aq t' :: q)=x:=hx
          subst hx
          refine⟨?_,?_⟩
          ·exact h4.ER yD
          ·rw[ET,vz (j+m) i (aq t') ec cL]
           show w.cell? _=_
           rw[cell_of_row w b _ cs _ _ hh]
           exact h3
       refine hf w _ lab ρ b (i*aq t'+j) ((leaves (fun j'=>j' :: i :: aq t' :: q) j (((enc t' o' l[i]).drop j).take n)).mapIdx fun m _=>us i (j+m)) ⟨by simp,fun m x hx=>?_⟩ (fun m v hv=>?_)
       ·refine⟨us i (j+m),?_,(gI m x hx).2⟩
        simp only[List.getElem?_toArray,List.getElem?_mapIdx,hx,Option.map_some]
       ·rw[List.getElem?_mapIdx]at hv
        cases hx:(leaves (fun j'=>j' :: i :: aq t' :: q) j (((enc t' o' l[i]).drop j).take n))[m]? with
        | none=>rw[hx]at hv;cases hv
        | some x=>
         rw[hx]at hv
         injection hv with hv
         subst hv
         rw[cell_of_row w b _ cs _ _ hh,Nat.add_assoc]
         exact(gI m x hx).1
     ·cases h2
    ·cases h2
   ·cases h2
  ·cases h
end
end Go.Proofs.YtmffpkippmkjbaaGreatDoor
namespace Go.Proofs.YtmffpkippmkjbaaGreatDoor
open Go.RowKit
set_option linter.unusedVariables false
def A.tW:A->Option (List Lf)
 | .lf x=>some [x]
 | .agg xs=>some xs
 | _=>none
def Lf.live:Lf->Bool
 | .dead=>false
 | _=>true
def Lf.pl:Lf->Option V
 | .v x=>bif x.plain then some x else none
 | _=>none
def rE:List Lf->Option (List V)
 | []=>some []
 | x :: xs=>match x.pl,rE xs with
  | some y,some ys=>some (y :: ys)
  | _,_=>none
def lI{X:Type}(m:Nat->Option ax):List Nat->V->((Nat->Option ax)->Option X)->Option X
 | [r],y,k=>match m r with
  | some (.sl _)=>k (aX m r (some (.sl y)))
  | _=>none
 | j :: i :: s :: q,y,k=>eF m q fun z=>match z with
  | .sl t (o+2) qn l=>if s=aq t then (if h:i<l.length then (if j<aq t then (match dec t o (dZ (enc t o l[i]) j [y])with
   | some e=>lI m q (.sl t (o+2) qn (l.set i e)) k
   | none=>none)else none)else none)else none
  | _=>none
 | _,_,_=>none
def ko{X:Type}(P:Program)(σ:S)(t:TypeId)(x y:A)(k:S->Option X):Option X:=
 match ia P t,y.tW with
 | some n,some xs=>if xs.length=n then (match x with
  | .az r j=>(match σ.m r with
   | some (.blk cs)=>if j+n<=cs.length then (bif xs.all Lf.live then k ⟨σ.t,aX σ.m r (some (.blk (dZ cs j xs)))⟩else none)else none
   | _=>none)
  | .ptr (j :: i :: s :: q)=>(match rE xs with
   | none=>none
   | some vs=>eF σ.m q fun y=>(match y with
    | .sl t' (o+2) qn l=>if s=aq t' then (if h:i<l.length then (if j+vs.length<=aq t' then (bif (((enc t' o l[i]).drop j).take vs.length).all V.plain then (match dec t' o (dZ (enc t' o l[i]) j vs)with
     | some e=>lI σ.m q (.sl t' (o+2) qn (l.set i e)) fun m=>k ⟨σ.t,m⟩
     | none=>none)else none)else none)else none)else none
    | _=>none))
  | _=>none)else none
 | _,_=>none
section
variable {P:Program} {w:World} {w0:Wd} {B N:Nat} {lab:aQ} {ρ:Nat->Loc} {σ:S} {a:Act} {X:Type} {r:X} {o:Oper}
theorem PY{m:Nat->Option ax}:∀ (q:List Nat) (y:V) (k:(Nat->Option ax)->Option X),lI m q y k=some r->∃ m',vC m q y m'/\k m'=some r
 | [],_,_,h=>by simp[lI]at h
 | [x],y,k,h=>by
  simp only[lI]at h
  split at h
  ·rename_i y0 hy;exact⟨_,.root x y0 y hy,h⟩
  ·cases h
 | [_,_],_,_,h=>by simp[lI]at h
 | j :: i :: s :: q,y,k,h=>by
  simp only[lI]at h
  obtain⟨z,hz,h2⟩:=oq q _ h
  clear h
  split at h2
  ·split at h2
   ·rename_i hs
    subst hs
    split at h2
    ·rename_i hi
     split at h2
     ·rename_i hj
      split at h2
      ·rename_i e he
       obtain⟨m',kq,h3⟩:=PY q _ k h2
       exact⟨m',.elem j i q _ _ _ _ y e m' hz hi hj he kq,h3⟩
      ·cases h2
     ·cases h2
    ·cases h2
   ·cases h2
  ·cases h2
theorem J8:∀ (xs:List Lf) (vs:List V),rE xs=some vs->xs=vs.map .v/\∀ v∈vs,v.plain=true
 | [],vs,h=>by
  simp[rE]at h
  subst h
  exact⟨rfl,by simp⟩
 | x :: xs,vs,h=>by
  unfold rE at h
  split at h
  ·rename_i y ys hy iV
   injection h with h
   subst h
   obtain⟨h1,h2⟩:=J8 xs ys iV
   have:x = .v y/\y.plain=true:=by
    cases x with
    | v z=>
     unfold Lf.pl at hy
     cases hz:z.plain with
     | true=>
      simp only[hz,cond_true]at hy
      injection hy with hy
      subst hy
      exact⟨rfl,hz⟩
     | false=>simp[hz]at hy
    | own q=>cases hy
    | dead=>cases hy
   refine⟨by rw[this.1,h1];rfl,fun v hv=>?_⟩
   rcases List.mem_cons.1 hv with rfl | hv
   ·exact this.2
   ·exact h2 v hv
  ·cases h
theorem abO{u:Value}(h:u.oneCell'=true):u.cells = #[u]:=by cases u <;>first | rfl | cases h
theorem cg.one{x:Lf}{u:Value}(h:cg w B lab ρ x u)(hd:x.live=true):u.oneCell'=true:=by
 cases x with
 | v z=>exact h.2.one
 | own k=>
  have:=h.1
  cases u <;>first | rfl | cases this
 | dead=>cases hd
theorem A7{y:A}{xs:List Lf}(h:y.tW=some xs)(hd:xs.all Lf.live=true){u:Value}(hu:RA w B lab ρ y u):cG w B lab ρ xs u.cells/\u.cells.all (·.oneCell')=true:=by
 have key:∀ us:Array Value,cG w B lab ρ xs us->us.all (·.oneCell')=true:=by
  intro us hs
  rw[Array.all_eq_true]
  intro i hi
  have hx:=List.getElem?_eq_getElem (l:=xs) (i:=i) (by rw[<-hs.1];exact hi)
  obtain⟨v,hv,hr⟩:=hs.2 i _ hx
  have:us[i]=v:=by rw[Array.getElem?_eq_getElem hi]at hv;injection hv
  rw[this]
  exact hr.one (List.all_eq_true.1 hd _ (List.getElem_mem _))
 cases y with
 | lf x=>
  injection h with h
  subst h
  have hu:cg w B lab ρ x u:=hu
  have h1:=hu.one (by simpa using hd)
  have:cG w B lab ρ [x] u.cells:=by
   rw[abO h1]
   refine⟨rfl,fun j y hy=>?_⟩
   cases j with
   | zero=>simp at hy;subst hy;exact⟨u,rfl,hu⟩
   | succ j=>simp at hy
  exact⟨this,key _ this⟩
 | agg xs'=>
  injection h with h
  subst h
  obtain⟨us,rfl,h⟩:=hu
  exact⟨h,key _ h⟩
 | _=>cases h
theorem J9(w:World)(b o:Nat)(ty:TypeId)(v:Value)(ht:w.there b o v.cells.size)(hi:(P.info? ty).map (·.size)=some v.cells.size)(h1:v.cells.all (·.oneCell')=true):
  (Instr.storeAt ty (.pointer (some ⟨b,o,none⟩)) v).run P w = .ok () (w.setCells b o v.cells.toList):=by
 have:=run_storeCells_cells (P:=P) b o v.cells.toList 0 w (fun j hj=>by simpa using (ht j (by simpa using hj)).1) (fun j hj=>by simpa using (ht j (by simpa using hj)).2)
  (fun v hv=>(Array.all_eq_true_iff_forall_mem.1 h1) v (by simpa using hv))
 cases hq:P.info? ty with
 | none=>simp[hq]at hi
 | some i=>
  have hs:v.cells.size=i.size:=by simp[hq]at hi;omega
  simp only[Nat.add_zero]at this
  simp[Instr.storeAt,Instr.sureAddr,storeVar,sizeOf,typeInfo,hq,hs,this]
theorem PZ{t:TypeId}{x y:A}{k:S->Option X}(h:ko P σ t x y k=some r):∃ af,k af=some r/\∀ lab ρ a w,Rl w0 N lab ρ σ a w->∀ u v,RA w w0.heap.size lab ρ x u->RA w w0.heap.size lab ρ y v->
  ∃ w',(Instr.storeAt t u v).run P w = .ok () w'/\Rl w0 N lab ρ af a w':=by
 unfold ko at h
 split at h
 ·rename_i n xs hn eS
  split at h
  ·rename_i hlen
   split at h
   ·rename_i r' j
    split at h
    ·rename_i cs cC
     split at h
     ·rename_i hj
      cases gA:xs.all Lf.live with
      | false=>rw[gA]at h;cases h
      | true=>
       rw[gA]at h
       refine⟨_,h,fun lab ρ a w hR u v hu hv=>?_⟩
       obtain⟨b,off,av,rfl⟩:=hu
       obtain⟨hl,iL⟩:=A7 eS gA hv
       obtain⟨b',mj,fF,A8,aA⟩:=hR.AZ cC hl (by rw[hlen];exact hj)
       rw[av]at fF
       injection fF with e1 e2
       subst e1 e2
       exact⟨_,J9 w b (off+j) t v A8 (by rw[hl.1,hlen];exact hn) iL,aA⟩
     ·cases h
    ·cases h
   ·rename_i j i s q
    split at h
    ·cases h
    ·rename_i vs eT
     obtain⟨y0,hg,h2⟩:=oq _ _ h
     clear h
     split at h2
     ·rename_i t' o' qn l
      split at h2
      ·rename_i hs
       subst hs
       split at h2
       ·rename_i hi
        split at h2
        ·rename_i hj
         cases hold:(((enc t' o' l[i]).drop j).take vs.length).all V.plain with
         | false=>rw[hold]at h2;cases h2
         | true=>
          rw[hold,cond_true]at h2
          split at h2
          ·rename_i e he
           obtain⟨m',kq,h3⟩:=PY q _ _ h2
           refine⟨_,h3,fun lab ρ a w hR u v hu hv=>?_⟩
           obtain⟨ad,rfl,gG⟩:=hu
           obtain⟨vF,Ka⟩:=J8 xs vs eT
           have gA:xs.all Lf.live=true:=by rw[vF];simp[Lf.live]
           obtain⟨hl,iL⟩:=A7 eS gA hv
           have ow:vs.length=n:=by rw[<-hlen,vF,List.length_map]
           have q1:∀ (n':Nat) x,n'<vs.length->(enc t' o' l[i])[j+n']?=some x->x.plain=true:=by
            intro n' x rB hx
            refine List.all_eq_true.1 hold x (List.mem_of_getElem? (i:=n') ?_)
            rw[List.getElem?_take,if_pos rB,List.getElem?_drop]
            exact hx
           have q2:∀ (n':Nat) x,vs[n']?=some x->∃ u',v.cells[n']?=some u'/\RV w w0.heap.size lab [] x u':=by
            intro n' x hx
            obtain⟨u',iW,cw⟩:=hl.2 n' (.v x) (by rw[vF,List.getElem?_map,hx];rfl)
            exact⟨u',iW,cw.2⟩
           obtain⟨b,hb,A8,aA⟩:=hR.abJ (xs:=vs) (us:=v.cells) hg hi hj he q1 Ka (by rw[hl.1,vF,List.length_map]) q2 kq
           rw[gG]at hb
           injection hb with hb
           subst hb
           exact⟨_,J9 w b _ t v A8 (by rw[hl.1,hlen];exact hn) iL,aA⟩
          ·cases h2
        ·cases h2
       ·cases h2
      ·cases h2
     ·cases h2
   ·cases h
  ·cases h
 ·cases h
end
end Go.Proofs.YtmffpkippmkjbaaGreatDoor
namespace Go.Proofs.YtmffpkippmkjbaaGreatDoor
open Go.RowKit
set_option linter.unusedVariables false
def oX{X:Type}(P:Program)(s:TypeId)(x:A)(f:Nat)(k:A->Option X):Option X:=
 match A6 P s f with
 | none=>none
 | some fd=>match ia P fd.type with
  | some (_+1)=>(match x with
   | .az r j=>k (.az r (j+fd.offset))
   | .fL cs=>k (.fL (cs.drop fd.offset))
   | .ptr (j :: i :: s :: q)=>k (.ptr ((j+fd.offset) :: i :: s :: q))
   | _=>none)
  | _=>none
def lJ{X:Type}(P:Program)(σ:S)(t:TypeId)(x i:A)(k:A->Option X):Option X:=
 match ou P t with
 | none=>none
 | some e=>match ia P e,i with
  | some n,.lf (.v (.int _ iv))=>(match x with
   | .lf (.v (.sl t' g _ l))=>if n=aq t' then (bif Nat.blt g 2 then (if h:0<=iv/\iv.toNat<l.length then k (.fL (enc t' g (l[iv.toNat]'h.2)))else none)else none)else none
   | .lf (.own q)=>eF σ.m q fun y=>(match y with
    | .sl t' g _ l=>if n=aq t' then (if h:0<=iv/\iv.toNat<l.length then (bif Nat.blt g 2 then k (.fL (enc t' g (l[iv.toNat]'h.2)))else k (.ptr (0 :: iv.toNat :: aq t' :: q)))else none)else none
    | _=>none)
   | _=>none)
  | _,_=>none
def kr{X:Type}(P:Program)(σ:S)(t:TypeId)(x:A)(k:A->Option X):Option X:=
 match x with
 | .lf y=>fE σ y fun z=>(match z with
  | .sl _ _ _ l=>(match P.underlying t with | some (.slice _)=>k (.lf (.v (.int .i64 (l.length:Int)))) | _=>none)
  | .nil=>(match P.underlying t with | some (.slice _)=>k (.lf (.v (.int .i64 0))) | _=>none)
  | .str s=>(match P.underlying t with | some .string=>k (.lf (.v (.int .i64 (s.size:Int)))) | _=>none)
  | _=>none)
 | _=>none
def ox:Bool×List Lf->Option A
 | (true,cs)=>some (.agg cs)
 | (false,[y])=>some (.lf y)
 | _=>none
def vG{X:Type}(x:A)(i:Nat)(k:A->Option X):Option X:=
 match x with
 | .bJ xs=>match (xs[i]?).bind ox with
  | some y=>k y
  | none=>none
 | _=>none
section
variable {P:Program} {w:World} {w0:Wd} {B N:Nat} {lab:aQ} {ρ:Nat->Loc} {σ:S} {a:Act} {X:Type} {r:X} {o:Oper}
theorem abP(n:Nat){j i s:Nat}{q:List Nat}{ad:Addr}(h:addrAt w lab ρ (j :: i :: s :: q)=some ad):addrAt w lab ρ ((j+n) :: i :: s :: q)=some ⟨ad.block,ad.off+n,none⟩:=by
 match q,h with
 | [],h=>simp[addrAt]at h
 | [r],h=>
  simp only[addrAt]at h ⊢
  split at h
  ·split at h
   ·rename_i hl
    injection h with h
    subst h
    rw[if_pos hl,Nat.add_assoc]
   ·cases h
  ·cases h
 | x :: y :: q,h=>
  simp only[addrAt]at h ⊢
  split at h
  ·split at h
   ·rename_i hl
    injection h with h
    subst h
    rw[if_pos hl,Nat.add_assoc]
   ·cases h
  ·cases h
theorem Kb(w:World)(s:TypeId)(f:Nat)(fd:Field)(n:Nat)(b off:Nat)(hf:A6 P s f=some fd)(hs:ia P fd.type=some (n+1)):
  (Instr.fieldAt s (.pointer (some ⟨b,off,none⟩)) f).run P w = .ok (.pointer (some ⟨b,off+fd.offset,none⟩)) w:=by
 unfold A6 at hf
 split at hf
 ·rename_i fs hu
  unfold ia at hs
  cases hq:P.info? fd.type with
  | none=>simp[hq]at hs
  | some i=>
   have hi:i.size=n+1:=by simpa [hq]using hs
   simp[Instr.fieldAt,run_underlying hu,hf,Instr.sureAddr,fieldPlace,sizeOf,typeInfo,hq,hi,Addr.add_mid]
 ·cases hf
theorem abQ{s:TypeId}{x:A}{f:Nat}{k:A->Option X}(h:oX P s x f k=some r):∃ y,k y=some r/\∀ (w:World) (B:Nat) (lab:aQ) (ρ:Nat->Loc) (u:Value),RA w B lab ρ x u->
  ∃ v,(Instr.fieldAt s u f).run P w = .ok v w/\RA w B lab ρ y v:=by
 unfold oX at h
 split at h
 ·cases h
 ·rename_i fd lK
  split at h
  ·rename_i n hn
   split at h
   ·rename_i r' j
    refine⟨_,h,fun w B lab ρ u hu=>?_⟩
    obtain⟨b,off,av,rfl⟩:=hu
    exact⟨_,Kb w s f fd n b _ lK hn,b,off,av,by rw[Nat.add_assoc]⟩
   ·rename_i cs
    refine⟨_,h,fun w B lab ρ u hu=>?_⟩
    obtain⟨b,off,rfl,hb,hl,hc⟩:=hu
    refine⟨_,Kb w s f fd n b _ lK hn,b,_,rfl,hb,hl,fun j x hx=>?_⟩
    rw[List.getElem?_drop]at hx
    have:=hc _ x hx
    rw[<-Nat.add_assoc]at this
    exact this
   ·rename_i j i s' q
    refine⟨_,h,fun w B lab ρ u hu=>?_⟩
    obtain⟨ad,rfl,gG⟩:=hu
    have h2:=abP fd.offset gG
    obtain⟨_,_,_,_,_,_,_,rA,_⟩:=tU _ _ gG
    obtain⟨b,off,sp⟩:=ad
    simp only at rA
    subst rA
    exact⟨_,Kb w s f fd n b off lK hn,_,rfl,h2⟩
   ·cases h
  ·cases h
theorem Kc(w:World)(t e:TypeId)(n b off len cap:Nat)(kk:IntKind)(iv:Int)(hu:ou P t=some e)(hs:ia P e=some n)(h0:0<=iv)(h1:iv.toNat<len):
  (Instr.indexAt t (.slice (some ⟨b,off,none⟩) len cap) (.int kk iv)).run P w = .ok (.pointer (some ⟨b,off+iv.toNat*n,none⟩)) w:=by
 unfold ou at hu
 split at hu
 ·rename_i e' iW
  injection hu with hu
  subst hu
  unfold ia at hs
  cases hq:P.info? e' with
  | none=>simp[hq]at hs
  | some i=>
   have hi:i.size=n:=by simpa [hq]using hs
   have h2:iv<(len:Int):=by omega
   simp[Instr.indexAt,run_underlying iW,asIntOf,h0,h2,sizeOf,typeInfo,hq,hi,Addr.add_mid]
 ·cases hu
theorem abR{t:TypeId}{x i:A}{k:A->Option X}(h:lJ P σ t x i k=some r):∃ y,k y=some r/\∀ lab ρ a w,Rl w0 N lab ρ σ a w->∀ u v,RA w w0.heap.size lab ρ x u->RA w w0.heap.size lab ρ i v->
  ∃ p,(Instr.indexAt t u v).run P w = .ok p w/\RA w w0.heap.size lab ρ y p:=by
 unfold lJ at h
 split at h
 ·cases h
 ·rename_i e he
  split at h
  ·rename_i n kk iv hn
   split at h
   ·rename_i t' g qn l
    split at h
    ·rename_i jy
     subst jy
     cases hg:Nat.blt g 2 with
     | false=>rw[hg]at h;cases h
     | true=>
      rw[hg,cond_true]at h
      split at h
      ·rename_i hb
       refine⟨_,h,fun lab ρ a w hR u v hu hv=>?_⟩
       obtain rfl:=hv.2.gk
       have P0:g<2:=by have:=Nat.le_of_ble_eq_true hg;omega
       cases hu.2 with
       | bO=>simp at hb
       | bY=>simp at hb
       | cy=>simp at hb
       | own=>exact absurd P0 (by omega)
       | ah _ _ _ _ _ b off cap us ho hl EX h1 hcap hc hr=>
        refine⟨_,Kc w t e _ b off _ cap kk iv he hn hb.1 hb.2,b,_,rfl,EX,hl,fun j x hx=>⟨hG t' g _ P0 j x hx,us iv.toNat j,?_,hr _ hb.2 j x hx⟩⟩
        rw[Nat.add_assoc]
        exact hc _ hb.2 j x hx
      ·cases h
    ·cases h
   ·rename_i q
    obtain⟨y0,hg,h2⟩:=oq _ _ h
    clear h
    split at h2
    ·rename_i t' o' qn l
     split at h2
     ·rename_i jy
      subst jy
      split at h2
      ·rename_i hb
       cases qi:Nat.blt o' 2 with
       | true=>
        rw[qi,cond_true]at h2
        have Kd:o'<2:=Nat.le_of_ble_eq_true qi
        refine⟨_,h2,fun lab ρ a w hR u v hu hv=>?_⟩
        obtain rfl:=hv.2.gk
        obtain⟨dh,ec,kn⟩:=hg.ok hR.root
        have:dh=u:=by
         have h3:=hu.2
         rw[ec]at h3
         injection h3
        subst this
        cases kn with
        | bO=>simp at hb
        | bY=>simp at hb
        | cy=>simp at hb
        | own=>exact absurd Kd (by omega)
        | ah _ _ _ _ _ b off cap us ho hl EX h1 hcap hc hr=>
         refine⟨_,Kc w t e _ b off _ cap kk iv he hn hb.1 hb.2,b,_,rfl,EX,hl,fun j x hx=>⟨hG t' o' _ Kd j x hx,us iv.toNat j,?_,hr _ hb.2 j x hx⟩⟩
         rw[Nat.add_assoc]
         exact hc _ hb.2 j x hx
       | false=>
        rw[qi,cond_false]at h2
        have Kd:¬ o'<2:=fun bU=>by have h9:Nat.blt o' 2=true:=Nat.ble_eq_true_of_le bU;rw[h9]at qi;cases qi
        refine⟨_,h2,fun lab ρ a w hR u v hu hv=>?_⟩
        obtain rfl:=hv.2.gk
        obtain⟨dh,ec,kn⟩:=hg.ok hR.root
        have:dh=u:=by
         have h3:=hu.2
         rw[ec]at h3
         injection h3
        subst this
        cases kn with
        | bO=>simp at hb
        | bY=>simp at hb
        | cy=>simp at hb
        | ah _ _ _ _ _ _ _ _ _ ho=>omega
        | own _ _ _ _ _ b cap cs us cL hh hs rB vD hc hr=>
         refine⟨_,Kc w t e _ b 0 _ cap kk iv he hn hb.1 hb.2,_,rfl,?_⟩
         rw[vz 0 iv.toNat (aq t') ec cL]
         simp
      ·cases h2
     ·cases h2
    ·cases h2
   ·cases h
  ·cases h
theorem abS{t ty:TypeId}{x:A}{k:A->Option X}(h:kr P σ t x k=some r):∃ y,k y=some r/\∀ lab ρ a w,Rl w0 N lab ρ σ a w->∀ u,RA w w0.heap.size lab ρ x u->
  ∃ v,(Builtin.len_ #[t] ty #[u]).run P w = .ok v w/\RA w w0.heap.size lab ρ y v:=by
 unfold kr at h
 split at h
 ·rename_i y
  have key:∃ z,(∀ lab ρ a w,Rl w0 N lab ρ σ a w->∀ u,cg w w0.heap.size lab ρ y u->∃ q,RV w w0.heap.size lab q z u)/\(match z with
    | .sl _ _ _ l=>(match P.underlying t with | some (.slice _)=>k (.lf (.v (.int .i64 (l.length:Int)))) | _=>none)
    | .nil=>(match P.underlying t with | some (.slice _)=>k (.lf (.v (.int .i64 0))) | _=>none)
    | .str s=>(match P.underlying t with | some .string=>k (.lf (.v (.int .i64 (s.size:Int)))) | _=>none)
    | _=>none)=some r:=by
   cases y with
   | v z=>exact⟨z,fun lab ρ a w _ u hu=>⟨[],hu.2⟩,h⟩
   | dead=>cases h
   | own q=>
    obtain⟨z,hz,h⟩:=oq q _ h
    refine⟨z,fun lab ρ a w hR u hu=>?_,h⟩
    obtain⟨v,hv,hr⟩:=hz.ok hR.root
    have h3:=hu.2
    rw[hv]at h3
    injection h3 with h3
    subst h3
    exact⟨q,hr⟩
  obtain⟨z,hz,h2⟩:=key
  clear h
  split at h2
  ·rename_i t' g qn l
   split at h2
   ·rename_i e he
    refine⟨_,h2,fun lab ρ a w hR u hu=>?_⟩
    obtain⟨q,hr⟩:=hz lab ρ a w hR u hu
    cases hr with
    | bO=>exact⟨_,by simp[Builtin.len_,run_underlying he,goInt],rfl,.int _ _ _⟩
    | bY=>exact⟨_,by simp[Builtin.len_,run_underlying he,goInt],rfl,.int _ _ _⟩
    | cy=>exact⟨_,by simp[Builtin.len_,run_underlying he,goInt],rfl,.int _ _ _⟩
    | ah=>exact⟨_,by simp[Builtin.len_,run_underlying he,goInt],rfl,.int _ _ _⟩
    | own=>exact⟨_,by simp[Builtin.len_,run_underlying he,goInt],rfl,.int _ _ _⟩
   ·cases h2
  ·split at h2
   ·rename_i e he
    refine⟨_,h2,fun lab ρ a w hR u hu=>?_⟩
    obtain⟨q,hr⟩:=hz lab ρ a w hR u hu
    cases hr
    exact⟨_,by simp[Builtin.len_,run_underlying he,goInt],rfl,.int _ _ _⟩
   ·cases h2
  ·split at h2
   ·rename_i he
    refine⟨_,h2,fun lab ρ a w hR u hu=>?_⟩
    obtain⟨q,hr⟩:=hz lab ρ a w hR u hu
    obtain rfl:=hr.nE
    exact⟨_,by simp[Builtin.len_,run_underlying he,goInt],rfl,.int _ _ _⟩
   ·cases h2
  ·cases h2
 ·cases h
theorem Ke{p:Bool×List Lf}{y:A}(h:ox p=some y){u:Value}(hu:RP w B lab ρ p u):RA w B lab ρ y u:=by
 unfold ox at h
 split at h
 ·injection h with h
  subst h
  exact hu
 ·rename_i z
  injection h with h
  subst h
  obtain⟨u',iW,hr⟩:=hu.2 0 z rfl
  have:u=u':=by simpa using iW
  subst this
  exact hr
 ·cases h
theorem abT{x:A}{i:Nat}{k:A->Option X}(h:vG x i k=some r):∃ y,k y=some r/\∀ (w:World) (B:Nat) (lab:aQ) (ρ:Nat->Loc) (u:Value),RA w B lab ρ x u->
  ∃ v,(Instr.extract u i).run P w = .ok v w/\RA w B lab ρ y v:=by
 unfold vG at h
 split at h
 ·rename_i xs
  split at h
  ·rename_i y hy
   refine⟨y,h,fun w B lab ρ u hu=>?_⟩
   obtain⟨us,rfl,hs,hp⟩:=hu
   cases hx:xs[i]? with
   | none=>rw[hx]at hy;cases hy
   | some p=>
    rw[hx]at hy
    obtain⟨v,hv,hr⟩:=hp i p hx
    exact⟨v,by simp[Instr.extract,hv],Ke hy hr⟩
  ·cases h
 ·cases h
end
end Go.Proofs.YtmffpkippmkjbaaGreatDoor
namespace Go.Proofs.YtmffpkippmkjbaaGreatDoor
open Go.RowKit
set_option linter.unusedVariables false
section
variable {P:Program} {w w':World} {w0:Wd} {B N:Nat} {lab aj:aQ} {ρ ρ':Nat->Loc} {σ:S} {a:Act} {X:Type} {d:Nat}
theorem abU{k:List Nat}(h:[d] <:+ k):aM d k=true:=by
 obtain⟨y,rfl⟩:=h
 simp[aM]
theorem Kf{k:List Nat}(h:aM d k=true):[d] <:+ k:=by
 have h:k.getLast?=some d:=by simpa [aM]using h
 obtain⟨y,hy⟩:=List.getLast?_eq_some_iff.1 h
 exact⟨y,hy.symm⟩
theorem EY{j i s:Nat}{q:List Nat}(hq:q≠[]):aM d (j :: i :: s :: q)=aM d q:=by
 cases q with
 | nil=>exact absurd rfl hq
 | cons x q=>simp[aM]
structure rF (w w':World) (lab aj:aQ) (d:Nat):Prop where
 size:w.heap.size<=w'.heap.size
 block:∀ b,b<w.heap.size->lab b≠some [d]->w'.heap[b]?=w.heap[b]?
 rG:∀ b,b<w.heap.size->aj b=lab b
 ne:∀ b,lab b≠some []
theorem RV.jk{q:List Nat}{x:V}{v:Value}(h:RV w B lab q x v)(hw:rF w w' lab aj d)(hq:¬ [d] <:+ q\/x.ah=true):RV w' B aj q x v:=by
 induction h with
 | int=>exact .int _ _ _
 | bool=>exact .bool _ _
 | str=>exact .str _ _
 | nil=>exact .nil _
 | bO=>exact .bO _ _ _
 | bY=>exact .bY _ _ _ _ _ (by first | assumption | omega)
 | cy=>exact .cy _ _ _ _ _ (by first | assumption | omega)
 | ah q t o qn l b off cap u ho hl hb h1 hcap hc hr ih=>
  have aK:lab b≠some [d]:=by rw[hl];simp
  exact .ah _ _ _ _ _ _ _ _ u ho ((hw.rG b hb).trans hl) (Nat.lt_of_lt_of_le hb hw.size) h1 hcap (fun i h j x hx=>(World.cell?_of_block (a:=⟨b,_,none⟩) (hw.block b hb aK)).trans (hc i h j x hx)) (fun i h j x hx=>ih i h j x hx (.inr (hG t o l[i] ho j x hx)))
 | own q t o qn l b cap cs u hl hh hs hn hm hc hr ih=>
  have hb:b<w.heap.size:=(Array.getElem?_eq_some_iff.1 hh).1
  have jh:¬ [d] <:+ q:=by
   rcases hq with hq | hq
   ·exact hq
   ·simp[V.ah]at hq;omega
  have aK:lab b≠some [d]:=by
   rw[hl]
   intro e
   injection e with e
   exact jh (by rw[e];exact List.suffix_refl _)
  refine .own _ _ _ _ _ _ _ cs u ((hw.rG b hb).trans hl) ((hw.block b hb aK).trans hh) hs hn hm hc (fun i h j x hx=>ih i h j x hx (.inl fun kj=>jh ?_))
  have hq0:q≠[]:=by rintro rfl;exact hw.ne b hl
  exact Kf ((EY hq0).symm.trans (abU kj))
theorem arP{k:List Nat}(h:aM d k=false):¬ [d] <:+ k:=by
 rintro⟨y,rfl⟩
 simp[aM]at h
theorem abV{j i s:Nat}{q:List Nat}(hq:q≠[])(h:aM d (j :: i :: s :: q)=false):aM d q=false:=by
 cases q with
 | nil=>exact absurd rfl hq
 | cons x q=>simpa [aM]using h
theorem Kg(hw:rF w w' lab aj d)(hg:∀ b k,lab b=some k->b<w.heap.size)(av:∀ r,r≠d->ρ' r=ρ r):∀ (k:List Nat) (ad:Addr),aM d k=false->addrAt w lab ρ k=some ad->addrAt w' aj ρ' k=some ad
 | [],_,_,h=>h
 | [_],_,_,h=>h
 | [_,_],_,_,h=>h
 | [_,_,_],_,_,h=>by simp only[addrAt]at h ⊢;exact h
 | [j,i,s,r],_,hd,h=>by
  have hr:r≠d:=by rintro rfl;simp[aM]at hd
  simp only[addrAt,av r hr]at h ⊢
  split at h
  ·rename_i v b n c hr
   split at h
   ·rename_i hl
    rw[if_pos ((hw.rG _ (hg _ _ hl)).trans hl)]
    exact h
   ·cases h
  ·cases h
 | j :: i :: s :: x :: y :: q,ad,hd,h=>by
  have qj:=abV (by simp) hd
  simp only[addrAt]at h ⊢
  cases ha:addrAt w lab ρ (x :: y :: q)with
  | none=>rw[ha]at h;cases h
  | some lH=>
   rw[Kg hw hg av _ _ qj ha]
   rw[ha]at h
   cases hc:w.cell? lH with
   | none=>simp[hc]at h
   | some v=>
    have aK:lab lH.block≠some [d]:=by
     obtain⟨j',i',s',q',e,hl,_⟩:=tU _ _ ha
     rw[hl]
     intro e'
     injection e' with e'
     subst e'
     rw[e]at qj
     simp[aM]at qj
    have e:w'.cell? lH=some v:=(World.cell?_of_block (hw.block _ (block_lt_of_cell hc) aK)).trans hc
    simp only[Option.bind_some,hc]at h
    simp only[Option.bind_some,e]
    split at h
    ·split at h
     ·rename_i hl
      rw[if_pos ((hw.rG _ (hg _ _ hl)).trans hl)]
      exact h
     ·cases h
    ·cases h
theorem P1(hw:rF w w' lab aj d)(hg:∀ b k,lab b=some k->b<w.heap.size)(av:∀ r,r≠d->ρ' r=ρ r)(k:List Nat)(u:Value)(hd:aM d k=false)(h:bC w lab ρ k=some u):bC w' aj ρ' k=some u:=by
 match k,hd,h with
 | [],_,h=>simp[bC,addrAt]at h
 | [r],hd,h=>
  have hr:r≠d:=by rintro rfl;simp[aM]at hd
  simp only[bC,av r hr]at h ⊢
  exact h
 | x :: y :: q,hd,h=>
  simp only[bC]at h ⊢
  cases ha:addrAt w lab ρ (x :: y :: q)with
  | none=>rw[ha]at h;cases h
  | some ad=>
   rw[Kg hw hg av _ _ hd ha]
   rw[ha]at h
   have h:w.cell? ad=some u:=h
   have aK:lab ad.block≠some [d]:=by
    obtain⟨j',i',s',q',e,hl,_⟩:=tU _ _ ha
    rw[hl]
    intro e'
    injection e' with e'
    subst e'
    rw[e]at hd
    simp[aM]at hd
   exact(World.cell?_of_block (hw.block _ (block_lt_of_cell h) aK)).trans h
theorem cg.jk{x:Lf}{u:Value}(h:cg w B lab ρ x u)(hw:rF w w' lab aj d)(hg:∀ b k,lab b=some k->b<w.heap.size)(av:∀ r,r≠d->ρ' r=ρ r):cg w' B aj ρ' (x.drop d) u:=by
 cases x with
 | v x=>exact⟨h.1,h.2.jk hw (.inr h.1)⟩
 | dead=>trivial
 | own k=>
  have e:Lf.drop d (.own k)=(bif aM d k then .dead else .own k):=rfl
  rw[e]
  cases hl:aM d k with
  | true=>trivial
  | false=>exact⟨h.1,P1 hw hg av k u hl h.2⟩
theorem cG.jk{cs:List Lf}{us:Array Value}(h:cG w B lab ρ cs us)(hw:rF w w' lab aj d)(hg:∀ b k,lab b=some k->b<w.heap.size)(av:∀ r,r≠d->ρ' r=ρ r):cG w' B aj ρ' (cs.map (Lf.drop d)) us:=by
 refine⟨by rw[List.length_map];exact h.1,fun j x hx=>?_⟩
 rw[List.getElem?_map]at hx
 cases hy:cs[j]? with
 | none=>rw[hy]at hx;cases hx
 | some y=>
  rw[hy]at hx
  injection hx with hx
  subst hx
  obtain⟨u,hu,r⟩:=h.2 j y hy
  exact⟨u,hu,r.jk hw hg av⟩
theorem RP.jk{p:Bool×List Lf}{u:Value}(h:RP w B lab ρ p u)(hw:rF w w' lab aj d)(hg:∀ b k,lab b=some k->b<w.heap.size)(av:∀ r,r≠d->ρ' r=ρ r):RP w' B aj ρ' (p.1,p.2.map (Lf.drop d)) u:=by
 obtain⟨b,cs⟩:=p
 cases b with
 | true=>obtain⟨us,e,h⟩:=h;exact⟨us,e,h.jk hw hg av⟩
 | false=>exact cG.jk h hw hg av
theorem RA.jk{x:A}{u:Value}(h:RA w B lab ρ x u)(hw:rF w w' lab aj d)(hg:∀ b k,lab b=some k->b<w.heap.size)(av:∀ r,r≠d->ρ' r=ρ r):RA w' B aj ρ' (x.drop d) u:=by
 cases x with
 | undef=>trivial
 | skip=>exact h
 | lf x=>exact cg.jk h hw hg av
 | agg cs=>exact RP.jk (p:=(true,cs)) h hw hg av
 | bJ xs=>
  obtain⟨us,e,hs,h⟩:=h
  refine⟨us,e,by rw[List.length_map];exact hs,fun j p hp=>?_⟩
  rw[List.getElem?_map]at hp
  cases hy:xs[j]? with
  | none=>rw[hy]at hp;cases hp
  | some y=>
   rw[hy]at hp
   injection hp with hp
   subst hp
   obtain⟨v,hv,r⟩:=h j y hy
   exact⟨v,hv,r.jk hw hg av⟩
 | ptr k=>
  have e:A.drop d (.ptr k)=(bif aM d k then .undef else .ptr k):=rfl
  rw[e]
  cases hl:aM d k with
  | true=>trivial
  | false=>obtain⟨ad,e,h⟩:=h;exact⟨ad,e,Kg hw hg av k _ hl h⟩
 | view k s i j=>
  have e:A.drop d (.view k s i j)=(bif aM d k then .undef else .view k s i j):=rfl
  rw[e]
  cases hl:aM d k with
  | true=>trivial
  | false=>obtain⟨A,n,c,h,g⟩:=h;exact⟨A,n,c,P1 hw hg av k _ hl h,g⟩
 | pk r n=>
  have e:A.drop d (.pk r n)=(bif Nat.beq r d then .undef else .pk r n):=rfl
  rw[e]
  cases hl:Nat.beq r d with
  | true=>trivial
  | false=>
   have hr:r≠d:=by rintro rfl;simp at hl
   obtain⟨b,e,h⟩:=h
   exact⟨b,(av r hr).trans e,h⟩
 | az r j=>
  have e:A.drop d (.az r j)=(bif Nat.beq r d then .undef else .az r j):=rfl
  rw[e]
  cases hl:Nat.beq r d with
  | true=>trivial
  | false=>
   have hr:r≠d:=by rintro rfl;simp at hl
   obtain⟨b,off,e,h⟩:=h
   exact⟨b,off,(av r hr).trans e,h⟩
 | fL cs=>
  obtain⟨b,off,e,hb,hl,h⟩:=h
  have aK:lab b≠some [d]:=by rw[hl];simp
  refine⟨b,off,e,Nat.lt_of_lt_of_le hb hw.size,(hw.rG b hb).trans hl,fun j x hx=>?_⟩
  obtain⟨hf,v,hv,hr⟩:=h j x hx
  exact⟨hf,v,(World.cell?_of_block (a:=⟨b,_,none⟩) (hw.block b hb aK)).trans hv,hr.jk hw (.inr hf)⟩
 | jD f cs=>
  obtain⟨pv,e0,h⟩:=h
  refine⟨pv,e0,?_⟩
  obtain⟨b,off,e,hb,hl,h⟩:=h
  have aK:lab b≠some [d]:=by rw[hl];simp
  refine⟨b,off,e,Nat.lt_of_lt_of_le hb hw.size,(hw.rG b hb).trans hl,fun j x hx=>?_⟩
  obtain⟨hf,v,hv,hr⟩:=h j x hx
  exact⟨hf,v,(World.cell?_of_block (a:=⟨b,_,none⟩) (hw.block b hb aK)).trans hv,hr.jk hw (.inr hf)⟩
 | fn f cap=>
  have e:A.drop d (.fn f cap)=(bif cap.any (fun p=>Nat.beq p.1 d)then .undef else .fn f cap):=rfl
  rw[e]
  cases hl:cap.any (fun p=>Nat.beq p.1 d)with
  | true=>trivial
  | false=>
   obtain⟨vs,e,hs,h⟩:=h
   refine⟨vs,e,hs,fun j p hp=>?_⟩
   obtain⟨b,off,e2,h2⟩:=h j p hp
   have hr:p.1≠d:=by
    rintro rfl
    have:=List.any_eq_false.1 hl p (List.mem_of_getElem? hp)
    simp at this
   exact⟨b,off,(av _ hr).trans e2,h2⟩
theorem cX.jk{r:Nat}(hr:r≠d){x:ax}(h:cX w B lab ρ r x)(hw:rF w w' lab aj d)(hg:∀ b k,lab b=some k->b<w.heap.size)(av:∀ r,r≠d->ρ' r=ρ r):cX w' B aj ρ' r (x.drop d):=by
 have oY:¬ [d] <:+ [r]:=J2 (fun e=>hr e.symm)
 cases h with
 | blk b off cells e cs us fM hl hh hs hc=>
  have hb:b<w.heap.size:=(Array.getElem?_eq_some_iff.1 hh).1
  have aK:lab b≠some [d]:=by
   rw[hl]
   intro e
   injection e with e
   injection e with e
   exact hr e
  refine .blk b off cells e _ us ((av r hr).trans fM) ((hw.rG b hb).trans hl) ((hw.block b hb aK).trans hh) (by rw[List.length_map];exact hs) (fun j x hx=>?_)
  rw[List.getElem?_map]at hx
  cases hy:cs[j]? with
  | none=>rw[hy]at hx;cases hx
  | some y=>
   rw[hy]at hx
   injection hx with hx
   subst hx
   exact⟨(hc j y hy).1,(hc j y hy).2.jk hw hg av⟩
 | sl v y fM AY=>exact .sl v y ((av r hr).trans fM) (AY.jk hw (.inl oY))
 | mp b c es l fM hl hh he=>
  have hb:b<w.heap.size:=(Array.getElem?_eq_some_iff.1 hh).1
  have aK:lab b≠some [d]:=by
   rw[hl]
   intro e
   injection e with e
   injection e with e
   exact hr e
  exact .mp b c es l ((av r hr).trans fM) ((hw.rG b hb).trans hl) ((hw.block b hb aK).trans hh) he
 | gh us xs fM hx=>
  refine .gh us _ ((av r hr).trans fM) (fun j x hj=>?_)
  rw[List.getElem?_map]at hj
  cases hy:xs[j]? with
  | none=>rw[hy]at hj;cases hj
  | some y=>
   rw[hy]at hj
   injection hj with hj
   subst hj
   exact(hx j y hy).jk hw hg av
theorem Rl.rH{x:ax}(h:Rl w0 N lab ρ σ a w)(hF:w0.F d=none)(hb:gv w0 w w')(hw:rF w w' lab aj d)(hg:∀ b k,w.heap.size<=b->aj b=some k->b<w'.heap.size/\k≠[])(av:∀ r,r≠d->ρ' r=ρ r)(hx:cX w' w0.heap.size aj ρ' d x):
  Rl w0 N aj ρ' ((σ.drop d).root d x) a w':=by
 have rC:∀ b k,lab b=some k->b<w.heap.size:=fun b k hb=>(h.bV b k hb).2.1
 refine⟨h.below.trans hb,fun b k hbk=>?_,fun r y hy=>?_,fun k=>(h.tmp k).jk hw rC av,h.size,h.defers,fun r l' hr=>(av r (by rintro rfl;rw[hF]at hr;cases hr)).trans (h.fix r l' hr),h.dM⟩
 ·rcases Nat.lt_or_ge b w.heap.size with bU | j3
  ·rw[hw.rG b bU]at hbk
   have:=h.bV b k hbk
   exact⟨this.1,Nat.lt_of_lt_of_le this.2.1 hw.size,this.2.2⟩
  ·have:=hg b k j3 hbk
   exact⟨.inl (Nat.le_trans h.below.size j3),this.1,this.2⟩
 ·by_cases hr:r=d
  ·subst hr
   have hy:(aX (σ.drop r).m r (some x)) r=some y:=hy
   rw[aZ]at hy
   injection hy with hy
   subst hy
   exact hx
  ·have hy:(aX (σ.drop d).m d (some x)) r=some y:=hy
   rw[bB _ _ _ hr]at hy
   have hb:Nat.beq r d=false:=by
    cases hb:Nat.beq r d with
    | false=>rfl
    | true=>exact absurd (Nat.eq_of_beq_eq_true hb) hr
   simp only[S.drop,hb,cond_false]at hy
   cases hm:σ.m r with
   | none=>rw[hm]at hy;cases hy
   | some z=>
    rw[hm]at hy
    injection hy with hy
    subst hy
    exact(h.root r z hm).jk hr hw rC av
end
end Go.Proofs.YtmffpkippmkjbaaGreatDoor
namespace Go.Proofs.YtmffpkippmkjbaaGreatDoor
open Go.RowKit
set_option linter.unusedVariables false
def fO(q:Nat)(nk k:List Nat):List Nat:=bif aM q k then k.dropLast++nk else k
def aQ.fO(lab:aQ)(q:Nat)(nk:List Nat):aQ:=fun b=>(lab b).map (Proofs.YtmffpkippmkjbaaGreatDoor.fO q nk)
section
variable {P:Program} {w w':World} {w0:Wd} {B N:Nat} {lab aj:aQ} {ρ ρ':Nat->Loc} {σ:S} {a:Act} {X:Type} {d q:Nat} {nk:List Nat}
theorem P2:fO q nk [q]=nk:=by simp[fO,aM]
theorem abW{k:List Nat}(h:aM q k=false):fO q nk k=k:=by simp[fO,h]
theorem abX{j i s:Nat}{k:List Nat}(hk:k≠[]):fO q nk (j :: i :: s :: k)=j :: i :: s :: fO q nk k:=by
 unfold fO
 rw[EY hk]
 cases aM q k with
 | false=>rfl
 | true=>
  cases k with
  | nil=>exact absurd rfl hk
  | cons x k=>simp
theorem P3{k:List Nat}(hn:nk≠[])(hk:k≠[]):fO q nk k≠[]:=by
 unfold fO
 cases aM q k with
 | false=>simpa using hk
 | true=>simp[hn]
theorem aQ.Kh{b:Nat}(h:lab b=none):lab.fO q nk b=none:=by simp[aQ.fO,h]
theorem aQ.P4{b:Nat}{k:List Nat}(h:lab b=some k):lab.fO q nk b=some (Proofs.YtmffpkippmkjbaaGreatDoor.fO q nk k):=by simp[aQ.fO,h]
theorem aQ.P5{b:Nat}{k:List Nat}(h:lab b=some k)(hk:aM q k=false):lab.fO q nk b=some k:=by rw[aQ.P4 h,abW hk]
theorem RV.fO{k:List Nat}{x:V}{v:Value}(h:RV w B lab k x v)(aK:∀ b,lab b≠some []):RV w B (lab.fO q nk) (Proofs.YtmffpkippmkjbaaGreatDoor.fO q nk k) x v:=by
 induction h with
 | int=>exact .int _ _ _
 | bool=>exact .bool _ _
 | str=>exact .str _ _
 | nil=>exact .nil _
 | bO=>exact .bO _ _ _
 | bY=>exact .bY _ _ _ _ _ (by first | assumption | omega)
 | cy=>exact .cy _ _ _ _ _ (by first | assumption | omega)
 | ah k t o qn l b off cap u ho hl hb h1 hcap hc hr ih=>
  exact .ah _ _ _ _ _ _ _ _ u ho (aQ.Kh hl) hb h1 hcap hc (fun i h j x hx=>ih i h j x hx)
 | own k t o qn l b cap cs u hl hh hs hn hm hc hr ih=>
  have hk:k≠[]:=by rintro rfl;exact aK b hl
  refine .own _ _ _ _ _ _ _ cs u (aQ.P4 hl) hh hs hn hm hc (fun i h j x hx=>?_)
  have:=ih i h j x hx
  rw[abX hk]at this
  exact this
structure Rel (q:Nat) (lab aj:aQ):Prop where
 ne:∀ b,lab b≠some []
 none:∀ b,lab b=none->aj b=Option.none
 dL:∀ b k,lab b=some k->aM q k=false->aj b=some k
theorem A9(aK:∀ b,lab b≠some []):Rel q lab (lab.fO q nk):=⟨aK,fun _ h=>aQ.Kh h,fun _ _ h hk=>aQ.P5 h hk⟩
theorem RV.rel(bL:Rel q lab aj){k:List Nat}{x:V}{v:Value}(h:RV w B lab k x v)(hk:aM q k=false\/x.ah=true):RV w B aj k x v:=by
 induction h with
 | int=>exact .int _ _ _
 | bool=>exact .bool _ _
 | str=>exact .str _ _
 | nil=>exact .nil _
 | bO=>exact .bO _ _ _
 | bY=>exact .bY _ _ _ _ _ (by first | assumption | omega)
 | cy=>exact .cy _ _ _ _ _ (by first | assumption | omega)
 | ah k t o qn l b off cap u ho hl hb h1 hcap hc hr ih=>
  exact .ah _ _ _ _ _ _ _ _ u ho (bL.none _ hl) hb h1 hcap hc (fun i h j x hx=>ih i h j x hx (.inr (hG t o l[i] ho j x hx)))
 | own k t o qn l b cap cs u hl hh hs hn hm hc hr ih=>
  have dm:aM q k=false:=by
   rcases hk with hk | hk
   ·exact hk
   ·simp[V.ah]at hk;omega
  refine .own _ _ _ _ _ _ _ cs u (bL.dL _ _ hl dm) hh hs hn hm hc (fun i h j x hx=>ih i h j x hx ?_)
  cases k with
  | nil=>exact absurd hl (bL.ne b)
  | cons z k=>exact .inl (by rw[EY (by simp)];exact dm)
theorem Ki(bL:Rel q lab aj):∀ (k:List Nat) (ad:Addr),aM q k=false->addrAt w lab ρ k=some ad->addrAt w aj ρ k=some ad
 | [],_,_,h=>h
 | [_],_,_,h=>h
 | [_,_],_,_,h=>h
 | [_,_,_],_,_,h=>by simp only[addrAt]at h ⊢;exact h
 | [j,i,s,r],_,hd,h=>by
  have hr:aM q [r]=false:=by simpa [aM]using hd
  simp only[addrAt]at h ⊢
  split at h
  ·rename_i v b n c e
   split at h
   ·rename_i hl
    rw[if_pos (bL.dL _ _ hl hr)]
    exact h
   ·cases h
  ·cases h
 | j :: i :: s :: x :: y :: k,ad,hd,h=>by
  have qj:aM q (x :: y :: k)=false:=by simpa [aM]using hd
  simp only[addrAt]at h ⊢
  cases ha:addrAt w lab ρ (x :: y :: k)with
  | none=>rw[ha]at h;cases h
  | some lH=>
   rw[Ki bL _ _ qj ha]
   rw[ha]at h
   split at h
   ·rename_i v b n c e
    split at h
    ·rename_i hl
     rw[if_pos (bL.dL _ _ hl qj)]
     exact h
    ·cases h
   ·cases h
theorem Kj(bL:Rel q lab aj)(k:List Nat)(u:Value)(hd:aM q k=false)(h:bC w lab ρ k=some u):bC w aj ρ k=some u:=by
 match k,hd,h with
 | [],_,h=>simp[bC,addrAt]at h
 | [r],_,h=>exact h
 | x :: y :: k,hd,h=>
  simp only[bC]at h ⊢
  cases ha:addrAt w lab ρ (x :: y :: k)with
  | none=>rw[ha]at h;cases h
  | some ad=>
   rw[Ki bL _ _ hd ha]
   rw[ha]at h
   exact h
theorem cg.rel(bL:Rel q lab aj){x:Lf}{u:Value}(h:cg w B lab ρ x u):cg w B aj ρ (x.drop q) u:=by
 cases x with
 | v x=>exact⟨h.1,h.2.rel bL (.inr h.1)⟩
 | dead=>trivial
 | own k=>
  have e:Lf.drop q (.own k)=(bif aM q k then .dead else .own k):=rfl
  rw[e]
  cases hl:aM q k with
  | true=>trivial
  | false=>exact⟨h.1,Kj bL k u hl h.2⟩
theorem cG.rel(bL:Rel q lab aj){cs:List Lf}{us:Array Value}(h:cG w B lab ρ cs us):cG w B aj ρ (cs.map (Lf.drop q)) us:=by
 refine⟨by rw[List.length_map];exact h.1,fun j x hx=>?_⟩
 rw[List.getElem?_map]at hx
 cases hy:cs[j]? with
 | none=>rw[hy]at hx;cases hx
 | some y=>
  rw[hy]at hx
  injection hx with hx
  subst hx
  obtain⟨u,hu,r⟩:=h.2 j y hy
  exact⟨u,hu,r.rel bL⟩
theorem RP.rel(bL:Rel q lab aj){p:Bool×List Lf}{u:Value}(h:RP w B lab ρ p u):RP w B aj ρ (p.1,p.2.map (Lf.drop q)) u:=by
 obtain⟨b,cs⟩:=p
 cases b with
 | true=>obtain⟨us,e,h⟩:=h;exact⟨us,e,h.rel bL⟩
 | false=>exact cG.rel bL h
theorem RA.rel(bL:Rel q lab aj){x:A}{u:Value}(h:RA w B lab ρ x u):RA w B aj ρ (x.drop q) u:=by
 cases x with
 | undef=>trivial
 | skip=>exact h
 | lf x=>exact cg.rel bL h
 | agg cs=>exact RP.rel bL (p:=(true,cs)) h
 | bJ xs=>
  obtain⟨us,e,hs,h⟩:=h
  refine⟨us,e,by rw[List.length_map];exact hs,fun j p hp=>?_⟩
  rw[List.getElem?_map]at hp
  cases hy:xs[j]? with
  | none=>rw[hy]at hp;cases hp
  | some y=>
   rw[hy]at hp
   injection hp with hp
   subst hp
   obtain⟨v,hv,r⟩:=h j y hy
   exact⟨v,hv,r.rel bL⟩
 | ptr k=>
  have e:A.drop q (.ptr k)=(bif aM q k then .undef else .ptr k):=rfl
  rw[e]
  cases hl:aM q k with
  | true=>trivial
  | false=>obtain⟨ad,e,h⟩:=h;exact⟨ad,e,Ki bL k ad hl h⟩
 | view k s i j=>
  have e:A.drop q (.view k s i j)=(bif aM q k then .undef else .view k s i j):=rfl
  rw[e]
  cases hl:aM q k with
  | true=>trivial
  | false=>obtain⟨A,n,c,h,r⟩:=h;exact⟨A,n,c,Kj bL k _ hl h,r⟩
 | az r j=>
  have e:A.drop q (.az r j)=(bif Nat.beq r q then .undef else .az r j):=rfl
  rw[e]
  cases hl:Nat.beq r q with
  | true=>trivial
  | false=>exact h
 | pk r n=>
  have e:A.drop q (.pk r n)=(bif Nat.beq r q then .undef else .pk r n):=rfl
  rw[e]
  cases hl:Nat.beq r q with
  | true=>trivial
  | false=>exact h
 | fL cs=>
  obtain⟨b,off,e,hb,hl,h⟩:=h
  refine⟨b,off,e,hb,bL.none _ hl,fun j x hx=>?_⟩
  obtain⟨hf,v,hv,hr⟩:=h j x hx
  exact⟨hf,v,hv,hr.rel bL (.inr hf)⟩
 | jD f cs=>
  obtain⟨pv,e0,h⟩:=h
  refine⟨pv,e0,?_⟩
  obtain⟨b,off,e,hb,hl,h⟩:=h
  refine⟨b,off,e,hb,bL.none _ hl,fun j x hx=>?_⟩
  obtain⟨hf,v,hv,hr⟩:=h j x hx
  exact⟨hf,v,hv,hr.rel bL (.inr hf)⟩
 | fn f cap=>
  have e:A.drop q (.fn f cap)=(bif cap.any (fun p=>Nat.beq p.1 q)then .undef else .fn f cap):=rfl
  rw[e]
  cases hl:cap.any (fun p=>Nat.beq p.1 q)with
  | true=>trivial
  | false=>exact h
theorem cX.rel(bL:Rel q lab aj){r:Nat}(hr:r≠q){x:ax}(h:cX w B lab ρ r x):cX w B aj ρ r (x.drop q):=by
 have oY:aM q [r]=false:=by simpa [aM]using fun e=>hr e
 cases h with
 | blk b off cells e cs us fM hl hh hs hc=>
  refine .blk b off cells e _ us fM (bL.dL _ _ hl oY) hh (by rw[List.length_map];exact hs) (fun j x hx=>?_)
  rw[List.getElem?_map]at hx
  cases hy:cs[j]? with
  | none=>rw[hy]at hx;cases hx
  | some y=>
   rw[hy]at hx
   injection hx with hx
   subst hx
   exact⟨(hc j y hy).1,(hc j y hy).2.rel bL⟩
 | sl v y fM AY=>exact .sl v y fM (AY.rel bL (.inl oY))
 | mp b c es l fM hl hh he=>exact .mp b c es l fM (bL.dL _ _ hl oY) hh he
 | gh us xs fM hx=>
  refine .gh us _ fM (fun j x hj=>?_)
  rw[List.getElem?_map]at hj
  cases hy:xs[j]? with
  | none=>rw[hy]at hj;cases hj
  | some y=>
   rw[hy]at hj
   injection hj with hj
   subst hj
   exact(hx j y hy).rel bL
theorem Rl.tX(h:Rl w0 N lab ρ σ a w):∀ b,lab b≠some []:=fun b hb=>(h.bV b [] hb).2.2 rfl
theorem Rl.rel(h:Rl w0 N lab ρ σ a w)(bL:Rel q lab aj)(hg:∀ b k,aj b=some k->(∃ k',lab b=some k')/\k≠[]):Rl w0 N aj ρ (σ.drop q) a w:=by
 refine⟨h.below,fun b k hbk=>?_,fun r x hx=>?_,fun k=>(h.tmp k).rel bL,h.size,h.defers,h.fix,h.dM⟩
 ·obtain⟨⟨k',hl⟩,hk⟩:=hg b k hbk
  have:=h.bV b k' hl
  exact⟨this.1,this.2.1,hk⟩
 ·have hx:(bif Nat.beq r q then none else (σ.m r).map (ax.drop q))=some x:=hx
  cases hb:Nat.beq r q with
  | true=>rw[hb]at hx;cases hx
  | false=>
   rw[hb,cond_false]at hx
   have cw:r≠q:=by rintro rfl;simp at hb
   cases kq:σ.m r with
   | none=>rw[kq]at hx;cases hx
   | some y=>
    rw[kq]at hx
    injection hx with hx
    subst hx
    exact(h.root r y kq).rel bL cw
theorem Rl.abY{z:V}(h:Rl w0 N lab ρ σ a w)(hm:σ.m q=some (.sl z))(hn:nk≠[]):∃ u,ρ q = .cS u/\Rl w0 N (lab.fO q nk) ρ (σ.drop q) a w/\RV w w0.heap.size (lab.fO q nk) nk z u:=by
 have aK:=h.tX
 have hq:=h.root q _ hm
 generalize he:ax.sl z=x at hq
 cases hq with
 | blk=>cases he
 | mp=>cases he
 | gh=>cases he
 | sl u y av hr=>
  injection he with he
  subst he
  refine⟨u,av,h.rel (A9 aK) fun b k hbk=>?_,?_⟩
  ·unfold aQ.fO at hbk
   cases hl:lab b with
   | none=>rw[hl]at hbk;cases hbk
   | some k'=>
    rw[hl]at hbk
    injection hbk with hbk
    subst hbk
    exact⟨⟨k',rfl⟩,P3 hn (fun e=>aK b (by rw[hl,e]))⟩
  ·have:=hr.fO (q:=q) (nk:=nk) aK
   rwa [P2]at this
def nG(r:Nat)(key:Nat->List Nat):Nat->Nat->List Lf->S->Option (List V×S)
 | _,_,[],σ=>some ([],σ)
 | f+1,j,.v x :: xs,σ=>(nG r key f (j+1) xs σ).map fun p=>(x :: p.1,p.2)
 | f+1,j,.own [q] :: xs,σ=>match σ.m q with
  | some (.sl z)=>bif Nat.beq q r then none else (nG r key f (j+1) (xs.map (Lf.drop q)) (σ.drop q)).map fun p=>(z :: p.1,p.2)
  | _=>none
 | _,_,_,_=>none
theorem EZ{r:Nat}{key:Nat->List Nat}(rI:∀ j,aM r (key j)=true):∀ (f j:Nat) (xs:List Lf) (σ τ:S) (vs:List V),nG r key f j xs σ=some (vs,τ)->∀ lab ρ a w,Rl w0 N lab ρ σ a w->∀ us:List Value,cG w w0.heap.size lab ρ xs us.toArray->
  ∃ aj,Rl w0 N aj ρ τ a w/\vs.length=xs.length/\(∀ (n:Nat) x,vs[n]?=some x->∃ u,us[n]?=some u/\RV w w0.heap.size aj (key (j+n)) x u)/\(∀ k x v,aM r k=true->RV w w0.heap.size lab k x v->RV w w0.heap.size aj k x v)/\
   (∀ x,σ.m r=some (.sl x)->τ.m r=some (.sl x))/\(∀ k u,aM r k=true->bC w lab ρ k=some u->bC w aj ρ k=some u)/\(∀ b,lab b=some [r]->aj b=some [r])/\(∀ b,lab b=none->aj b=none)
 | 0,j,[],σ,τ,vs,h,lab,ρ,a,w,hR,us,hu=>by
  simp only[nG,Option.some.injEq,Prod.mk.injEq]at h
  obtain⟨rfl,rfl⟩:=h
  exact⟨lab,hR,rfl,by simp,fun _ _ _ _ h=>h,fun _ h=>h,fun _ _ _ h=>h,fun _ h=>h,fun _ h=>h⟩
 | f+1,j,[],σ,τ,vs,h,lab,ρ,a,w,hR,us,hu=>by
  simp only[nG,Option.some.injEq,Prod.mk.injEq]at h
  obtain⟨rfl,rfl⟩:=h
  exact⟨lab,hR,rfl,by simp,fun _ _ _ _ h=>h,fun _ h=>h,fun _ _ _ h=>h,fun _ h=>h,fun _ h=>h⟩
 | 0,j,x :: xs,σ,τ,vs,h,lab,ρ,a,w,hR,us,hu=>by simp[nG]at h
 | f+1,j,x :: xs,σ,τ,vs,h,lab,ρ,a,w,hR,us,hu=>by
  obtain⟨u0,us,rfl⟩:∃ u0 P6,us=u0 :: P6:=by
   cases us with
   | nil=>have:=hu.1;simp at this
   | cons u0 us=>exact⟨_,_,rfl⟩
  have jF:cg w w0.heap.size lab ρ x u0:=by
   obtain⟨u,e,h⟩:=hu.2 0 x rfl
   simp at e
   subst e
   exact h
  have dN:cG w w0.heap.size lab ρ xs us.toArray:=⟨by have:=hu.1;simpa using this,fun n y hy=>by
   obtain⟨u,e,h⟩:=hu.2 (n+1) y hy
   exact⟨u,by simpa using e,h⟩⟩
  cases x with
  | v x=>
   simp only[nG,Option.map_eq_some_iff]at h
   obtain⟨⟨nH,eU⟩,h,e⟩:=h
   simp only[Prod.mk.injEq]at e
   obtain⟨rfl,rfl⟩:=e
   obtain⟨aj,h1,h2,h3,h4,h5⟩:=EZ rI f (j+1) xs σ eU nH h lab ρ a w hR us dN
   refine⟨aj,h1,by simp[h2],fun n y hy=>?_,h4,h5⟩
   cases n with
   | zero=>
    simp at hy
    subst hy
    refine⟨u0,rfl,h4 _ _ _ (rI _) (jF.2.key jF.1)⟩
   | succ n=>
    obtain⟨u,e,h⟩:=h3 n y (by simpa using hy)
    exact⟨u,by simpa using e,by rw[show j+(n+1)=j+1+n by omega];exact h⟩
  | dead=>simp[nG]at h
  | own k=>
   match k,jF,h with
   | [],_,h=>simp[nG]at h
   | _ :: _ :: _,_,h=>simp[nG]at h
   | [q],jF,h=>
    simp only[nG]at h
    split at h
    ·rename_i z hz
     cases Kk:Nat.beq q r with
     | true=>rw[Kk]at h;cases h
     | false=>
      rw[Kk,cond_false,Option.map_eq_some_iff]at h
      obtain⟨⟨nH,eU⟩,abZ,e⟩:=h
      simp only[Prod.mk.injEq]at e
      obtain⟨rfl,rfl⟩:=e
      have aK:q≠r:=by rintro rfl;simp at Kk
      have hkj:key j≠[]:=by intro e;have:=rI j;rw[e]at this;simp[aM]at this
      obtain⟨u,av,aA,kn⟩:=hR.abY hz hkj
      have vH:u=u0:=by
       have h4:=jF.2
       simp only[bC,av]at h4
       injection h4
      subst vH
      have gJ:∀ k,aM r k=true->aM q k=false:=by
       intro k hk
       cases hq:aM q k with
       | false=>rfl
       | true=>
        exfalso
        have h1:=Kf hk
        have h2:=Kf hq
        exact aK (PT h1 h2)
      obtain⟨aj,h1,h2,h3,h4,h5,h6,h7,h8⟩:=EZ rI f (j+1) (xs.map (Lf.drop q)) (σ.drop q) eU nH abZ _ ρ a w aA us (dN.rel (A9 hR.tX))
      refine⟨aj,h1,by simp[h2],fun n y hy=>?_,fun k x v hk hv=>h4 _ _ _ hk (hv.rel (A9 hR.tX) (.inl (gJ k hk))),fun x hx=>h5 x ?_,fun k v hk hv=>h6 k v hk (Kj (A9 hR.tX) k v (gJ k hk) hv),fun b hb=>h7 b (aQ.P5 hb (by simpa [aM]using fun e=>aK e.symm)),fun b hb=>h8 b (aQ.Kh hb)⟩
      ·cases n with
       | zero=>
        simp at hy
        subst hy
        exact⟨u,rfl,h4 _ _ _ (rI _) kn⟩
       | succ n=>
        obtain⟨u,e,h⟩:=h3 n y (by simpa using hy)
        exact⟨u,by simpa using e,by rw[show j+(n+1)=j+1+n by omega];exact h⟩
      ·have hb:Nat.beq r q=false:=by
        cases hb:Nat.beq r q with
        | false=>rfl
        | true=>exact absurd (Nat.eq_of_beq_eq_true hb).symm aK
       simp only[S.drop,hb,cond_false,hx,Option.map_some,ax.drop]
    ·cases h
end
end Go.Proofs.YtmffpkippmkjbaaGreatDoor
namespace Go.Proofs.YtmffpkippmkjbaaGreatDoor
open Go.RowKit
set_option linter.unusedVariables false
def gl:Value->Lf
 | .int k n=>.v (.int k n)
 | .bool b=>.v (.bool b)
 | .string s=>.v (.str s)
 | .slice none 0 0=>.v .nil
 | _=>.dead
def zeroV:Value->Option V
 | .int k n=>some (.int k n)
 | .bool b=>some (.bool b)
 | .string s=>some (.str s)
 | .slice none 0 0=>some .nil
 | _=>none
def Ba:List Value->Option (List V)
 | []=>some []
 | v :: vs=>match zeroV v,Ba vs with
  | some x,some xs=>some (x :: xs)
  | _,_=>none
def zeroOf(P:Program)(e:TypeId):Option Value:=(P.info? e).bind (·.zero)
def bytesOf(P:Program)(e:TypeId):Option Nat:=(P.info? e).map (·.bytes)
def fP{X:Type}(N:Nat)(σ:S)(d:Nat)(x:ax)(y:A)(k:S->Option X):Option X:=
 bif Nat.blt d N then k (((σ.drop d).root d x).set d y)else none
def oy{X:Type}(P:Program)(N:Nat)(σ:S)(d:Nat)(e:TypeId)(k:S->Option X):Option X:=
 match zeroOf P e with
 | some z=>fP N σ d (.blk (z.cells.toList.map gl)) (.az d 0) k
 | none=>none
def rJ(P:Program)(t:TypeId):Option (TypeId×TC):=
 match ou P t with
 | none=>none
 | some e=>match PL e,ia P e,bytesOf P e with
  | some tc,some n,some b=>bif Nat.beq n (aq tc)&&Nat.ble b 65536 then some (e,tc)else none
  | _,_,_=>none
def P7(P:Program)(e:TypeId)(tc:TC):Option (T tc):=
 match zeroOf P e with
 | none=>none
 | some z=>match Ba z.cells.toList with
  | none=>none
  | some vs=>dec tc (full tc) vs
def vI{X:Type}(P:Program)(N:Nat)(σ:S)(d:Nat)(t:TypeId)(l c:A)(k:S->Option X):Option X:=
 match rJ P t,l,c with
 | some (e,tc),.lf (.v (.int _ n)),.lf (.v (.int _ c))=>match P7 P e tc with
  | none=>none
  | some z=>if 0<=n/\n<=c/\c<1073741824 then fP N σ d (.sl (.sl tc (full tc+2) false (List.replicate n.toNat z))) (.lf (.own [d])) k else none
 | _,_,_=>none
def V.E0(t:TC):V->Option (List (T t))
 | .sl t' _ _ l=>if h:t'=t then some (h ▸ l)else none
 | .nil=>some []
 | _=>none
def mM{X:Type}(P:Program)(N:Nat)(σ:S)(d:Nat)(t:TypeId)(x y:A)(k:S->Option X):Option X:=
 match rJ P t with
 | some (e,tc)=>bif Nat.beq (full tc) 0&&(zeroOf P e).any (fun z=>Nat.beq z.cells.size (aq tc))then mK σ y fun yv=>(match yv.E0 tc with
  | none=>none
  | some l2=>match x with
   | .lf (.v .nil)=>bif aV l2.length then fP N σ d (.sl (.sl tc 2 false l2)) (.lf (.own [d])) k else none
   | .lf (.own [r])=>(match σ.m r with
    | some (.sl (.sl t' (o+2) q l))=>if h:t'=tc then (bif Nat.blt d N&&(Nat.blt r N || Nat.ble 60000 r)&&aV (l.length+l2.length)then k (((σ.drop r).root r (.sl (.sl tc (o+2) false ((h ▸ l)++l2)))).set d (.lf (.own [r])))else none)else none
    | _=>none)
   | _=>none)else none
 | none=>none
section
variable {P:Program} {w w':World} {w0:Wd} {B N:Nat} {lab aj:aQ} {ρ ρ':Nat->Loc} {σ:S} {a:Act} {X:Type} {d:Nat} {r:X}
theorem E1(v:Value):cg w B lab ρ (gl v) v:=by
 unfold gl
 split
 ·exact⟨rfl,.int _ _ _⟩
 ·exact⟨rfl,.bool _ _⟩
 ·exact⟨rfl,.str _ _⟩
 ·exact⟨rfl,.nil _⟩
 ·trivial
theorem ab0{v:Value}{x:V}(h:zeroV v=some x)(q:List Nat):RV w B lab q x v:=by
 unfold zeroV at h
 split at h <;>first | (injection h with h;subst h;first | exact .int _ _ _ | exact .bool _ _ | exact .str _ _ | exact .nil _) | cases h
theorem P8:∀ (vs:List Value) (xs:List V),Ba vs=some xs->xs.length=vs.length/\∀ (j:Nat) x,xs[j]?=some x->∃ v,vs[j]?=some v/\zeroV v=some x
 | [],xs,h=>by
  simp[Ba]at h
  subst h
  simp
 | v :: vs,xs,h=>by
  unfold Ba at h
  split at h
  ·rename_i y ys hy iV
   injection h with h
   subst h
   obtain⟨h1,h2⟩:=P8 vs ys iV
   refine⟨by simp[h1],fun j x hx=>?_⟩
   cases j with
   | zero=>simp at hx;subst hx;exact⟨v,rfl,hy⟩
   | succ j=>simp at hx;simpa using h2 j x hx
  ·cases h
theorem gv.P9(w0:Wd)(w:World)(o:Obj)(h:w0.heap.size<=w.heap.size):gv w0 w (w.alloc o):=.of ((Below.refl w0.heap.size w).alloc h o) (Nat.le_refl _)
theorem Rl.yE{c:Array Value}{e:TypeId}{x:ax}{ρ':Nat->Loc}(h:Rl w0 N lab ρ σ a w)(hF:w0.F d=none)(av:∀ r,r≠d->ρ' r=ρ r)
  (hx:cX (w.alloc (.cells c e)) w0.heap.size (aX lab w.heap.size (some [d])) ρ' d x):Rl w0 N (aX lab w.heap.size (some [d])) ρ' ((σ.drop d).root d x) a (w.alloc (.cells c e)):=by
 refine h.rH hF (gv.P9 w0 w _ h.below.size) ⟨by simp,fun b hb _=>Below.heap_alloc w _ b hb,fun b hb=>bB _ _ _ (by omega),fun b hb=>(h.bV b [] hb).2.2 rfl⟩ (fun b k hb hk=>?_) av hx
 by_cases e:b=w.heap.size
 ·subst e
  rw[aZ]at hk
  injection hk with hk
  subst hk
  exact⟨by simp,by simp⟩
 ·rw[bB _ _ _ e]at hk
  have:=(h.bV b k hk).2.1
  omega
theorem kV{x:ax}{y:A}{k:S->Option X}(h:fP N σ d x y k=some r):d<N/\k (((σ.drop d).root d x).set d y)=some r:=by
 unfold fP at h
 cases hN:Nat.blt d N with
 | false=>rw[hN]at h;cases h
 | true=>rw[hN]at h;exact⟨by have:=Nat.le_of_ble_eq_true hN;omega,h⟩
theorem ab1{e:TypeId}{k:S->Option X}(h:oy P N σ d e k=some r):∃ af,k af=some r/\∀ lab ρ a w,Rl w0 N lab ρ σ a w->∃ w' aj ρ' v,(Instr.alloc e true (.tuple #[])).run P w = .ok v w'/\Rl w0 N aj ρ' af (a.put (some d) v) w':=by
 unfold oy at h
 split at h
 ·rename_i z hz
  obtain⟨hd,h⟩:=kV h
  refine⟨_,h,fun lab ρ a w hR=>?_⟩
  have aL:(Instr.alloc e true (.tuple #[])).run P w = .ok (.pointer (some ⟨w.heap.size,0,none⟩)) (w.alloc (.cells z.cells e)):=by
   unfold zeroOf at hz
   cases hi:P.info? e with
   | none=>simp[hi]at hz
   | some i=>
    have hz:i.zero=some z:=by simpa [hi]using hz
    simp[Instr.alloc,zeroValue,typeInfo,hi,hz,newVar,newRow]
  refine⟨_,aX lab w.heap.size (some [d]),aX ρ d (.blk w.heap.size 0),_,aL,(hR.yE (hR.dM d (.inl hd)) (fun r hr=>bB _ _ _ hr) ?_).set ⟨w.heap.size,0,aZ _ _ _,rfl⟩ hd⟩
  refine .blk w.heap.size 0 z.cells e _ (fun j=>z.cells.getD j undef) (aZ _ _ _) (aZ _ _ _) (heap_alloc_new w _) (by simp) fun j x hx=>?_
  rw[List.getElem?_map]at hx
  cases hv:z.cells.toList[j]? with
  | none=>rw[hv]at hx;cases hx
  | some v=>
   rw[hv]at hx
   injection hx with hx
   subst hx
   have dh:z.cells[j]?=some v:=by simpa using hv
   have hg:z.cells.getD j undef=v:=by rw[Array.getD_eq_getD_getElem?,dh];rfl
   rw[hg,Nat.zero_add]
   exact⟨dh,E1 v⟩
 ·cases h
theorem vJ{t e:TypeId}{tc:TC}(h:rJ P t=some (e,tc)):P.underlying t=some (.slice e)/\tid tc=e/\∃ i,P.info? e=some i/\i.size=aq tc/\i.bytes<=65536:=by
 unfold rJ at h
 split at h
 ·cases h
 ·rename_i e' he
  split at h
  ·rename_i tc' n b htc hn hb
   cases hc:(Nat.beq n (aq tc')&&Nat.ble b 65536)with
   | false=>rw[hc]at h;cases h
   | true=>
    rw[hc,cond_true]at h
    injection h with h
    injection h with h1 h2
    subst h1 h2
    rw[Bool.and_eq_true]at hc
    refine⟨?_,abD htc,?_⟩
    ·unfold ou at he
     split at he
     ·rename_i e'' hu;injection he with he;subst he;exact hu
     ·cases he
    ·unfold ia at hn
     unfold bytesOf at hb
     cases hi:P.info? e' with
     | none=>simp[hi]at hn
     | some i=>
      simp only[hi,Option.map_some,Option.some.injEq]at hn hb
      refine⟨i,rfl,hn.trans (Nat.eq_of_beq_eq_true hc.1),by rw[hb];exact Nat.le_of_ble_eq_true hc.2⟩
  ·cases h
theorem ab2(z:Array Value)(n i j:Nat)(hz:j<z.size)(h:i*z.size+j<n):(madeCells z n)[i*z.size+j]?=some z[j]:=by
 have hm:(i*z.size+j) % z.size=j:=by rw[Nat.add_comm,Nat.add_mul_mod_self_right,Nat.mod_eq_of_lt hz]
 simp only[madeCells,Array.getElem?_map,Array.getElem?_range,h,if_true,Option.map_some,hm]
 simp[hz]
theorem ab3{t:TypeId}{l c:A}{k:S->Option X}(h:vI P N σ d t l c k=some r):∃ af,k af=some r/\∀ lab ρ a w,Rl w0 N lab ρ σ a w->∀ u v,RA w w0.heap.size lab ρ l u->RA w w0.heap.size lab ρ c v->
  ∃ w' aj ρ' x,(Instr.makeSlice t u v).run P w = .ok x w'/\Rl w0 N aj ρ' af (a.put (some d) x) w':=by
 unfold vI at h
 split at h
 ·rename_i e tc kl n kc c fQ
  split at h
  ·cases h
  ·rename_i z hz
   split at h
   ·rename_i hb
    obtain⟨hd,h⟩:=kV h
    refine⟨_,h,fun lab ρ a w hR u v hu hv=>?_⟩
    obtain rfl:=hu.2.gk
    obtain rfl:=hv.2.gk
    obtain⟨dX,ht,i,hi,hsz,ez⟩:=vJ fQ
    unfold P7 at hz
    split at hz
    ·cases hz
    ·rename_i zv E2
     split at hz
     ·cases hz
     ·rename_i vs eT
      have nI:i.zero=some zv:=by unfold zeroOf at E2;simpa [hi]using E2
      obtain⟨rK,fY⟩:=P8 _ _ eT
      have hk:=jC tc (full tc) vs z hz
      have ee:zv.cells.size=aq tc:=by rw[<-jB tc (full tc) z,<-hk.1,rK];simp
      have oU:(i.bytes:Int)*c<=281474976710656:=by
       have h1:(i.bytes:Int)<=65536:=by omega
       have h2:(i.bytes:Int)*c<=65536*c:=Int.mul_le_mul_of_nonneg_right h1 (by omega)
       omega
      have aL:=run_make (P:=P) w t e i zv dX hi nI kl kc n c hb.1 hb.2.1 oU (by omega)
      rw[hsz,<-ee]at aL
      refine⟨_,aX lab w.heap.size (some [d]),aX ρ d (.cS (.slice (some ⟨w.heap.size,0,none⟩) n.toNat c.toNat)),_,aL,(hR.yE (hR.dM d (.inl hd)) (fun r hr=>bB _ _ _ hr) ?_).set ⟨rfl,?_⟩ hd⟩
      ·refine .sl _ _ (aZ _ _ _) ?_
       have hlen:(List.replicate n.toNat z).length=n.toNat:=by simp
       have:=RV.own (w:=w.alloc (.cells (madeCells zv.cells (c.toNat*zv.cells.size)) e)) (B:=w0.heap.size) (lab:=aX lab w.heap.size (some [d])) [d] tc (full tc) false (List.replicate n.toNat z) w.heap.size c.toNat (madeCells zv.cells (c.toNat*zv.cells.size)) (fun _ j=>zv.cells.getD j undef)
        (aZ _ _ _) (by rw[ht];exact heap_alloc_new w _) (by rw[size_madeCells,ee]) (by rw[hlen];omega) ⟨by unfold maxLen;omega,fun h=>by cases h⟩ (fun i' h' j x hx=>?_) (fun i' h' j x hx=>?_)
       ·rw[hlen]at this
        exact this
       ·rw[List.getElem_replicate]at hx
        have hj:j<aq tc:=by have:=(List.getElem?_eq_some_iff.1 hx).1;rwa [jB]at this
        rw[hlen]at h'
        rw[<-ee]at hj
        rw[<-ee,ab2 zv.cells _ i' j hj (by
         have:(i'+1)*zv.cells.size<=c.toNat*zv.cells.size:=Nat.mul_le_mul_right _ (by omega)
         rw[Nat.succ_mul]at this
         omega)]
        simp[Array.getD_eq_getD_getElem?,hj]
       ·rw[List.getElem_replicate]at hx
        have hj:j<(enc tc (full tc) z).length:=(List.getElem?_eq_some_iff.1 hx).1
        rw[<-hk.1]at hj
        have hy:=List.getElem?_eq_getElem hj
        generalize vs[j]=y at hy
        obtain⟨v,hv,ab4⟩:=fY j y hy
        have dh:zv.cells[j]?=some v:=by simpa using hv
        have hg:zv.cells.getD j undef=v:=by rw[Array.getD_eq_getD_getElem?,dh];rfl
        rw[hg]
        exact(ab0 ab4 _).wk (hk.2 j y x hy hx)
      ·simp[bC,aZ]
   ·cases h
 ·cases h
end
end Go.Proofs.YtmffpkippmkjbaaGreatDoor
namespace Go.Proofs.YtmffpkippmkjbaaGreatDoor
open Go.RowKit
set_option linter.unusedVariables false
section
variable {P:Program} {w w':World} {w0:Wd} {B N:Nat} {lab aj:aQ} {ρ ρ':Nat->Loc} {σ:S} {a:Act} {X:Type} {d:Nat} {r:X}
theorem Kl(t:TC)(h:full t=0)(o o':Nat)(x:T t):enc t o x=enc t o' x:=by
 have key:∀ o,enc t o x=enc t 0 x:=by
  intro o
  rw[PM t o x]
  have:=AV t o x h
  conv=>lhs;rw[<-List.map_id (enc t o x)]
  apply List.map_congr_left
  intro y hy
  have hp:=this y hy
  cases y <;>first | rfl | cases hp
 rw[key o,key o']
def rL(u:Nat->Nat->Value)(n s:Nat):List Value:=(List.range (n*s)).map fun k=>u (k / s) (k % s)
theorem Qa(u:Nat->Nat->Value)(n s i j:Nat)(hi:i<n)(hj:j<s):(rL u n s)[i*s+j]?=some (u i j):=by
 have bU:i*s+j<n*s:=by
  have:(i+1)*s<=n*s:=Nat.mul_le_mul_right _ hi
  rw[Nat.succ_mul]at this
  omega
 have hd:(i*s+j) / s=i:=by rw[Nat.add_comm,Nat.add_mul_div_right _ _ (by omega),Nat.div_eq_of_lt hj,Nat.zero_add]
 have hm:(i*s+j) % s=j:=by rw[Nat.add_comm,Nat.add_mul_mod_self_right,Nat.mod_eq_of_lt hj]
 simp[rL,bU,hd,hm]
theorem E3(u:Nat->Nat->Value)(n s k:Nat)(v:Value)(hs:0<s)(h:(rL u n s)[k]?=some v):∃ i j,k=i*s+j/\i<n/\j<s/\v=u i j:=by
 have hk:k<n*s:=by
  have:=(List.getElem?_eq_some_iff.1 h).1
  simpa [rL]using this
 refine⟨k / s,k % s,by rw[Nat.mul_comm];exact(Nat.div_add_mod k s).symm,Nat.div_lt_of_lt_mul (by rw[Nat.mul_comm];exact hk),Nat.mod_lt _ hs,?_⟩
 simp only[rL,List.getElem?_map,List.getElem?_range hk,Option.map_some,Option.some.injEq]at h
 exact h.symm
theorem Bb(t:TC)(o:Nat)(x:T t)(j:Nat)(hj:j<aq t):∃ y,(enc t o x)[j]?=some y:=⟨_,List.getElem?_eq_getElem (by rw[jB];exact hj)⟩
def rM(t:TC)(l:List (T t))(vs:List Value):Prop:=
 ∀ i (hi:i<l.length) (o j:Nat) x,(enc t o l[i])[j]?=some x->∃ v,vs[i*aq t+j]?=some v/\v.oneCell'=true/\∀ (w':World) (B':Nat) (aj:aQ) (q':List Nat),RV w' B' aj q' x v
theorem RV.reads{q:List Nat}{t:TC}{g:Nat}{qn:Bool}{l:List (T t)}{u:Value}(h:RV w B lab q (.sl t g qn l) u)(hf:full t=0):
  ∃ A c news,u = .slice A l.length c/\Reads w w.heap.size (aq t) A l.length news/\(∀ v∈news,v.oneCell'=true)/\rM t l news:=by
 cases h with
 | bO=>exact⟨none,0,[],rfl,Reads.none_,by simp,fun i hi=>by simp at hi⟩
 | bY=>exact⟨_,_,[],rfl,⟨by simp,fun h=>by simp at h⟩,by simp,fun i hi=>by simp at hi⟩
 | cy=>exact⟨_,_,[],rfl,⟨by simp,fun h=>by simp at h⟩,by simp,fun i hi=>by simp at hi⟩
 | ah _ _ _ _ _ b off cap us ho hl hb h1 hcap hc hr=>
  have iL:∀ i (hi:i<l.length) j,j<aq t->(us i j).oneCell'=true:=by
   intro i hi j hj
   obtain⟨y,hy⟩:=Bb t g l[i] j hj
   exact(hr i hi j y hy).one
  refine⟨_,cap,rL us l.length (aq t),rfl,⟨by simp[rL],fun hn=>⟨b,off,rfl,hb,fun k v hv=>?_⟩⟩,fun v hv=>?_,fun i hi o j x hx=>?_⟩
  ·obtain⟨i,j,rfl,hi,hj,rfl⟩:=E3 us _ _ k v (nA t) hv
   obtain⟨y,hy⟩:=Bb t g l[i] j hj
   exact hc i hi j y hy
  ·obtain⟨k,hk⟩:=List.mem_iff_getElem?.1 hv
   obtain⟨i,j,rfl,hi,hj,rfl⟩:=E3 us _ _ k v (nA t) hk
   exact iL i hi j hj
  ·have hj:j<aq t:=by have:=(List.getElem?_eq_some_iff.1 hx).1;rwa [jB]at this
   rw[Kl t hf o g]at hx
   refine⟨us i j,Qa us _ _ i j hi hj,iL i hi j hj,fun w' B' aj q'=>(hr i hi j x hx).tV (AV t g l[i] hf x (List.mem_of_getElem? hx))⟩
 | own _ _ o _ _ b cap cs us hl hh hs hn hm hc hr=>
  have iL:∀ i (hi:i<l.length) j,j<aq t->(us i j).oneCell'=true:=by
   intro i hi j hj
   obtain⟨y,hy⟩:=Bb t o l[i] j hj
   exact(hr i hi j y hy).one
  refine⟨_,cap,rL us l.length (aq t),rfl,⟨by simp[rL],fun hn=>⟨b,0,rfl,(Array.getElem?_eq_some_iff.1 hh).1,fun k v hv=>?_⟩⟩,fun v hv=>?_,fun i hi o' j x hx=>?_⟩
  ·obtain⟨i,j,rfl,hi,hj,rfl⟩:=E3 us _ _ k v (nA t) hv
   obtain⟨y,hy⟩:=Bb t o l[i] j hj
   rw[Nat.zero_add,cell_of_row w b _ cs _ _ hh]
   exact hc i hi j y hy
  ·obtain⟨k,hk⟩:=List.mem_iff_getElem?.1 hv
   obtain⟨i,j,rfl,hi,hj,rfl⟩:=E3 us _ _ k v (nA t) hk
   exact iL i hi j hj
  ·have hj:j<aq t:=by have:=(List.getElem?_eq_some_iff.1 hx).1;rwa [jB]at this
   rw[Kl t hf o' o]at hx
   refine⟨us i j,Qa us _ _ i j hi hj,iL i hi j hj,fun w' B' aj q'=>(hr i hi j x hx).tV (AV t o l[i] hf x (List.mem_of_getElem? hx))⟩
theorem RV.Km{q:List Nat}{t:TC}{o:Nat}{qn:Bool}{l:List (T t)}{u:Value}(h:RV w B lab q (.sl t (o+2) qn l) u)(hf:full t=0){B':Nat}(hB:∀ b,lab b=some q->B'<=b):
  ∃ xs,w.ownsRow B' (tid t) (aq t) u l.length xs/\(∀ b,u.ownBlock=some b->lab b=some q)/\(qn=true->u.ownBlock≠none)/\rM t l xs:=by
 cases h with
 | bY=>omega
 | cy=>omega
 | bO=>exact⟨[],⟨by simp,.inl ⟨rfl,rfl⟩⟩,by simp[Value.ownBlock],by simp,fun i hi=>by simp at hi⟩
 | ah _ _ _ _ _ _ _ _ _ ho=>omega
 | own _ _ _ _ _ b cap cs us hl hh hs hn hm hc hr=>
  refine⟨cs.toList.take (l.length*aq t),⟨?_,.inr ⟨b,cap,cs,rfl,hB b hl,hh,hn,hm.1,hs,rfl⟩⟩,fun b' iU=>?_,fun _=>by simp[Value.ownBlock],fun i hi o' j x hx=>?_⟩
  ·have dn:cs.toList.length=cap*aq t:=by rw[<-hs];simp
   rw[List.length_take,dn]
   have:=Nat.mul_le_mul_right (aq t) hn
   omega
  ·have:b=b':=by simpa [Value.ownBlock]using iU
   subst this
   exact hl
  ·have hj:j<aq t:=by have:=(List.getElem?_eq_some_iff.1 hx).1;rwa [jB]at this
   have bU:i*aq t+j<l.length*aq t:=by
    have:(i+1)*aq t<=l.length*aq t:=Nat.mul_le_mul_right _ hi
    rw[Nat.succ_mul]at this
    omega
   rw[Kl t hf o' o]at hx
   refine⟨us i j,?_,(hr i hi j x hx).one,fun w' B' aj q'=>(hr i hi j x hx).tV (AV t o l[i] hf x (List.mem_of_getElem? hx))⟩
   rw[List.getElem?_take,if_pos bU,Array.getElem?_toList]
   exact hc i hi j x hx
theorem rM.append{t:TC}{l l2:List (T t)}{xs ys:List Value}(h:rM t l xs)(h2:rM t l2 ys)(hl:xs.length=l.length*aq t):rM t (l++l2) (xs++ys):=by
 intro i hi o j x hx
 have hj:j<aq t:=by have:=(List.getElem?_eq_some_iff.1 hx).1;rwa [jB]at this
 by_cases bU:i<l.length
 ·rw[List.getElem_append_left bU]at hx
  obtain⟨v,hv,r⟩:=h i bU o j x hx
  refine⟨v,?_,r⟩
  rw[List.getElem?_append_left (List.getElem?_eq_some_iff.1 hv).1]
  exact hv
 ·rw[List.getElem_append_right (by omega)]at hx
  have Kn:i-l.length<l2.length:=by rw[List.length_append]at hi;omega
  obtain⟨v,hv,r⟩:=h2 (i-l.length) Kn o j x hx
  refine⟨v,?_,r⟩
  have e:i*aq t+j=xs.length+((i-l.length)*aq t+j):=by
   rw[hl,Nat.sub_mul]
   have:l.length*aq t<=i*aq t:=Nat.mul_le_mul_right _ (by omega)
   omega
  rw[e,List.getElem?_append_right (by omega),Nat.add_sub_cancel_left]
  exact hv
theorem Bc{q:List Nat}{t:TC}{o:Nat}{l:List (T t)}{u:Value}{xs:List Value}{B':Nat}(h:w.ownsRow B' (tid t) (aq t) u l.length xs)(he:rM t l xs)(hl:∀ b,u.ownBlock=some b->lab b=some q):
  RV w B lab q (.sl t (o+2) false l) u:=by
 rcases h.2 with ⟨rfl,h0⟩ | ⟨b,cap,cs,rfl,hB,hh,hn,hm,hs,ht⟩
 ·have:l=[]:=List.eq_nil_of_length_eq_zero h0
  subst this
  exact .bO _ _ _
 ·have gI:∀ i (hi:i<l.length) j x,(enc t o l[i])[j]?=some x->∃ v,cs[i*aq t+j]?=some v/\∀ (w':World) (B':Nat) (aj:aQ) (q':List Nat),RV w' B' aj q' x v:=by
   intro i hi j x hx
   obtain⟨v,hv,_,r⟩:=he i hi o j x hx
   refine⟨v,?_,r⟩
   rw[<-ht,List.getElem?_take]at hv
   split at hv
   ·rw[Array.getElem?_toList]at hv;exact hv
   ·cases hv
  refine .own q t o false l b cap cs (fun i j=>(cs[i*aq t+j]?).getD undef) (hl b rfl) hh hs hn ⟨hm,fun h=>by cases h⟩ (fun i hi j x hx=>?_) (fun i hi j x hx=>?_)
  ·obtain⟨v,hv,_⟩:=gI i hi j x hx
   rw[hv];rfl
  ·obtain⟨v,hv,r⟩:=gI i hi j x hx
   rw[hv];exact r _ _ _ _
theorem Rl.append{t e ty:TypeId}{tc:TC}{i:TypeInfo}{z:Value}{rr o g:Nat}{q qn:Bool}{l l2:List (T tc)}{u v:Value}{q':List Nat}{Bx:Nat}{Ko:aQ}(h:Rl w0 N lab ρ σ a w)(hF:w0.F rr=none)(dX:P.underlying t=some (.slice e))(ht:tid tc=e)(hi:P.info? e=some i)(hz:i.zero=some z)
  (hsz:i.size=aq tc) (ez:i.bytes<=65536) (ee:z.cells.size=aq tc) (hf:full tc=0) (hd:RV w w0.heap.size lab [rr] (.sl tc (o+2) q l) u) (hs:RV w Bx Ko q' (.sl tc g qn l2) v) (hlen:l.length+l2.length<1073741824):
  ∃ v' w' aj,(Builtin.append_ #[t,t] ty #[u,v]).run P w = .ok v' w'/\Rl w0 N aj (aX ρ rr (.cS v')) ((σ.drop rr).root rr (.sl (.sl tc (o+2) false (l++l2)))) a w'/\iT v'=true:=by
 subst ht
 obtain⟨xs,eD,mN,yF,ku⟩:=hd.Km hf (B':=0) (fun b _=>Nat.zero_le b)
 obtain⟨A,c,news,rfl,rN,iL,vL⟩:=hs.reads hf
 have eK:(l.length+l2.length)*i.bytes<=140737488355328:=by
  have h1:(l.length+l2.length)*i.bytes<=1073741824*65536:=Nat.mul_le_mul (by omega) ez
  omega
 obtain⟨v',w',aL,iX,gK,gm⟩:=Ey (P:=P) w 0 t ty (tid tc) i z (aq tc) i.bytes dX hi hz hsz rfl ee (nA tc) u l.length xs eD _ A l2.length c news rN iL (by unfold maxLen;omega) eK (Nat.zero_le _)
 have rO:(l++l2).length=l.length+l2.length:=List.length_append
 rw[<-rO]at iX
 have qk:=ku.append vL eD.1
 have fD:iT v'=true:=by rcases iX.2 with ⟨rfl,_⟩ | ⟨_,_,_,rfl,_⟩ <;>rfl
 have jl:Below 0 w w':=(Below.refl 0 w).grown gK (Nat.zero_le _) (fun _ _=>Nat.zero_le _)
 have ep:gv w0 w w':=⟨jl.os,jl.tape,jl.output,jl.size,fun k hk hL=>gK.block k (Nat.lt_of_lt_of_le hk h.below.size) (fun e'=>by
  rcases(h.bV k _ (mN k e'.symm)).1 with h1 | h1
  ·exact absurd hk (Nat.not_lt.2 h1)
  ·exact h1 hL)⟩
 by_cases jG:v'.ownBlock=some w.heap.size
 ·have bU:w.heap.size<w'.heap.size:=by
   rcases iX.2 with ⟨rfl,_⟩ | ⟨b,cap,cs,rfl,_,hh,_⟩
   ·cases jG
   ·have:b=w.heap.size:=by simpa [Value.ownBlock]using jG
    subst this
    exact(Array.getElem?_eq_some_iff.1 hh).1
  refine⟨v',w',aX lab w.heap.size (some [rr]),aL,h.rH hF ep ⟨gK.size,fun b hb aK=>gK.block b hb (fun e'=>aK (mN b e'.symm)),fun b hb=>bB _ _ _ (by omega),fun b hb=>(h.bV b [] hb).2.2 rfl⟩ (fun b k hb hk=>?_) (fun r hr=>bB _ _ _ hr) (.sl v' _ (aZ _ _ _) (Bc iX qk (fun b hb=>?_))),fD⟩
  ·by_cases e:b=w.heap.size
   ·subst e
    rw[aZ]at hk
    injection hk with hk
    subst hk
    exact⟨bU,by simp⟩
   ·rw[bB _ _ _ e]at hk
    have:=(h.bV b k hk).2.1
    omega
  ·rw[jG]at hb
   injection hb with hb
   subst hb
   exact aZ _ _ _
 ·have Bd:v'.ownBlock=u.ownBlock:=by
   rcases gm with gm | gm
   ·exact gm
   ·exact absurd gm jG
  refine⟨v',w',lab,aL,h.rH hF ep ⟨gK.size,fun b hb aK=>gK.block b hb (fun e'=>aK (mN b e'.symm)),fun _ _=>rfl,fun b hb=>(h.bV b [] hb).2.2 rfl⟩ (fun b k hb hk=>?_) (fun r hr=>bB _ _ _ hr) (.sl v' _ (aZ _ _ _) (Bc iX qk (fun b hb=>mN b (by rw[<-Bd];exact hb)))),fD⟩
  have:=(h.bV b k hk).2.1
  omega
theorem Kp{t:TC}{x:V}{l:List (T t)}(h:x.E0 t=some l){q:List Nat}{u:Value}(hu:RV w B lab q x u):∃ g qn,RV w B lab q (.sl t g qn l) u:=by
 unfold V.E0 at h
 split at h
 ·rename_i t' g qn l'
  split at h
  ·rename_i ht
   subst ht
   injection h with h
   subst h
   exact⟨g,qn,hu⟩
  ·cases h
 ·injection h with h
  subst h
  cases hu
  exact⟨0,false,.bO _ _ _⟩
 ·cases h
theorem Kq{x:Lf}{k:V->Option X}(h:fE σ x k=some r):∃ y,(∀ lab ρ a w,Rl w0 N lab ρ σ a w->∀ u,cg w w0.heap.size lab ρ x u->∃ q,RV w w0.heap.size lab q y u)/\k y=some r:=by
 cases x with
 | v z=>exact⟨z,fun lab ρ a w _ u hu=>⟨[],hu.2⟩,h⟩
 | dead=>cases h
 | own q=>
  obtain⟨z,hz,h⟩:=oq q _ h
  refine⟨z,fun lab ρ a w hR u hu=>?_,h⟩
  obtain⟨v,hv,hr⟩:=hz.ok hR.root
  have h3:=hu.2
  rw[hv]at h3
  injection h3 with h3
  subst h3
  exact⟨q,hr⟩
theorem Qb{y:A}{k:V->Option X}(h:mK σ y k=some r):∃ z,(∀ lab ρ a w,Rl w0 N lab ρ σ a w->∀ u,RA w w0.heap.size lab ρ y u->∃ q B' aj,RV w B' aj q z u)/\k z=some r:=by
 unfold mK at h
 split at h
 ·obtain⟨z,hz,h2⟩:=Kq (w0:=w0) (N:=N) h
  exact⟨z,fun lab ρ a w hR u hu=>let ⟨q,hq⟩:=hz lab ρ a w hR u hu;⟨q,_,_,hq⟩,h2⟩
 ·obtain⟨z,h2,_,hz⟩:=PW h
  exact⟨z,fun lab ρ a w hR u hu=>⟨[],0,_,hz _ _ _ _ _ _ hR u hu 0⟩,h2⟩
 ·cases h
theorem ab5{t ty:TypeId}{x y:A}{k:S->Option X}(h:mM P N σ d t x y k=some r):∃ af,k af=some r/\∀ lab ρ a w,Rl w0 N lab ρ σ a w->∀ u v,RA w w0.heap.size lab ρ x u->RA w w0.heap.size lab ρ y v->
  ∃ w' aj ρ' z,(Builtin.append_ #[t,t] ty #[u,v]).run P w = .ok z w'/\Rl w0 N aj ρ' af (a.put (some d) z) w':=by
 unfold mM at h
 split at h
 ·rename_i e tc fQ
  obtain⟨dX,ht,i,hi,hsz,ez⟩:=vJ fQ
  cases hc:(Nat.beq (full tc) 0&&(zeroOf P e).any (fun z=>Nat.beq z.cells.size (aq tc)))with
  | false=>rw[hc]at h;cases h
  | true=>
   rw[hc,cond_true]at h
   rw[Bool.and_eq_true]at hc
   have hf:=Nat.eq_of_beq_eq_true hc.1
   obtain⟨z,hz,ee⟩:=(Option.any_eq_true _ _).1 hc.2
   have ee:=Nat.eq_of_beq_eq_true ee
   have nI:i.zero=some z:=by unfold zeroOf at hz;simpa [hi]using hz
   obtain⟨yv,E4,h2⟩:=Qb (w0:=w0) (N:=N) h
   clear h
   split at h2
   ·cases h2
   ·rename_i l2 fY
    split at h2
    ·cases hL:aV l2.length with
     | false=>rw[hL]at h2;cases h2
     | true=>
      rw[hL,cond_true]at h2
      have hL:l2.length<1073741824:=by simpa [aV]using hL
      obtain⟨hd,h3⟩:=kV h2
      refine⟨_,h3,fun lab ρ a w hR u v hu hv=>?_⟩
      have hu:u = .slice none 0 0:=by cases hu.2;rfl
      subst hu
      obtain⟨q',_,_,dh⟩:=E4 lab ρ a w hR v hv
      obtain⟨g,qn,dh⟩:=Kp fY dh
      obtain⟨v',w',aj,aL,aA,fD⟩:=hR.append (ty:=ty) (rr:=d) (o:=0) (q:=false) (l:=[]) (hR.dM d (.inl hd)) dX ht hi nI hsz ez ee hf (.bO _ _ _) dh (by simpa using hL)
      exact⟨w',aj,_,v',aL,aA.set ⟨fD,by simp[bC,aZ]⟩ hd⟩
    ·rename_i rr
     split at h2
     ·rename_i t' o q l hm
      split at h2
      ·rename_i eL
       subst eL
       cases hL:(Nat.blt d N&&(Nat.blt rr N || Nat.ble 60000 rr)&&aV (l.length+l2.length))with
       | false=>rw[hL]at h2;cases h2
       | true=>
        rw[hL,cond_true]at h2
        rw[Bool.and_eq_true,Bool.and_eq_true,Bool.or_eq_true]at hL
        have tY:l.length+l2.length<1073741824:=by simpa [aV]using hL.2
        have hd:d<N:=by have:=Nat.le_of_ble_eq_true hL.1.1;omega
        have ji:rr<N\/60000<=rr:=hL.1.2.imp (fun h=>by have:=Nat.le_of_ble_eq_true h;omega) (fun h=>Nat.le_of_ble_eq_true h)
        refine⟨_,h2,fun lab ρ a w hR u v hu hv=>?_⟩
        obtain⟨q',_,_,dh⟩:=E4 lab ρ a w hR v hv
        obtain⟨g,qn,dh⟩:=Kp fY dh
        have bZ:=hR.root rr _ hm
        generalize he:ax.sl (.sl t' (o+2) q l)=x at bZ
        cases bZ with
        | blk=>cases he
        | mp=>cases he
        | gh=>cases he
        | sl uu y av hr=>
         injection he with he
         subst he
         have vH:uu=u:=by
          have h4:=hu.2
          simp only[bC,av]at h4
          injection h4
         subst vH
         obtain⟨v',w',aj,aL,aA,fD⟩:=hR.append (ty:=ty) (hR.dM rr ji) dX ht hi nI hsz ez ee hf hr dh tY
         exact⟨w',aj,_,v',aL,aA.set ⟨fD,by simp[bC,aZ]⟩ hd⟩
      ·cases h2
     ·cases h2
    ·cases h2
 ·cases h
end
end Go.Proofs.YtmffpkippmkjbaaGreatDoor
namespace Go.Proofs.YtmffpkippmkjbaaGreatDoor
open Go.RowKit
set_option linter.unusedVariables false
def tZ(place:Nat->Option (Nat×Nat))(cells:List Lf):List (Nat×A)->Option (List Lf)
 | []=>some cells
 | (i,x) :: rest=>match place i,x.tW with
  | some (off,n),some xs=>if xs.length=n/\off+n<=cells.length then (bif xs.all Lf.live then tZ place (dZ cells off xs) rest else none)else none
  | _,_=>none
def places(P:Program)(t:TypeId):Option (Nat->Option (Nat×Nat)):=
 match P.underlying t with
 | some (.array _ e)=>(P.info? e).map fun ie=>fun i=>some (i*ie.size,ie.size)
 | some (.struct fields)=>(fields.toList.mapM (fun f=>(P.info? f.type).map fun i=>(f.offset,i.size))).map fun ps=>(ps.toArray[·]?)
 | _=>none
def ql{X:Type}(P:Program)(σ:S)(t:TypeId)(parts:List (Nat×Operand))(k:A->Option X):Option X:=
 match zeroOf P t,places P t with
 | some z,some pl=>match tZ pl (z.cells.toList.map gl) (parts.map fun p=>(p.1,ak σ p.2))with
  | some cs=>k (.agg cs)
  | none=>none
 | _,_=>none
def Lf.asV:Lf->Option V
 | .v x=>some x
 | _=>none
def qm:List Lf->Option (List V)
 | []=>some []
 | x :: xs=>match x.asV,qm xs with
  | some y,some ys=>some (y :: ys)
  | _,_=>none
def Be(t:TC)(g:Nat):Nat->List V->Option (List (T t))
 | 0,[]=>some []
 | 0,_=>none
 | n+1,vs=>match dec t g (vs.take (aq t)),Be t g n (vs.drop (aq t))with
  | some x,some xs=>some (x :: xs)
  | _,_=>none
def vM{X:Type}(P:Program)(N:Nat)(σ:S)(d:Nat)(t:TypeId)(len:Nat)(parts:List (Nat×Operand))(k:S->Option X):Option X:=
 match rJ P t with
 | some (e,tc)=>match zeroOf P e with
  | some z=>bif Nat.beq (full tc) 0&&Nat.beq z.cells.size (aq tc)&&Nat.blt (len*aq tc) 16777217 then (match tZ (fun i=>some (i*aq tc,aq tc)) (List.replicate len (z.cells.toList.map gl)).flatten (parts.map fun p=>(p.1,ak σ p.2))with
   | some cs=>(match qm cs with
    | some vs=>(match Be tc 0 len vs with
     | some l=>fP N σ d (.sl (.sl tc 2 true l)) (.lf (.own [d])) k
     | none=>none)
    | none=>none)
   | none=>none)else none
  | none=>none
 | none=>none
section
variable {P:Program} {w w':World} {w0:Wd} {B N:Nat} {lab aj:aQ} {ρ ρ':Nat->Loc} {σ:S} {a:Act} {X:Type} {d:Nat} {r:X}
theorem Qc(off:Nat):∀ (l:List Value) (n:Nat) (cs:Array Value),off+n+l.length<=cs.size->
  ((l.zipIdx n).foldl (fun(cs:Array Value) (p:Value×Nat)=>cs.setIfInBounds (off+p.2) p.1) cs).toList=dZ cs.toList (off+n) l
 | [],n,cs,_=>by simp[dZ]
 | v :: l,n,cs,h=>by
  simp only[List.length_cons]at h
  rw[List.zipIdx_cons,List.foldl_cons,Qc off l (n+1) (cs.setIfInBounds (off+n) v) (by simp;omega)]
  have bU:off+n<cs.toList.length:=by simp;omega
  simp only[dZ,Array.toList_setIfInBounds,List.length_cons]
  have e1:(cs.toList.set (off+n) v).take (off+(n+1))=cs.toList.take (off+n)++[v]:=by
   rw[show off+(n+1)=off+n+1 by omega,List.take_succ_eq_append_getElem (by simpa using bU),List.getElem_set_self,List.take_set_of_le (Nat.le_refl _)]
  have e2:(cs.toList.set (off+n) v).drop (off+(n+1)+l.length)=cs.toList.drop (off+(n+1)+l.length):=by
   rw[List.drop_set_of_lt (by omega)]
  rw[e1,e2,show off+n+(l.length+1)=off+(n+1)+l.length by omega]
  simp
theorem cG.dZ{cs xs:List Lf}{cv xv:Array Value}(h:cG w B lab ρ cs cv)(hx:cG w B lab ρ xs xv){off:Nat}(hf:off+xs.length<=cs.length){eC:Array Value}(hc:eC.toList=Proofs.YtmffpkippmkjbaaGreatDoor.dZ cv.toList off xv.toList):cG w B lab ρ (Proofs.YtmffpkippmkjbaaGreatDoor.dZ cs off xs) eC:=by
 have Qd:off+xv.toList.length<=cv.toList.length:=by rw[Array.length_toList,Array.length_toList,hx.1,h.1];exact hf
 refine⟨?_,fun j x hj=>?_⟩
 ·rw[vA _ _ _ hf,<-Array.length_toList,hc,vA _ _ _ Qd,Array.length_toList,h.1]
 ·have e:eC[j]?=(Proofs.YtmffpkippmkjbaaGreatDoor.dZ cv.toList off xv.toList)[j]?:=by rw[<-hc,Array.getElem?_toList]
  rw[e,vB _ _ _ Qd,Array.length_toList,hx.1]
  rw[vB _ _ _ hf]at hj
  by_cases h1:j<off
  ·simp only[h1,if_true,Array.getElem?_toList]at hj ⊢
   exact h.2 j x hj
  ·by_cases h2:j<off+xs.length
   ·simp only[h1,h2,if_true,if_false,Array.getElem?_toList]at hj ⊢
    exact hx.2 _ x hj
   ·simp only[h1,h2,if_false,Array.getElem?_toList]at hj ⊢
    exact h.2 j x hj
theorem E5{place:Nat->Option (Nat×Nat)}:∀ (parts:List (Nat×A)) (cells:List Lf) (cv:Array Value) (vs:List (Nat×Value)) (out:List Lf),tZ place cells parts=some out->cG w B lab ρ cells cv->vs.length=parts.length->
  (∀ (j:Nat) p q,parts[j]?=some p->vs[j]?=some q->p.1=q.1/\RA w B lab ρ p.2 q.2)->∃ eC,Instr.fill place cv vs=some eC/\cG w B lab ρ out eC
 | [],cells,cv,vs,out,h,hR,hl,hp=>by
  have:vs=[]:=List.eq_nil_of_length_eq_zero hl
  subst this
  injection h with h
  subst h
  exact⟨cv,rfl,hR⟩
 | (i,x) :: rest,cells,cv,vs,out,h,hR,hl,hp=>by
  cases vs with
  | nil=>simp at hl
  | cons v vs=>
   obtain⟨i',v⟩:=v
   obtain⟨e,hx⟩:=hp 0 _ _ rfl rfl
   simp only at e hx
   subst e
   unfold tZ at h
   split at h
   ·rename_i off n xs gH eS
    split at h
    ·rename_i hb
     cases gA:xs.all Lf.live with
     | false=>rw[gA]at h;cases h
     | true=>
      rw[gA,cond_true]at h
      obtain⟨Qe,_⟩:=A7 eS gA hx
      have oY:v.cells.size=n:=by rw[Qe.1];exact hb.1
      have hJ:¬ (off+v.cells.size > cv.size):=by rw[oY,hR.1];omega
      have ab6:(v.cells.zipIdx.foldl (fun(cs:Array Value) (p:Value×Nat)=>cs.setIfInBounds (off+p.2) p.1) cv).toList=Proofs.YtmffpkippmkjbaaGreatDoor.dZ cv.toList off v.cells.toList:=by
       have:=Qc off v.cells.toList 0 cv (by rw[Array.length_toList];omega)
       rw[<-Array.foldl_toList,Array.toList_zipIdx]
       exact this
      have rA:=hR.dZ Qe (off:=off) (by rw[hb.1];exact hb.2) ab6
      obtain⟨eC,mL,aA⟩:=E5 rest _ _ vs out h rA (by simpa using hl) (fun j p q xL jh=>hp (j+1) p q (by simpa using xL) (by simpa using jh))
      refine⟨eC,?_,aA⟩
      have aK:(v.cells.size≠n || off+v.cells.size > cv.size)=false:=by
       simp only[oY,ne_eq,not_true_eq_false,decide_false,Bool.false_or,decide_eq_false_iff_not]
       rw[<-oY]
       exact hJ
      simp only[Instr.fill,gH]
      rw[if_neg (by rw[aK];simp)]
      exact mL
    ·cases h
   ·cases h
theorem ab7(z:Value):cG w B lab ρ (z.cells.toList.map gl) z.cells:=by
 refine⟨by simp,fun j x hx=>?_⟩
 rw[List.getElem?_map]at hx
 cases hv:z.cells.toList[j]? with
 | none=>rw[hv]at hx;cases hx
 | some v=>
  rw[hv]at hx
  injection hx with hx
  subst hx
  exact⟨v,by simpa using hv,E1 v⟩
theorem ab8{t:TypeId}{parts:Array (Nat×Operand)}{k:A->Option X}(h:ql P σ t parts.toList k=some r):∃ y,k y=some r/\∀ lab ρ a w,Rl w0 N lab ρ σ a w->
  ∃ v,(Instr.build t (parts.map fun(i,x)=>(i,a.eval x))).run P w = .ok v w/\RA w w0.heap.size lab ρ y v:=by
 unfold ql at h
 split at h
 ·rename_i z pl hz gH
  split at h
  ·rename_i cs cC
   refine⟨_,h,fun lab ρ a w hR=>?_⟩
   obtain⟨eC,hf,aA⟩:=E5 (w:=w) (B:=w0.heap.size) (lab:=lab) (ρ:=ρ) _ _ z.cells (parts.toList.map fun p=>(p.1,a.eval p.2)) cs cC (ab7 z) (by simp) (fun j p q hp hq=>by
    rw[List.getElem?_map]at hp hq
    cases hx:parts.toList[j]? with
    | none=>rw[hx]at hp;cases hp
    | some x=>
     rw[hx]at hp hq
     injection hp with hp
     injection hq with hq
     subst hp hq
     exact⟨rfl,hR.ak x.2⟩)
   refine⟨_,run_build (P:=P) w t _ eC ?_,eC,rfl,aA⟩
   have Bf:(parts.map fun(i,x)=>(i,a.eval x)).toList=parts.toList.map fun p=>(p.1,a.eval p.2):=by simp
   rw[Bf]
   unfold zeroOf at hz
   unfold Program.built
   cases hi:P.info? t with
   | none=>simp[hi]at hz
   | some i=>
    have hz:i.zero=some z:=by simpa [hi]using hz
    unfold places at gH
    split at gH
    ·rename_i n e hu
     cases Kr:P.info? e with
     | none=>simp[Kr]at gH
     | some ie=>
      rw[Kr]at gH
      injection gH with gH
      subst gH
      simp only[hu,hz,Kr]
      exact hf
    ·rename_i fields hu
     cases hp:fields.toList.mapM (fun f=>(P.info? f.type).map fun i=>(f.offset,i.size))with
     | none=>rw[hp]at gH;cases gH
     | some ps=>
      rw[hp]at gH
      injection gH with gH
      subst gH
      simp only[hu,hz,hp]
      exact hf
    ·cases gH
  ·cases h
 ·cases h
theorem E6:∀ (cs:List Lf) (vs:List V),qm cs=some vs->cs=vs.map .v
 | [],vs,h=>by injection h with h;subst h;rfl
 | x :: xs,vs,h=>by
  unfold qm at h
  split at h
  ·rename_i y ys hy iV
   injection h with h
   subst h
   rw[E6 xs ys iV,List.map_cons]
   cases x <;>first | (injection hy with hy;rw[hy]) | cases hy
  ·cases h
theorem Ks(t:TC)(g:Nat):∀ (n:Nat) (vs:List V) (l:List (T t)),Be t g n vs=some l->l.length=n/\vs.length=n*aq t/\∀ i (hi:i<l.length) (j:Nat) x,(enc t g l[i])[j]?=some x->∃ y,vs[i*aq t+j]?=some y/\Wk y x
 | 0,[],l,h=>by
  injection h with h
  subst h
  exact⟨rfl,by simp,fun i hi=>by simp at hi⟩
 | 0,_ :: _,l,h=>by cases h
 | n+1,vs,l,h=>by
  unfold Be at h
  split at h
  ·rename_i x xs hx eS
   injection h with h
   subst h
   obtain⟨h1,h2,h3⟩:=Ks t g n _ xs eS
   have hk:=jC t g _ x hx
   have hlen:(vs.take (aq t)).length=aq t:=by rw[hk.1,jB]
   have j3:aq t<=vs.length:=by rw[List.length_take]at hlen;omega
   refine⟨by simp[h1],?_,fun i hi j y hy=>?_⟩
   ·rw[List.length_drop]at h2
    rw[Nat.succ_mul]
    omega
   ·cases i with
    | zero=>
     simp only[List.getElem_cons_zero]at hy
     have hj:j<aq t:=by have:=(List.getElem?_eq_some_iff.1 hy).1;rwa [jB]at this
     have dH:=List.getElem?_eq_getElem (l:=vs.take (aq t)) (i:=j) (by rw[hlen];exact hj)
     refine⟨_,?_,hk.2 j _ y dH hy⟩
     rw[List.getElem?_take,if_pos hj]at dH
     rw[Nat.zero_mul,Nat.zero_add]
     exact dH
    | succ i=>
     simp only[List.getElem_cons_succ]at hy
     obtain⟨z,hz,hw⟩:=h3 i (by simpa using hi) j y hy
     refine⟨z,?_,hw⟩
     rw[List.getElem?_drop]at hz
     rw[Nat.succ_mul,show i*aq t+aq t+j=aq t+(i*aq t+j) by omega]
     exact hz
  ·cases h
end
end Go.Proofs.YtmffpkippmkjbaaGreatDoor
namespace Go.Proofs.YtmffpkippmkjbaaGreatDoor
open Go.RowKit
set_option linter.unusedVariables false
section
variable {P:Program} {w w':World} {w0:Wd} {B N:Nat} {lab aj:aQ} {ρ ρ':Nat->Loc} {σ:S} {a:Act} {X:Type} {d:Nat} {r:X}
theorem RV.under{k:List Nat}{x:V}{v:Value}{n:Nat}(h:RV w B lab k x v)(hk:1<k.length\/x.ah=true)(hz:w.heap.size<=w'.heap.size)(hb:∀ b,b<w.heap.size->lab b≠some [n]->w'.heap[b]?=w.heap[b]?)(hl:∀ b,b<w.heap.size->aj b=lab b):RV w' B aj k x v:=by
 induction h with
 | int=>exact .int _ _ _
 | bool=>exact .bool _ _
 | str=>exact .str _ _
 | nil=>exact .nil _
 | bO=>exact .bO _ _ _
 | bY=>exact .bY _ _ _ _ _ (by first | assumption | omega)
 | cy=>exact .cy _ _ _ _ _ (by first | assumption | omega)
 | ah q t o qn l b off cap u ho cL gm h1 hcap hc hr ih=>
  have aK:lab b≠some [n]:=by rw[cL];simp
  exact .ah _ _ _ _ _ _ _ _ u ho ((hl b gm).trans cL) (Nat.lt_of_lt_of_le gm hz) h1 hcap (fun i h j x hx=>(World.cell?_of_block (a:=⟨b,_,none⟩) (hb b gm aK)).trans (hc i h j x hx)) (fun i h j x hx=>ih i h j x hx (.inr (hG t o l[i] ho j x hx)))
 | own q t o qn l b cap cs u cL hh hs hn hm hc hr ih=>
  have gm:b<w.heap.size:=(Array.getElem?_eq_some_iff.1 hh).1
  have hq:1<q.length:=by
   rcases hk with hk | hk
   ·exact hk
   ·simp[V.ah]at hk;omega
  have aK:lab b≠some [n]:=by
   rw[cL]
   intro e
   injection e with e
   rw[e]at hq
   simp at hq
  exact .own _ _ _ _ _ _ _ cs u ((hl b gm).trans cL) ((hb b gm aK).trans hh) hs hn hm hc (fun i h j x hx=>ih i h j x hx (.inl (by simp)))
def oZ(w:World)(B:Nat)(lab:aQ)(n t0:Nat)(t:TC)(o:Nat)(l:List (T t))(vs:List Value):Prop:=
 ∀ i (hi:i<l.length) j x,(enc t o l[i])[j]?=some x->∃ v,vs[i*aq t+j]?=some v/\RV w B lab (j :: (t0+i) :: aq t :: [n]) x v
theorem RV.ab9{n:Nat}{t:TC}{o:Nat}{qn:Bool}{l:List (T t)}{u:Value}(h:RV w B lab [n] (.sl t (o+2) qn l) u){B':Nat}(hB:∀ b,lab b=some [n]->B'<=b):
  ∃ xs,w.ownsRow B' (tid t) (aq t) u l.length xs/\(∀ b,u.ownBlock=some b->lab b=some [n])/\(qn=true->u.ownBlock≠none)/\oZ w B lab n 0 t o l xs:=by
 cases h with
 | bY=>omega
 | cy=>omega
 | bO=>exact⟨[],⟨by simp,.inl ⟨rfl,rfl⟩⟩,by simp[Value.ownBlock],by simp,fun i hi=>by simp at hi⟩
 | ah _ _ _ _ _ _ _ _ _ ho=>omega
 | own _ _ _ _ _ b cap cs us hl hh hs hn hm hc hr=>
  refine⟨cs.toList.take (l.length*aq t),⟨?_,.inr ⟨b,cap,cs,rfl,hB b hl,hh,hn,hm.1,hs,rfl⟩⟩,fun b' iU=>?_,fun _=>by simp[Value.ownBlock],fun i hi j x hx=>?_⟩
  ·have dn:cs.toList.length=cap*aq t:=by rw[<-hs];simp
   rw[List.length_take,dn]
   have:=Nat.mul_le_mul_right (aq t) hn
   omega
  ·have:b=b':=by simpa [Value.ownBlock]using iU
   subst this
   exact hl
  ·have hj:j<aq t:=by have:=(List.getElem?_eq_some_iff.1 hx).1;rwa [jB]at this
   have bU:i*aq t+j<l.length*aq t:=by
    have:(i+1)*aq t<=l.length*aq t:=Nat.mul_le_mul_right _ hi
    rw[Nat.succ_mul]at this
    omega
   refine⟨us i j,?_,by rw[Nat.zero_add];exact hr i hi j x hx⟩
   rw[List.getElem?_take,if_pos bU,Array.getElem?_toList]
   exact hc i hi j x hx
theorem oZ.append{n:Nat}{t:TC}{o:Nat}{l l2:List (T t)}{xs ys:List Value}(h:oZ w B lab n 0 t o l xs)(h2:oZ w B lab n l.length t o l2 ys)(hl:xs.length=l.length*aq t):oZ w B lab n 0 t o (l++l2) (xs++ys):=by
 intro i hi j x hx
 have hj:j<aq t:=by have:=(List.getElem?_eq_some_iff.1 hx).1;rwa [jB]at this
 by_cases bU:i<l.length
 ·rw[List.getElem_append_left bU]at hx
  obtain⟨v,hv,r⟩:=h i bU j x hx
  refine⟨v,?_,r⟩
  rw[List.getElem?_append_left (List.getElem?_eq_some_iff.1 hv).1]
  exact hv
 ·rw[List.getElem_append_right (by omega)]at hx
  have Kn:i-l.length<l2.length:=by rw[List.length_append]at hi;omega
  obtain⟨v,hv,r⟩:=h2 (i-l.length) Kn j x hx
  refine⟨v,?_,?_⟩
  ·have e:i*aq t+j=xs.length+((i-l.length)*aq t+j):=by
    rw[hl,Nat.sub_mul]
    have:l.length*aq t<=i*aq t:=Nat.mul_le_mul_right _ (by omega)
    omega
   rw[e,List.getElem?_append_right (by omega),Nat.add_sub_cancel_left]
   exact hv
  ·have e:0+i=l.length+(i-l.length):=by omega
   rw[e]
   exact r
theorem oZ.under{n t0:Nat}{t:TC}{o:Nat}{l:List (T t)}{vs:List Value}(h:oZ w B lab n t0 t o l vs)(hz:w.heap.size<=w'.heap.size)(hb:∀ b,b<w.heap.size->lab b≠some [n]->w'.heap[b]?=w.heap[b]?)(hl:∀ b,b<w.heap.size->aj b=lab b):oZ w' B aj n t0 t o l vs:=
 fun i hi j x hx=>let ⟨v,hv,r⟩:=h i hi j x hx;⟨v,hv,r.under (.inl (by simp)) hz hb hl⟩
theorem Qf{n:Nat}{t:TC}{o:Nat}{l:List (T t)}{u:Value}{xs:List Value}{B':Nat}(h:w.ownsRow B' (tid t) (aq t) u l.length xs)(he:oZ w B lab n 0 t o l xs)(hl:∀ b,u.ownBlock=some b->lab b=some [n]):
  RV w B lab [n] (.sl t (o+2) false l) u:=by
 rcases h.2 with ⟨rfl,h0⟩ | ⟨b,cap,cs,rfl,hB,hh,hn,hm,hs,ht⟩
 ·have:l=[]:=List.eq_nil_of_length_eq_zero h0
  subst this
  exact .bO _ _ _
 ·have gI:∀ i (hi:i<l.length) j x,(enc t o l[i])[j]?=some x->∃ v,cs[i*aq t+j]?=some v/\RV w B lab (j :: i :: aq t :: [n]) x v:=by
   intro i hi j x hx
   obtain⟨v,hv,r⟩:=he i hi j x hx
   rw[Nat.zero_add]at r
   refine⟨v,?_,r⟩
   rw[<-ht,List.getElem?_take]at hv
   split at hv
   ·rw[Array.getElem?_toList]at hv;exact hv
   ·cases hv
  refine .own [n] t o false l b cap cs (fun i j=>(cs[i*aq t+j]?).getD undef) (hl b rfl) hh hs hn ⟨hm,fun h=>by cases h⟩ (fun i hi j x hx=>?_) (fun i hi j x hx=>?_)
  ·obtain⟨v,hv,_⟩:=gI i hi j x hx
   rw[hv];rfl
  ·obtain⟨v,hv,r⟩:=gI i hi j x hx
   rw[hv];exact r
theorem Rl.acd{t e ty:TypeId}{tc:TC}{i:TypeInfo}{z:Value}{rr o m c:Nat}{q:Bool}{l l2:List (T tc)}{u:Value}{ad:Option Addr}{news:List Value}(h:Rl w0 N lab ρ σ a w)(hF:w0.F rr=none)(dX:P.underlying t=some (.slice e))(ht:tid tc=e)(hi:P.info? e=some i)(hz:i.zero=some z)
  (hsz:i.size=aq tc) (ez:i.bytes<=65536) (ee:z.cells.size=aq tc) (hd:RV w w0.heap.size lab [rr] (.sl tc (o+2) q l) u) (rN:Reads w w.heap.size (aq tc) ad m news) (iL:∀ v∈news,v.oneCell'=true) (hm:m=l2.length)
  (vL:oZ w w0.heap.size lab rr l.length tc o l2 news) (hlen:l.length+l2.length<1073741824):
  ∃ v' w' aj,(Builtin.append_ #[t,t] ty #[u,.slice ad m c]).run P w = .ok v' w'/\Rl w0 N aj (aX ρ rr (.cS v')) ((σ.drop rr).root rr (.sl (.sl tc (o+2) false (l++l2)))) a w'/\iT v'=true:=by
 subst ht hm
 obtain⟨xs,eD,mN,yF,ku⟩:=hd.ab9 (B':=0) (fun b _=>Nat.zero_le b)
 have eK:(l.length+l2.length)*i.bytes<=140737488355328:=by
  have h1:(l.length+l2.length)*i.bytes<=1073741824*65536:=Nat.mul_le_mul (by omega) ez
  omega
 obtain⟨v',w',aL,iX,gK,gm⟩:=Ey (P:=P) w 0 t ty (tid tc) i z (aq tc) i.bytes dX hi hz hsz rfl ee (nA tc) u l.length xs eD _ ad l2.length c news rN iL (by unfold maxLen;omega) eK (Nat.zero_le _)
 have rO:(l++l2).length=l.length+l2.length:=List.length_append
 rw[<-rO]at iX
 have qk:=ku.append vL eD.1
 have fD:iT v'=true:=by rcases iX.2 with ⟨rfl,_⟩ | ⟨_,_,_,rfl,_⟩ <;>rfl
 have jl:Below 0 w w':=(Below.refl 0 w).grown gK (Nat.zero_le _) (fun _ _=>Nat.zero_le _)
 have ep:gv w0 w w':=⟨jl.os,jl.tape,jl.output,jl.size,fun k hk hL=>gK.block k (Nat.lt_of_lt_of_le hk h.below.size) (fun e'=>by
  rcases(h.bV k _ (mN k e'.symm)).1 with h1 | h1
  ·exact absurd hk (Nat.not_lt.2 h1)
  ·exact h1 hL)⟩
 have rP:∀ b,b<w.heap.size->lab b≠some [rr]->w'.heap[b]?=w.heap[b]?:=fun b hb aK=>gK.block b hb (fun e'=>aK (mN b e'.symm))
 by_cases jG:v'.ownBlock=some w.heap.size
 ·have bU:w.heap.size<w'.heap.size:=by
   rcases iX.2 with ⟨rfl,_⟩ | ⟨b,cap,cs,rfl,_,hh,_⟩
   ·cases jG
   ·have:b=w.heap.size:=by simpa [Value.ownBlock]using jG
    subst this
    exact(Array.getElem?_eq_some_iff.1 hh).1
  have eB:∀ b,b<w.heap.size->aX lab w.heap.size (some [rr]) b=lab b:=fun b hb=>bB _ _ _ (by omega)
  refine⟨v',w',aX lab w.heap.size (some [rr]),aL,h.rH hF ep ⟨gK.size,rP,eB,fun b hb=>(h.bV b [] hb).2.2 rfl⟩ (fun b k hb hk=>?_) (fun r hr=>bB _ _ _ hr) (.sl v' _ (aZ _ _ _) (Qf iX (qk.under gK.size rP eB) (fun b hb=>?_))),fD⟩
  ·by_cases e:b=w.heap.size
   ·subst e
    rw[aZ]at hk
    injection hk with hk
    subst hk
    exact⟨bU,by simp⟩
   ·rw[bB _ _ _ e]at hk
    have:=(h.bV b k hk).2.1
    omega
  ·rw[jG]at hb
   injection hb with hb
   subst hb
   exact aZ _ _ _
 ·have Bd:v'.ownBlock=u.ownBlock:=by
   rcases gm with gm | gm
   ·exact gm
   ·exact absurd gm jG
  refine⟨v',w',lab,aL,h.rH hF ep ⟨gK.size,rP,fun _ _=>rfl,fun b hb=>(h.bV b [] hb).2.2 rfl⟩ (fun b k hb hk=>?_) (fun r hr=>bB _ _ _ hr) (.sl v' _ (aZ _ _ _) (Qf iX (qk.under gK.size rP (fun _ _=>rfl)) (fun b hb=>mN b (by rw[<-Bd];exact hb)))),fD⟩
  have:=(h.bV b k hk).2.1
  omega
end
end Go.Proofs.YtmffpkippmkjbaaGreatDoor
