/-
  Running the program over pure contents, and that it follows (part 1). Nothing here is a claim.
-/
import Derived.Test.YtjldnlbiefpekaaDoorAppend
import Derived.Test.YtjldnlbiefpekaaDoorLaws
import Derived.Handy
import Derived.Great.BuildSlice
set_option linter.unusedSimpArgs false
namespace Go.Proofs.YtjldnlbiefpekaaDoor
open Go.RowKit
set_option linter.unusedVariables false
set_option linter.unusedSimpArgs false
structure wK where
 Dc:Int
 um:Int
 rows:Int
 Dd:Int
structure lZ where
 cT:Int
 row:Int
 eC:Int
structure wL where
 order:Int
 hash:Bool
structure AE where
 owner:List Int
structure sr where
 kind:Int
 cT:Int
 row:Int
 eC:Int
structure wM where
 De:Int
 rp:Int
 Df:Int
 Dg:Int
 Dh:Int
 Di:Int
 Dj:Int
 Dk:Int
 Dl:Int
 wr:Int
 Dm:Int
 Dn:Int
 Dp:Int
 Dq:Int
 Dr:Int
 xp:Int
 xs:Int
structure wN where
 open_:Bool
 row:Int
structure wO where
 um:List wN
 uo:Int
structure wP where
 at_:Int
 cmd:sr
structure wQ where
 last:List Int
 IC:List Int
structure su where
 symbols:List Int
 Ds:Bool
structure wR where
 cells:List su
 uq:List Int
 ur:List Int
structure wS where
 uq:Int
 ur:Int
structure wT where
 rows:List Int
 counts:List Int
 PZ:Int
structure wU where
 wV:Int
 map:List Int
structure wW where
 ID:List Int
 wait:Int
 qf:Bool
structure lB where
 id:Int
 dN:Int
 line:Int
 write:Bool
 data:Int
 at_:Int
structure wX where
 weight:Int
 P0:Int
structure wY where
 on:Bool
 low:Int
 high:Int
structure AF where
 owner:List Int
 length:Int
structure AG where
 id:Int
 at_:Int
structure wZ where
 state:Int
 since:Int
 idle:Int
structure n8 where
 down:Int
 sleep:Int
structure w4 where
 line:Int
 code:Int
 times:Int
structure AH where
 P1:List ByteArray
structure AI where
 P2:List Int
 next:Int
structure AJ where
 count:Int
 commands:List sr
structure uv where
 count:Int
 tag:Int
structure w5 where
 root:Int
 mid:List uv
 leaf:List uv
structure AK where
 key:Int
 tree:w5
 data:List Int
 tags:List Int
structure w6 where
 next:Int
 every:Int
 wait:Int
structure AL where
 index:Int
 before:su
 after:su
 code:Int
structure AM where
 cT:Int
 from_:Int
 to:Int
 next:Int
structure gv where
 eI:Int
 cap:Int
 eJ:Int
 low:Int
 high:Int
 weights:List Int
 cw:n8
structure w7 where
 iY:gv
 next:gv
 waits:Bool
structure w8 where
 qg:wK
 dh:wM
 mapping:wL
 wV:Int
 interval:Int
 IE:Int
 AN:wS
structure w9 where
 id:Int
 at_:Int
 data:Int
 code:Int
structure xb where
 config:w8
 box:w7
 now:Int
 IF:wO
 ready:wQ
 array:wR
 spare:wU
 Dt:wW
 P3:List wT
 guard:List Int
 pending:List lZ
 queue:List lB
 shares:List wX
 drain:wY
 uo:wZ
 Du:w6
 errors:List w4
 trace:List wP
 P4:List w9
structure aL where
 kind:Int
 request:lB
 n:Int
 eR:Int
 addr:lZ
 aB:gv
structure AO where
 line:Int
 data:Int
 code:Int
structure AP where
 b:List Int
 i:Int
 h:Int
inductive TC where
 | int | u8 | bool | str
 | qh
 | Addr
 | qi
 | qj
 | Command
 | ql
 | lC
 | qm
 | Event
 | qp
 | Cell
 | Array
 | qq
 | mU
 | qt
 | qu
 | lD
 | mV
 | qv
 | qw
 | qx
 | Power
 | mW
 | mX
 | qy
 | qz
 | Receiver
 | Node
 | Tree
 | qA
 | qB
 | qC
 | Move
 | kH
 | qD
 | Config
 | mY
 | n9
 | Act
 | Fact
 | qE
 | sl (t:TC)
 | uw
 | ux (g:Nat)
 | uy (g:Nat)
 | uz (g:Nat)
 | fnCommand (g:Nat)
deriving DecidableEq
def T:TC->Type
 | .int=>Int
 | .u8=>Int
 | .bool=>Bool
 | .str=>ByteArray
 | .qh=>wK
 | .Addr=>lZ
 | .qi=>wL
 | .qj=>AE
 | .Command=>sr
 | .ql=>wM
 | .lC=>wN
 | .qm=>wO
 | .Event=>wP
 | .qp=>wQ
 | .Cell=>su
 | .Array=>wR
 | .qq=>wS
 | .mU=>wT
 | .qt=>wU
 | .qu=>wW
 | .lD=>lB
 | .mV=>wX
 | .qv=>wY
 | .qw=>AF
 | .qx=>AG
 | .Power=>wZ
 | .mW=>n8
 | .mX=>w4
 | .qy=>AH
 | .qz=>AI
 | .Receiver=>AJ
 | .Node=>uv
 | .Tree=>w5
 | .qA=>AK
 | .qB=>w6
 | .qC=>AL
 | .Move=>AM
 | .kH=>gv
 | .qD=>w7
 | .Config=>w8
 | .mY=>w9
 | .n9=>xb
 | .Act=>aL
 | .Fact=>AO
 | .qE=>AP
 | .sl t=>List (T t)
 | .uw=>xb
 | .ux _=>Int
 | .uy _=>lB
 | .uz _=>lZ
 | .fnCommand _=>sr
def aj:TC->Nat
 | .uw=>76
 | .ux _=>3
 | .uy _=>8
 | .uz _=>5
 | .fnCommand _=>6
 | .qh=>4
 | .Addr=>3
 | .qi=>2
 | .qj=>1
 | .Command=>4
 | .ql=>17
 | .lC=>2
 | .qm=>2
 | .Event=>5
 | .qp=>2
 | .Cell=>2
 | .Array=>3
 | .qq=>2
 | .mU=>3
 | .qt=>2
 | .qu=>3
 | .lD=>6
 | .mV=>2
 | .qv=>3
 | .qw=>2
 | .qx=>2
 | .Power=>3
 | .mW=>2
 | .mX=>3
 | .qy=>1
 | .qz=>2
 | .Receiver=>2
 | .Node=>2
 | .Tree=>3
 | .qA=>6
 | .qB=>3
 | .qC=>6
 | .Move=>4
 | .kH=>8
 | .qD=>17
 | .Config=>28
 | .mY=>4
 | .n9=>75
 | .Act=>20
 | .Fact=>3
 | .qE=>3
 | _=>1
def full:TC->Nat
 | .int | .u8 | .bool | .str=>0
 | .qh=>0
 | .Addr=>0
 | .qi=>0
 | .qj=>2
 | .Command=>0
 | .ql=>0
 | .lC=>0
 | .qm=>2
 | .Event=>0
 | .qp=>2
 | .Cell=>2
 | .Array=>4
 | .qq=>0
 | .mU=>2
 | .qt=>2
 | .qu=>2
 | .lD=>0
 | .mV=>0
 | .qv=>0
 | .qw=>2
 | .qx=>0
 | .Power=>0
 | .mW=>0
 | .mX=>0
 | .qy=>2
 | .qz=>2
 | .Receiver=>2
 | .Node=>0
 | .Tree=>2
 | .qA=>2
 | .qB=>0
 | .qC=>2
 | .Move=>0
 | .kH=>2
 | .qD=>2
 | .Config=>0
 | .mY=>0
 | .n9=>4
 | .Act=>2
 | .Fact=>0
 | .qE=>2
 | .sl t=>full t+2
 | .uw=>4
 | .ux _=>0
 | .uy _=>0
 | .uz _=>0
 | .fnCommand _=>0
def tid:TC->TypeId
 | .int=>3
 | .u8=>5
 | .bool=>4
 | .str=>9
 | .qh=>0
 | .Addr=>25
 | .qi=>0
 | .qj=>0
 | .Command=>0
 | .ql=>0
 | .lC=>0
 | .qm=>0
 | .Event=>0
 | .qp=>0
 | .Cell=>0
 | .Array=>0
 | .qq=>0
 | .mU=>0
 | .qt=>0
 | .qu=>0
 | .lD=>23
 | .mV=>0
 | .qv=>0
 | .qw=>0
 | .qx=>0
 | .Power=>0
 | .mW=>28
 | .mX=>0
 | .qy=>0
 | .qz=>0
 | .Receiver=>0
 | .Node=>0
 | .Tree=>0
 | .qA=>0
 | .qB=>0
 | .qC=>0
 | .Move=>0
 | .kH=>30
 | .qD=>0
 | .Config=>0
 | .mY=>0
 | .n9=>0
 | .Act=>32
 | .Fact=>0
 | .qE=>0
 | .sl .int=>26
 | .sl .bool=>0
 | .sl .str=>43
 | _=>0
inductive V where
 | int (k:IntKind) (n:Int)
 | bool (b:Bool)
 | str (s:ByteArray)
 | nil
 | sl (t:TC) (o:Nat) (q:Bool) (l:List (T t))
def V.ax:V->Option Int | .int .i64 n=>some n | _=>none
def V.Dv:V->Option Int | .int .u8 n=>some n | _=>none
def V.gR:V->Option Bool | .bool b=>some b | _=>none
def V.Dw:V->Option ByteArray | .str s=>some s | _=>none
def V.bN(t:TC)(o:Nat):V->Option (List (T t))
 | .sl t' o' _ l=>bif Nat.beq o' o || (Nat.ble (full t+2) o'&&Nat.ble (full t+2) o)then (if h:t'=t then some (h ▸ l)else none)else none
 | .nil=>some []
 | _=>none
inductive Wk:V->V->Prop
 | same (x:V):Wk x x
 | nil (t:TC) (o:Nat):Wk .nil (.sl t o false [])
 | q (t:TC) (o:Nat) (l:List (T t)):Wk (.sl t o true l) (.sl t o false l)
 | gr (t:TC) (o o':Nat) (qn:Bool) (l:List (T t)) (h:full t+2<=o) (h':full t+2<=o'):Wk (.sl t o' qn l) (.sl t o false l)
def aK(xs ys:List V):Prop:=xs.length=ys.length/\∀ (j:Nat) (x y:V),xs[j]?=some x->ys[j]?=some y->Wk x y
theorem aK.nil:aK [] []:=⟨rfl,by simp⟩
theorem aK.cons{x y:V}{xs ys:List V}(h:Wk x y)(k:aK xs ys):aK (x :: xs) (y :: ys):=by
 refine⟨by simp[k.1],fun j a b ha U=>?_⟩
 cases j with
 | zero=>simp at ha U;subst ha;subst U;exact h
 | succ j=>simp at ha U;exact k.2 j a b ha U
theorem V.ay{x:V}{n:Int}(h:x.ax=some n):Wk x (.int .i64 n):=by
 unfold V.ax at h;split at h <;>first | (injection h with h;subst h;exact .same _) | cases h
theorem V.P5{x:V}{n:Int}(h:x.Dv=some n):Wk x (.int .u8 n):=by
 unfold V.Dv at h;split at h <;>first | (injection h with h;subst h;exact .same _) | cases h
theorem V.iZ{x:V}{n:Bool}(h:x.gR=some n):Wk x (.bool n):=by
 unfold V.gR at h;split at h <;>first | (injection h with h;subst h;exact .same _) | cases h
theorem V.P6{x:V}{n:ByteArray}(h:x.Dw=some n):Wk x (.str n):=by
 unfold V.Dw at h;split at h <;>first | (injection h with h;subst h;exact .same _) | cases h
theorem V.bR{x:V}{t:TC}{o:Nat}{l:List (T t)}(h:x.bN t o=some l):Wk x (.sl t o false l):=by
 unfold V.bN at h
 split at h
 ·rename_i t' o' q l'
  cases hc:(Nat.beq o' o || (Nat.ble (full t+2) o'&&Nat.ble (full t+2) o))with
  | false=>rw[hc]at h;cases h
  | true=>
   rw[hc,cond_true]at h
   split at h
   ·rename_i ht
    subst ht
    injection h with h
    subst h
    rw[Bool.or_eq_true,Bool.and_eq_true]at hc
    rcases hc with hc | hc
    ·obtain rfl:=Nat.eq_of_beq_eq_true hc
     cases q
     ·exact .same _
     ·exact .q _ _ _
    ·exact .gr _ _ _ _ _ (Nat.le_of_ble_eq_true hc.2) (Nat.le_of_ble_eq_true hc.1)
   ·cases h
 ·injection h with h;subst h;exact .nil _ _
 ·cases h
def uB(o:Nat)(x:wK):List V:=[.int .i64 x.Dc,.int .i64 x.um,.int .i64 x.rows,.int .i64 x.Dd]
def qF(o:Nat)(x:lZ):List V:=[.int .i64 x.cT,.int .i64 x.row,.int .i64 x.eC]
def uC(o:Nat)(x:wL):List V:=[.int .i64 x.order,.bool x.hash]
def xd(o:Nat)(x:AE):List V:=[.sl .int o false x.owner]
def qG(o:Nat)(x:sr):List V:=[.int .i64 x.kind,.int .i64 x.cT,.int .i64 x.row,.int .i64 x.eC]
def uD(o:Nat)(x:wM):List V:=[.int .i64 x.De,.int .i64 x.rp,.int .i64 x.Df,.int .i64 x.Dg,.int .i64 x.Dh,.int .i64 x.Di,.int .i64 x.Dj,.int .i64 x.Dk,.int .i64 x.Dl,.int .i64 x.wr,.int .i64 x.Dm,.int .i64 x.Dn,.int .i64 x.Dp,.int .i64 x.Dq,.int .i64 x.Dr,.int .i64 x.xp,.int .i64 x.xs]
def uE(o:Nat)(x:wN):List V:=[.bool x.open_,.int .i64 x.row]
def xe(o:Nat)(x:wO):List V:=[.sl .lC o false x.um,.int .i64 x.uo]
def uG(o:Nat)(x:wP):List V:=[.int .i64 x.at_,.int .i64 x.cmd.kind,.int .i64 x.cmd.cT,.int .i64 x.cmd.row,.int .i64 x.cmd.eC]
def xg(o:Nat)(x:wQ):List V:=[.sl .int o false x.last,.sl .int o false x.IC]
def xh(o:Nat)(x:su):List V:=[.sl .int o false x.symbols,.bool x.Ds]
def xj(o:Nat)(x:wR):List V:=[.sl .Cell o false x.cells,.sl .int o false x.uq,.sl .int o false x.ur]
def uH(o:Nat)(x:wS):List V:=[.int .i64 x.uq,.int .i64 x.ur]
def xk(o:Nat)(x:wT):List V:=[.sl .int o false x.rows,.sl .int o false x.counts,.int .i64 x.PZ]
def xl(o:Nat)(x:wU):List V:=[.int .i64 x.wV,.sl .int o false x.map]
def xm(o:Nat)(x:wW):List V:=[.sl .int o false x.ID,.int .i64 x.wait,.bool x.qf]
def qH(o:Nat)(x:lB):List V:=[.int .i64 x.id,.int .i64 x.dN,.int .i64 x.line,.bool x.write,.int .i64 x.data,.int .i64 x.at_]
def uI(o:Nat)(x:wX):List V:=[.int .i64 x.weight,.int .i64 x.P0]
def uJ(o:Nat)(x:wY):List V:=[.bool x.on,.int .i64 x.low,.int .i64 x.high]
def xq(o:Nat)(x:AF):List V:=[.sl .int o false x.owner,.int .i64 x.length]
def uK(o:Nat)(x:AG):List V:=[.int .i64 x.id,.int .i64 x.at_]
def uL(o:Nat)(x:wZ):List V:=[.int .i64 x.state,.int .i64 x.since,.int .i64 x.idle]
def uM(o:Nat)(x:n8):List V:=[.int .i64 x.down,.int .i64 x.sleep]
def uO(o:Nat)(x:w4):List V:=[.int .i64 x.line,.int .i64 x.code,.int .i64 x.times]
def xu(o:Nat)(x:AH):List V:=[.sl .str o false x.P1]
def xw(o:Nat)(x:AI):List V:=[.sl .int o false x.P2,.int .i64 x.next]
def xx(o:Nat)(x:AJ):List V:=[.int .i64 x.count,.sl .Command o false x.commands]
def uQ(o:Nat)(x:uv):List V:=[.int .i64 x.count,.int .i64 x.tag]
def xy(o:Nat)(x:w5):List V:=[.int .i64 x.root,.sl .Node o false x.mid,.sl .Node o false x.leaf]
def xz(o:Nat)(x:AK):List V:=[.int .i64 x.key,.int .i64 x.tree.root,.sl .Node o false x.tree.mid,.sl .Node o false x.tree.leaf,.sl .int o false x.data,.sl .int o false x.tags]
def uS(o:Nat)(x:w6):List V:=[.int .i64 x.next,.int .i64 x.every,.int .i64 x.wait]
def xA(o:Nat)(x:AL):List V:=[.int .i64 x.index,.sl .int o false x.before.symbols,.bool x.before.Ds,.sl .int o false x.after.symbols,.bool x.after.Ds,.int .i64 x.code]
def uT(o:Nat)(x:AM):List V:=[.int .i64 x.cT,.int .i64 x.from_,.int .i64 x.to,.int .i64 x.next]
def xB(o:Nat)(x:gv):List V:=[.int .i64 x.eI,.int .i64 x.cap,.int .i64 x.eJ,.int .i64 x.low,.int .i64 x.high,.sl .int o false x.weights,.int .i64 x.cw.down,.int .i64 x.cw.sleep]
def xC(o:Nat)(x:w7):List V:=[.int .i64 x.iY.eI,.int .i64 x.iY.cap,.int .i64 x.iY.eJ,.int .i64 x.iY.low,.int .i64 x.iY.high,.sl .int o false x.iY.weights,.int .i64 x.iY.cw.down,.int .i64 x.iY.cw.sleep,.int .i64 x.next.eI,.int .i64 x.next.cap,.int .i64 x.next.eJ,.int .i64 x.next.low,.int .i64 x.next.high,.sl .int o false x.next.weights,.int .i64 x.next.cw.down,.int .i64 x.next.cw.sleep,.bool x.waits]
def uU(o:Nat)(x:w8):List V:=[.int .i64 x.qg.Dc,.int .i64 x.qg.um,.int .i64 x.qg.rows,.int .i64 x.qg.Dd,.int .i64 x.dh.De,.int .i64 x.dh.rp,.int .i64 x.dh.Df,.int .i64 x.dh.Dg,.int .i64 x.dh.Dh,.int .i64 x.dh.Di,.int .i64 x.dh.Dj,.int .i64 x.dh.Dk,.int .i64 x.dh.Dl,.int .i64 x.dh.wr,.int .i64 x.dh.Dm,.int .i64 x.dh.Dn,.int .i64 x.dh.Dp,.int .i64 x.dh.Dq,.int .i64 x.dh.Dr,.int .i64 x.dh.xp,.int .i64 x.dh.xs,.int .i64 x.mapping.order,.bool x.mapping.hash,.int .i64 x.wV,.int .i64 x.interval,.int .i64 x.IE,.int .i64 x.AN.uq,.int .i64 x.AN.ur]
def uV(o:Nat)(x:w9):List V:=[.int .i64 x.id,.int .i64 x.at_,.int .i64 x.data,.int .i64 x.code]
def qI(o:Nat)(x:xb):List V:=[.int .i64 x.config.qg.Dc,.int .i64 x.config.qg.um,.int .i64 x.config.qg.rows,.int .i64 x.config.qg.Dd,.int .i64 x.config.dh.De,.int .i64 x.config.dh.rp,.int .i64 x.config.dh.Df,.int .i64 x.config.dh.Dg,.int .i64 x.config.dh.Dh,.int .i64 x.config.dh.Di,.int .i64 x.config.dh.Dj,.int .i64 x.config.dh.Dk,.int .i64 x.config.dh.Dl,.int .i64 x.config.dh.wr,.int .i64 x.config.dh.Dm,.int .i64 x.config.dh.Dn,.int .i64 x.config.dh.Dp,.int .i64 x.config.dh.Dq,.int .i64 x.config.dh.Dr,.int .i64 x.config.dh.xp,.int .i64 x.config.dh.xs,.int .i64 x.config.mapping.order,.bool x.config.mapping.hash,.int .i64 x.config.wV,.int .i64 x.config.interval,.int .i64 x.config.IE,.int .i64 x.config.AN.uq,.int .i64 x.config.AN.ur,.int .i64 x.box.iY.eI,.int .i64 x.box.iY.cap,.int .i64 x.box.iY.eJ,.int .i64 x.box.iY.low,.int .i64 x.box.iY.high,.sl .int o false x.box.iY.weights,.int .i64 x.box.iY.cw.down,.int .i64 x.box.iY.cw.sleep,.int .i64 x.box.next.eI,.int .i64 x.box.next.cap,.int .i64 x.box.next.eJ,.int .i64 x.box.next.low,.int .i64 x.box.next.high,.sl .int o false x.box.next.weights,.int .i64 x.box.next.cw.down,.int .i64 x.box.next.cw.sleep,.bool x.box.waits,.int .i64 x.now,.sl .lC o false x.IF.um,.int .i64 x.IF.uo,.sl .int o false x.ready.last,.sl .int o false x.ready.IC,.sl .Cell o false x.array.cells,.sl .int o false x.array.uq,.sl .int o false x.array.ur,.int .i64 x.spare.wV,.sl .int o false x.spare.map,.sl .int o false x.Dt.ID,.int .i64 x.Dt.wait,.bool x.Dt.qf,.sl .mU o false x.P3,.sl .int o false x.guard,.sl .Addr o false x.pending,.sl .lD o false x.queue,.sl .mV o false x.shares,.bool x.drain.on,.int .i64 x.drain.low,.int .i64 x.drain.high,.int .i64 x.uo.state,.int .i64 x.uo.since,.int .i64 x.uo.idle,.int .i64 x.Du.next,.int .i64 x.Du.every,.int .i64 x.Du.wait,.sl .mX o false x.errors,.sl .Event o false x.trace,.sl .mY o false x.P4]
def xD(o:Nat)(x:aL):List V:=[.int .i64 x.kind,.int .i64 x.request.id,.int .i64 x.request.dN,.int .i64 x.request.line,.bool x.request.write,.int .i64 x.request.data,.int .i64 x.request.at_,.int .i64 x.n,.int .i64 x.eR,.int .i64 x.addr.cT,.int .i64 x.addr.row,.int .i64 x.addr.eC,.int .i64 x.aB.eI,.int .i64 x.aB.cap,.int .i64 x.aB.eJ,.int .i64 x.aB.low,.int .i64 x.aB.high,.sl .int o false x.aB.weights,.int .i64 x.aB.cw.down,.int .i64 x.aB.cw.sleep]
def uW(o:Nat)(x:AO):List V:=[.int .i64 x.line,.int .i64 x.data,.int .i64 x.code]
def xE(o:Nat)(x:AP):List V:=[.sl .u8 o false x.b,.int .i64 x.i,.int .i64 x.h]
def enc:(t:TC)->(o:Nat)->T t->List V
 | .int,_,x=>[.int .i64 x]
 | .u8,_,x=>[.int .u8 x]
 | .bool,_,x=>[.bool x]
 | .str,_,x=>[.str x]
 | .qh,o,x=>uB o x
 | .Addr,o,x=>qF o x
 | .qi,o,x=>uC o x
 | .qj,o,x=>xd o x
 | .Command,o,x=>qG o x
 | .ql,o,x=>uD o x
 | .lC,o,x=>uE o x
 | .qm,o,x=>xe o x
 | .Event,o,x=>uG o x
 | .qp,o,x=>xg o x
 | .Cell,o,x=>xh o x
 | .Array,o,x=>xj o x
 | .qq,o,x=>uH o x
 | .mU,o,x=>xk o x
 | .qt,o,x=>xl o x
 | .qu,o,x=>xm o x
 | .lD,o,x=>qH o x
 | .mV,o,x=>uI o x
 | .qv,o,x=>uJ o x
 | .qw,o,x=>xq o x
 | .qx,o,x=>uK o x
 | .Power,o,x=>uL o x
 | .mW,o,x=>uM o x
 | .mX,o,x=>uO o x
 | .qy,o,x=>xu o x
 | .qz,o,x=>xw o x
 | .Receiver,o,x=>xx o x
 | .Node,o,x=>uQ o x
 | .Tree,o,x=>xy o x
 | .qA,o,x=>xz o x
 | .qB,o,x=>uS o x
 | .qC,o,x=>xA o x
 | .Move,o,x=>uT o x
 | .kH,o,x=>xB o x
 | .qD,o,x=>xC o x
 | .Config,o,x=>uU o x
 | .mY,o,x=>uV o x
 | .n9,o,x=>qI o x
 | .Act,o,x=>xD o x
 | .Fact,o,x=>uW o x
 | .qE,o,x=>xE o x
 | .sl t,o,x=>[.sl t o false x]
 | .uw,o,x=>.bool true :: qI o x
 | .ux g,o,x=>.bool false :: .int .i64 (g:Int) :: [.int .i64 x]
 | .uy g,o,x=>.bool false :: .int .i64 (g:Int) :: qH o x
 | .uz g,o,x=>.bool false :: .int .i64 (g:Int) :: qF o x
 | .fnCommand g,o,x=>.bool false :: .int .i64 (g:Int) :: qG o x
def Dx(o:Nat)(cs:List V):Option wK:=match cs with
 | a0 :: a1 :: a2 :: a3 :: []=>(a0.ax).bind fun x0=>(a1.ax).bind fun x1=>(a2.ax).bind fun x2=>(a3.ax).bind fun x3=>some ⟨x0,x1,x2,x3⟩
 | _=>none
def AQ(o:Nat)(cs:List V):Option lZ:=match cs with
 | a0 :: a1 :: a2 :: []=>(a0.ax).bind fun x0=>(a1.ax).bind fun x1=>(a2.ax).bind fun x2=>some ⟨x0,x1,x2⟩
 | _=>none
def Dy(o:Nat)(cs:List V):Option wL:=match cs with
 | a0 :: a1 :: []=>(a0.ax).bind fun x0=>(a1.gR).bind fun x1=>some ⟨x0,x1⟩
 | _=>none
def Dz(o:Nat)(cs:List V):Option AE:=match cs with
 | a0 :: []=>(a0.bN .int o).bind fun x0=>some ⟨x0⟩
 | _=>none
def AR(o:Nat)(cs:List V):Option sr:=match cs with
 | a0 :: a1 :: a2 :: a3 :: []=>(a0.ax).bind fun x0=>(a1.ax).bind fun x1=>(a2.ax).bind fun x2=>(a3.ax).bind fun x3=>some ⟨x0,x1,x2,x3⟩
 | _=>none
def DA(o:Nat)(cs:List V):Option wM:=match cs with
 | a0 :: a1 :: a2 :: a3 :: a4 :: a5 :: a6 :: a7 :: a8 :: a9 :: oa :: oc :: a12 :: od :: oe :: lE :: og :: []=>(a0.ax).bind fun x0=>(a1.ax).bind fun x1=>(a2.ax).bind fun x2=>(a3.ax).bind fun x3=>(a4.ax).bind fun x4=>(a5.ax).bind fun x5=>(a6.ax).bind fun x6=>(a7.ax).bind fun x7=>(a8.ax).bind fun x8=>(a9.ax).bind fun x9=>(oa.ax).bind fun jK=>(oc.ax).bind fun jL=>(a12.ax).bind fun jM=>(od.ax).bind fun jN=>(oe.ax).bind fun jO=>(lE.ax).bind fun jP=>(og.ax).bind fun jQ=>some ⟨x0,x1,x2,x3,x4,x5,x6,x7,x8,x9,jK,jL,jM,jN,jO,jP,jQ⟩
 | _=>none
def DB(o:Nat)(cs:List V):Option wN:=match cs with
 | a0 :: a1 :: []=>(a0.gR).bind fun x0=>(a1.ax).bind fun x1=>some ⟨x0,x1⟩
 | _=>none
def DC(o:Nat)(cs:List V):Option wO:=match cs with
 | a0 :: a1 :: []=>(a0.bN .lC o).bind fun x0=>(a1.ax).bind fun x1=>some ⟨x0,x1⟩
 | _=>none
def DD(o:Nat)(cs:List V):Option wP:=match cs with
 | a0 :: a1 :: a2 :: a3 :: a4 :: []=>(a0.ax).bind fun x0=>(a1.ax).bind fun x1=>(a2.ax).bind fun x2=>(a3.ax).bind fun x3=>(a4.ax).bind fun x4=>some ⟨x0,⟨x1,x2,x3,x4⟩⟩
 | _=>none
def DE(o:Nat)(cs:List V):Option wQ:=match cs with
 | a0 :: a1 :: []=>(a0.bN .int o).bind fun x0=>(a1.bN .int o).bind fun x1=>some ⟨x0,x1⟩
 | _=>none
def DF(o:Nat)(cs:List V):Option su:=match cs with
 | a0 :: a1 :: []=>(a0.bN .int o).bind fun x0=>(a1.gR).bind fun x1=>some ⟨x0,x1⟩
 | _=>none
def DG(o:Nat)(cs:List V):Option wR:=match cs with
 | a0 :: a1 :: a2 :: []=>(a0.bN .Cell o).bind fun x0=>(a1.bN .int o).bind fun x1=>(a2.bN .int o).bind fun x2=>some ⟨x0,x1,x2⟩
 | _=>none
def DH(o:Nat)(cs:List V):Option wS:=match cs with
 | a0 :: a1 :: []=>(a0.ax).bind fun x0=>(a1.ax).bind fun x1=>some ⟨x0,x1⟩
 | _=>none
def DI(o:Nat)(cs:List V):Option wT:=match cs with
 | a0 :: a1 :: a2 :: []=>(a0.bN .int o).bind fun x0=>(a1.bN .int o).bind fun x1=>(a2.ax).bind fun x2=>some ⟨x0,x1,x2⟩
 | _=>none
def DJ(o:Nat)(cs:List V):Option wU:=match cs with
 | a0 :: a1 :: []=>(a0.ax).bind fun x0=>(a1.bN .int o).bind fun x1=>some ⟨x0,x1⟩
 | _=>none
def DK(o:Nat)(cs:List V):Option wW:=match cs with
 | a0 :: a1 :: a2 :: []=>(a0.bN .int o).bind fun x0=>(a1.ax).bind fun x1=>(a2.gR).bind fun x2=>some ⟨x0,x1,x2⟩
 | _=>none
def AS(o:Nat)(cs:List V):Option lB:=match cs with
 | a0 :: a1 :: a2 :: a3 :: a4 :: a5 :: []=>(a0.ax).bind fun x0=>(a1.ax).bind fun x1=>(a2.ax).bind fun x2=>(a3.gR).bind fun x3=>(a4.ax).bind fun x4=>(a5.ax).bind fun x5=>some ⟨x0,x1,x2,x3,x4,x5⟩
 | _=>none
def DL(o:Nat)(cs:List V):Option wX:=match cs with
 | a0 :: a1 :: []=>(a0.ax).bind fun x0=>(a1.ax).bind fun x1=>some ⟨x0,x1⟩
 | _=>none
def DM(o:Nat)(cs:List V):Option wY:=match cs with
 | a0 :: a1 :: a2 :: []=>(a0.gR).bind fun x0=>(a1.ax).bind fun x1=>(a2.ax).bind fun x2=>some ⟨x0,x1,x2⟩
 | _=>none
def DN(o:Nat)(cs:List V):Option AF:=match cs with
 | a0 :: a1 :: []=>(a0.bN .int o).bind fun x0=>(a1.ax).bind fun x1=>some ⟨x0,x1⟩
 | _=>none
def DO(o:Nat)(cs:List V):Option AG:=match cs with
 | a0 :: a1 :: []=>(a0.ax).bind fun x0=>(a1.ax).bind fun x1=>some ⟨x0,x1⟩
 | _=>none
def DP(o:Nat)(cs:List V):Option wZ:=match cs with
 | a0 :: a1 :: a2 :: []=>(a0.ax).bind fun x0=>(a1.ax).bind fun x1=>(a2.ax).bind fun x2=>some ⟨x0,x1,x2⟩
 | _=>none
def DQ(o:Nat)(cs:List V):Option n8:=match cs with
 | a0 :: a1 :: []=>(a0.ax).bind fun x0=>(a1.ax).bind fun x1=>some ⟨x0,x1⟩
 | _=>none
def DR(o:Nat)(cs:List V):Option w4:=match cs with
 | a0 :: a1 :: a2 :: []=>(a0.ax).bind fun x0=>(a1.ax).bind fun x1=>(a2.ax).bind fun x2=>some ⟨x0,x1,x2⟩
 | _=>none
def DS(o:Nat)(cs:List V):Option AH:=match cs with
 | a0 :: []=>(a0.bN .str o).bind fun x0=>some ⟨x0⟩
 | _=>none
def DT(o:Nat)(cs:List V):Option AI:=match cs with
 | a0 :: a1 :: []=>(a0.bN .int o).bind fun x0=>(a1.ax).bind fun x1=>some ⟨x0,x1⟩
 | _=>none
def DU(o:Nat)(cs:List V):Option AJ:=match cs with
 | a0 :: a1 :: []=>(a0.ax).bind fun x0=>(a1.bN .Command o).bind fun x1=>some ⟨x0,x1⟩
 | _=>none
def DV(o:Nat)(cs:List V):Option uv:=match cs with
 | a0 :: a1 :: []=>(a0.ax).bind fun x0=>(a1.ax).bind fun x1=>some ⟨x0,x1⟩
 | _=>none
def DW(o:Nat)(cs:List V):Option w5:=match cs with
 | a0 :: a1 :: a2 :: []=>(a0.ax).bind fun x0=>(a1.bN .Node o).bind fun x1=>(a2.bN .Node o).bind fun x2=>some ⟨x0,x1,x2⟩
 | _=>none
def DX(o:Nat)(cs:List V):Option AK:=match cs with
 | a0 :: a1 :: a2 :: a3 :: a4 :: a5 :: []=>(a0.ax).bind fun x0=>(a1.ax).bind fun x1=>(a2.bN .Node o).bind fun x2=>(a3.bN .Node o).bind fun x3=>(a4.bN .int o).bind fun x4=>(a5.bN .int o).bind fun x5=>some ⟨x0,⟨x1,x2,x3⟩,x4,x5⟩
 | _=>none
def DY(o:Nat)(cs:List V):Option w6:=match cs with
 | a0 :: a1 :: a2 :: []=>(a0.ax).bind fun x0=>(a1.ax).bind fun x1=>(a2.ax).bind fun x2=>some ⟨x0,x1,x2⟩
 | _=>none
def DZ(o:Nat)(cs:List V):Option AL:=match cs with
 | a0 :: a1 :: a2 :: a3 :: a4 :: a5 :: []=>(a0.ax).bind fun x0=>(a1.bN .int o).bind fun x1=>(a2.gR).bind fun x2=>(a3.bN .int o).bind fun x3=>(a4.gR).bind fun x4=>(a5.ax).bind fun x5=>some ⟨x0,⟨x1,x2⟩,⟨x3,x4⟩,x5⟩
 | _=>none
def D0(o:Nat)(cs:List V):Option AM:=match cs with
 | a0 :: a1 :: a2 :: a3 :: []=>(a0.ax).bind fun x0=>(a1.ax).bind fun x1=>(a2.ax).bind fun x2=>(a3.ax).bind fun x3=>some ⟨x0,x1,x2,x3⟩
 | _=>none
def D1(o:Nat)(cs:List V):Option gv:=match cs with
 | a0 :: a1 :: a2 :: a3 :: a4 :: a5 :: a6 :: a7 :: []=>(a0.ax).bind fun x0=>(a1.ax).bind fun x1=>(a2.ax).bind fun x2=>(a3.ax).bind fun x3=>(a4.ax).bind fun x4=>(a5.bN .int o).bind fun x5=>(a6.ax).bind fun x6=>(a7.ax).bind fun x7=>some ⟨x0,x1,x2,x3,x4,x5,⟨x6,x7⟩⟩
 | _=>none
def D2(o:Nat)(cs:List V):Option w7:=match cs with
 | a0 :: a1 :: a2 :: a3 :: a4 :: a5 :: a6 :: a7 :: a8 :: a9 :: oa :: oc :: a12 :: od :: oe :: lE :: og :: []=>(a0.ax).bind fun x0=>(a1.ax).bind fun x1=>(a2.ax).bind fun x2=>(a3.ax).bind fun x3=>(a4.ax).bind fun x4=>(a5.bN .int o).bind fun x5=>(a6.ax).bind fun x6=>(a7.ax).bind fun x7=>(a8.ax).bind fun x8=>(a9.ax).bind fun x9=>(oa.ax).bind fun jK=>(oc.ax).bind fun jL=>(a12.ax).bind fun jM=>(od.bN .int o).bind fun jN=>(oe.ax).bind fun jO=>(lE.ax).bind fun jP=>(og.gR).bind fun jQ=>some ⟨⟨x0,x1,x2,x3,x4,x5,⟨x6,x7⟩⟩,⟨x8,x9,jK,jL,jM,jN,⟨jO,jP⟩⟩,jQ⟩
 | _=>none
def D3(o:Nat)(cs:List V):Option w8:=match cs with
 | a0 :: a1 :: a2 :: a3 :: a4 :: a5 :: a6 :: a7 :: a8 :: a9 :: oa :: oc :: a12 :: od :: oe :: lE :: og :: xF :: xG :: xH :: a20 :: a21 :: D4 :: D5 :: a24 :: D6 :: D7 :: D8 :: []=>(a0.ax).bind fun x0=>(a1.ax).bind fun x1=>(a2.ax).bind fun x2=>(a3.ax).bind fun x3=>(a4.ax).bind fun x4=>(a5.ax).bind fun x5=>(a6.ax).bind fun x6=>(a7.ax).bind fun x7=>(a8.ax).bind fun x8=>(a9.ax).bind fun x9=>(oa.ax).bind fun jK=>(oc.ax).bind fun jL=>(a12.ax).bind fun jM=>(od.ax).bind fun jN=>(oe.ax).bind fun jO=>(lE.ax).bind fun jP=>(og.ax).bind fun jQ=>(xF.ax).bind fun qJ=>(xG.ax).bind fun qK=>(xH.ax).bind fun qL=>(a20.ax).bind fun xI=>(a21.ax).bind fun xJ=>(D4.gR).bind fun xK=>(D5.ax).bind fun xL=>(a24.ax).bind fun xM=>(D6.ax).bind fun xN=>(D7.ax).bind fun xO=>(D8.ax).bind fun xP=>some ⟨⟨x0,x1,x2,x3⟩,⟨x4,x5,x6,x7,x8,x9,jK,jL,jM,jN,jO,jP,jQ,qJ,qK,qL,xI⟩,⟨xJ,xK⟩,xL,xM,xN,⟨xO,xP⟩⟩
 | _=>none
def D9(o:Nat)(cs:List V):Option w9:=match cs with
 | a0 :: a1 :: a2 :: a3 :: []=>(a0.ax).bind fun x0=>(a1.ax).bind fun x1=>(a2.ax).bind fun x2=>(a3.ax).bind fun x3=>some ⟨x0,x1,x2,x3⟩
 | _=>none
def AT(o:Nat)(cs:List V):Option xb:=match cs with
 | a0 :: a1 :: a2 :: a3 :: a4 :: a5 :: a6 :: a7 :: a8 :: a9 :: oa :: oc :: a12 :: od :: oe :: lE :: og :: xF :: xG :: xH :: a20 :: a21 :: D4 :: D5 :: a24 :: D6 :: D7 :: D8 :: a28 :: P7 :: P8 :: a31 :: P9 :: Qa :: Qb :: Qc :: Qd :: a37 :: Qe :: Qf :: a40 :: Qg :: Qh :: Qi :: Qj :: Qk :: a46 :: Ql :: Qm :: a49 :: Qn :: a51 :: Qo :: a53 :: Qp :: Qq :: Qr :: Qs :: Qt :: a59 :: Qu :: Qv :: Qx :: Qy :: Qz :: QA :: QB :: QC :: QD :: QE :: a70 :: QF :: a72 :: QG :: QH :: []=>(a0.ax).bind fun x0=>(a1.ax).bind fun x1=>(a2.ax).bind fun x2=>(a3.ax).bind fun x3=>(a4.ax).bind fun x4=>(a5.ax).bind fun x5=>(a6.ax).bind fun x6=>(a7.ax).bind fun x7=>(a8.ax).bind fun x8=>(a9.ax).bind fun x9=>(oa.ax).bind fun jK=>(oc.ax).bind fun jL=>(a12.ax).bind fun jM=>(od.ax).bind fun jN=>(oe.ax).bind fun jO=>(lE.ax).bind fun jP=>(og.ax).bind fun jQ=>(xF.ax).bind fun qJ=>(xG.ax).bind fun qK=>(xH.ax).bind fun qL=>(a20.ax).bind fun xI=>(a21.ax).bind fun xJ=>(D4.gR).bind fun xK=>(D5.ax).bind fun xL=>(a24.ax).bind fun xM=>(D6.ax).bind fun xN=>(D7.ax).bind fun xO=>(D8.ax).bind fun xP=>(a28.ax).bind fun IG=>(P7.ax).bind fun II=>(P8.ax).bind fun IJ=>(a31.ax).bind fun IK=>(P9.ax).bind fun IL=>(Qa.bN .int o).bind fun IM=>(Qb.ax).bind fun IN=>(Qc.ax).bind fun IP=>(Qd.ax).bind fun IQ=>(a37.ax).bind fun IS=>(Qe.ax).bind fun IT=>(Qf.ax).bind fun IU=>(a40.ax).bind fun IV=>(Qg.bN .int o).bind fun IW=>(Qh.ax).bind fun IX=>(Qi.ax).bind fun IY=>(Qj.gR).bind fun IZ=>(Qk.ax).bind fun I0=>(a46.bN .lC o).bind fun I1=>(Ql.ax).bind fun I2=>(Qm.bN .int o).bind fun I3=>(a49.bN .int o).bind fun I4=>(Qn.bN .Cell o).bind fun I5=>(a51.bN .int o).bind fun I6=>(Qo.bN .int o).bind fun I7=>(a53.ax).bind fun I8=>(Qp.bN .int o).bind fun I9=>(Qq.bN .int o).bind fun Ja=>(Qr.ax).bind fun Jb=>(Qs.gR).bind fun Jc=>(Qt.bN .mU o).bind fun Jd=>(a59.bN .int o).bind fun Je=>(Qu.bN .Addr o).bind fun Jf=>(Qv.bN .lD o).bind fun Jg=>(Qx.bN .mV o).bind fun Jh=>(Qy.gR).bind fun Ji=>(Qz.ax).bind fun Jj=>(QA.ax).bind fun Jk=>(QB.ax).bind fun Jl=>(QC.ax).bind fun Jm=>(QD.ax).bind fun Jn=>(QE.ax).bind fun Jo=>(a70.ax).bind fun Jp=>(QF.ax).bind fun Jq=>(a72.bN .mX o).bind fun Jr=>(QG.bN .Event o).bind fun Js=>(QH.bN .mY o).bind fun Jt=>some ⟨⟨⟨x0,x1,x2,x3⟩,⟨x4,x5,x6,x7,x8,x9,jK,jL,jM,jN,jO,jP,jQ,qJ,qK,qL,xI⟩,⟨xJ,xK⟩,xL,xM,xN,⟨xO,xP⟩⟩,⟨⟨IG,II,IJ,IK,IL,IM,⟨IN,IP⟩⟩,⟨IQ,IS,IT,IU,IV,IW,⟨IX,IY⟩⟩,IZ⟩,I0,⟨I1,I2⟩,⟨I3,I4⟩,⟨I5,I6,I7⟩,⟨I8,I9⟩,⟨Ja,Jb,Jc⟩,Jd,Je,Jf,Jg,Jh,⟨Ji,Jj,Jk⟩,⟨Jl,Jm,Jn⟩,⟨Jo,Jp,Jq⟩,Jr,Js,Jt⟩
 | _=>none
def Ea(o:Nat)(cs:List V):Option aL:=match cs with
 | a0 :: a1 :: a2 :: a3 :: a4 :: a5 :: a6 :: a7 :: a8 :: a9 :: oa :: oc :: a12 :: od :: oe :: lE :: og :: xF :: xG :: xH :: []=>(a0.ax).bind fun x0=>(a1.ax).bind fun x1=>(a2.ax).bind fun x2=>(a3.ax).bind fun x3=>(a4.gR).bind fun x4=>(a5.ax).bind fun x5=>(a6.ax).bind fun x6=>(a7.ax).bind fun x7=>(a8.ax).bind fun x8=>(a9.ax).bind fun x9=>(oa.ax).bind fun jK=>(oc.ax).bind fun jL=>(a12.ax).bind fun jM=>(od.ax).bind fun jN=>(oe.ax).bind fun jO=>(lE.ax).bind fun jP=>(og.ax).bind fun jQ=>(xF.bN .int o).bind fun qJ=>(xG.ax).bind fun qK=>(xH.ax).bind fun qL=>some ⟨x0,⟨x1,x2,x3,x4,x5,x6⟩,x7,x8,⟨x9,jK,jL⟩,⟨jM,jN,jO,jP,jQ,qJ,⟨qK,qL⟩⟩⟩
 | _=>none
def Eb(o:Nat)(cs:List V):Option AO:=match cs with
 | a0 :: a1 :: a2 :: []=>(a0.ax).bind fun x0=>(a1.ax).bind fun x1=>(a2.ax).bind fun x2=>some ⟨x0,x1,x2⟩
 | _=>none
def Ec(o:Nat)(cs:List V):Option AP:=match cs with
 | a0 :: a1 :: a2 :: []=>(a0.bN .u8 o).bind fun x0=>(a1.ax).bind fun x1=>(a2.ax).bind fun x2=>some ⟨x0,x1,x2⟩
 | _=>none
def qM{α:Type}(f:V->Option α):List V->Option α
 | [a]=>f a
 | _=>none
def Ed{α:Type}(f:List V->Option α):List V->Option α
 | .bool true :: cs=>f cs
 | _=>none
def uX{α:Type}(g:Nat)(f:List V->Option α):List V->Option α
 | .bool false :: .int .i64 n :: cs=>if n=(g:Int)then f cs else none
 | _=>none
def dec:(t:TC)->(o:Nat)->List V->Option (T t)
 | .int,_,cs=>qM V.ax cs
 | .u8,_,cs=>qM V.Dv cs
 | .bool,_,cs=>qM V.gR cs
 | .str,_,cs=>qM V.Dw cs
 | .qh,o,cs=>Dx o cs
 | .Addr,o,cs=>AQ o cs
 | .qi,o,cs=>Dy o cs
 | .qj,o,cs=>Dz o cs
 | .Command,o,cs=>AR o cs
 | .ql,o,cs=>DA o cs
 | .lC,o,cs=>DB o cs
 | .qm,o,cs=>DC o cs
 | .Event,o,cs=>DD o cs
 | .qp,o,cs=>DE o cs
 | .Cell,o,cs=>DF o cs
 | .Array,o,cs=>DG o cs
 | .qq,o,cs=>DH o cs
 | .mU,o,cs=>DI o cs
 | .qt,o,cs=>DJ o cs
 | .qu,o,cs=>DK o cs
 | .lD,o,cs=>AS o cs
 | .mV,o,cs=>DL o cs
 | .qv,o,cs=>DM o cs
 | .qw,o,cs=>DN o cs
 | .qx,o,cs=>DO o cs
 | .Power,o,cs=>DP o cs
 | .mW,o,cs=>DQ o cs
 | .mX,o,cs=>DR o cs
 | .qy,o,cs=>DS o cs
 | .qz,o,cs=>DT o cs
 | .Receiver,o,cs=>DU o cs
 | .Node,o,cs=>DV o cs
 | .Tree,o,cs=>DW o cs
 | .qA,o,cs=>DX o cs
 | .qB,o,cs=>DY o cs
 | .qC,o,cs=>DZ o cs
 | .Move,o,cs=>D0 o cs
 | .kH,o,cs=>D1 o cs
 | .qD,o,cs=>D2 o cs
 | .Config,o,cs=>D3 o cs
 | .mY,o,cs=>D9 o cs
 | .n9,o,cs=>AT o cs
 | .Act,o,cs=>Ea o cs
 | .Fact,o,cs=>Eb o cs
 | .qE,o,cs=>Ec o cs
 | .sl t,o,cs=>qM (V.bN t o) cs
 | .uw,o,cs=>Ed (AT o) cs
 | .ux g,o,cs=>uX g (qM V.ax) cs
 | .uy g,o,cs=>uX g (AS o) cs
 | .uz g,o,cs=>uX g (AQ o) cs
 | .fnCommand g,o,cs=>uX g (AR o) cs
def Ju:TC->Nat->List V
 | .n9,o=>qI o ⟨⟨⟨0,0,0,0⟩,⟨0,0,0,0,0,0,0,0,0,0,0,0,0,0,0,0,0⟩,⟨0,false⟩,0,0,0,⟨0,0⟩⟩,⟨⟨0,0,0,0,0,[],⟨0,0⟩⟩,⟨0,0,0,0,0,[],⟨0,0⟩⟩,false⟩,0,⟨[],0⟩,⟨[],[]⟩,⟨[],[],[]⟩,⟨0,[]⟩,⟨[],0,false⟩,[],[],[],[],[],⟨false,0,0⟩,⟨0,0,0⟩,⟨0,0,0⟩,[],[],[]⟩
 | _,_=>[]
theorem iF(t:TC)(o:Nat)(x:T t):(enc t o x).length=aj t:=by cases t <;>rfl
theorem lF(t:TC):0<aj t:=by cases t <;>simp[aj]
theorem bind_some{α β:Type}{a:Option α}{f:α->Option β}{b:β}(h:a.bind f=some b):∃ x,a=some x/\f x=some b:=by
 cases a with
 | none=>cases h
 | some x=>exact⟨x,rfl,h⟩
theorem QI(o:Nat)(cs:List V)(x:wK)(h:Dx o cs=some x):aK cs (uB o x):=by
 unfold Dx at h
 split at h
 ·obtain⟨x0,h0,h⟩:=bind_some h
  obtain⟨x1,h1,h⟩:=bind_some h
  obtain⟨x2,h2,h⟩:=bind_some h
  obtain⟨x3,h3,h⟩:=bind_some h
  injection h with h
  subst h
  exact(.cons (V.ay h0) (.cons (V.ay h1) (.cons (V.ay h2) (.cons (V.ay h3) aK.nil))))
 ·cases h
theorem Jv(o:Nat)(cs:List V)(x:lZ)(h:AQ o cs=some x):aK cs (qF o x):=by
 unfold AQ at h
 split at h
 ·obtain⟨x0,h0,h⟩:=bind_some h
  obtain⟨x1,h1,h⟩:=bind_some h
  obtain⟨x2,h2,h⟩:=bind_some h
  injection h with h
  subst h
  exact(.cons (V.ay h0) (.cons (V.ay h1) (.cons (V.ay h2) aK.nil)))
 ·cases h
theorem QJ(o:Nat)(cs:List V)(x:wL)(h:Dy o cs=some x):aK cs (uC o x):=by
 unfold Dy at h
 split at h
 ·obtain⟨x0,h0,h⟩:=bind_some h
  obtain⟨x1,h1,h⟩:=bind_some h
  injection h with h
  subst h
  exact(.cons (V.ay h0) (.cons (V.iZ h1) aK.nil))
 ·cases h
theorem QK(o:Nat)(cs:List V)(x:AE)(h:Dz o cs=some x):aK cs (xd o x):=by
 unfold Dz at h
 split at h
 ·obtain⟨x0,h0,h⟩:=bind_some h
  injection h with h
  subst h
  exact(.cons (V.bR h0) aK.nil)
 ·cases h
theorem Jw(o:Nat)(cs:List V)(x:sr)(h:AR o cs=some x):aK cs (qG o x):=by
 unfold AR at h
 split at h
 ·obtain⟨x0,h0,h⟩:=bind_some h
  obtain⟨x1,h1,h⟩:=bind_some h
  obtain⟨x2,h2,h⟩:=bind_some h
  obtain⟨x3,h3,h⟩:=bind_some h
  injection h with h
  subst h
  exact(.cons (V.ay h0) (.cons (V.ay h1) (.cons (V.ay h2) (.cons (V.ay h3) aK.nil))))
 ·cases h
theorem QL(o:Nat)(cs:List V)(x:wM)(h:DA o cs=some x):aK cs (uD o x):=by
 unfold DA at h
 split at h
 ·obtain⟨x0,h0,h⟩:=bind_some h
  obtain⟨x1,h1,h⟩:=bind_some h
  obtain⟨x2,h2,h⟩:=bind_some h
  obtain⟨x3,h3,h⟩:=bind_some h
  obtain⟨x4,h4,h⟩:=bind_some h
  obtain⟨x5,h5,h⟩:=bind_some h
  obtain⟨x6,h6,h⟩:=bind_some h
  obtain⟨x7,h7,h⟩:=bind_some h
  obtain⟨x8,h8,h⟩:=bind_some h
  obtain⟨x9,h9,h⟩:=bind_some h
  obtain⟨jK,iG,h⟩:=bind_some h
  obtain⟨jL,b7,h⟩:=bind_some h
  obtain⟨jM,jo,h⟩:=bind_some h
  obtain⟨jN,kI,h⟩:=bind_some h
  obtain⟨jO,lG,h⟩:=bind_some h
  obtain⟨jP,jq,h⟩:=bind_some h
  obtain⟨jQ,jr,h⟩:=bind_some h
  injection h with h
  subst h
  exact(.cons (V.ay h0) (.cons (V.ay h1) (.cons (V.ay h2) (.cons (V.ay h3) (.cons (V.ay h4) (.cons (V.ay h5) (.cons (V.ay h6) (.cons (V.ay h7) (.cons (V.ay h8) (.cons (V.ay h9) (.cons (V.ay iG) (.cons (V.ay b7) (.cons (V.ay jo) (.cons (V.ay kI) (.cons (V.ay lG) (.cons (V.ay jq) (.cons (V.ay jr) aK.nil)))))))))))))))))
 ·cases h
theorem QM(o:Nat)(cs:List V)(x:wN)(h:DB o cs=some x):aK cs (uE o x):=by
 unfold DB at h
 split at h
 ·obtain⟨x0,h0,h⟩:=bind_some h
  obtain⟨x1,h1,h⟩:=bind_some h
  injection h with h
  subst h
  exact(.cons (V.iZ h0) (.cons (V.ay h1) aK.nil))
 ·cases h
theorem QN(o:Nat)(cs:List V)(x:wO)(h:DC o cs=some x):aK cs (xe o x):=by
 unfold DC at h
 split at h
 ·obtain⟨x0,h0,h⟩:=bind_some h
  obtain⟨x1,h1,h⟩:=bind_some h
  injection h with h
  subst h
  exact(.cons (V.bR h0) (.cons (V.ay h1) aK.nil))
 ·cases h
theorem QO(o:Nat)(cs:List V)(x:wP)(h:DD o cs=some x):aK cs (uG o x):=by
 unfold DD at h
 split at h
 ·obtain⟨x0,h0,h⟩:=bind_some h
  obtain⟨x1,h1,h⟩:=bind_some h
  obtain⟨x2,h2,h⟩:=bind_some h
  obtain⟨x3,h3,h⟩:=bind_some h
  obtain⟨x4,h4,h⟩:=bind_some h
  injection h with h
  subst h
  exact(.cons (V.ay h0) (.cons (V.ay h1) (.cons (V.ay h2) (.cons (V.ay h3) (.cons (V.ay h4) aK.nil)))))
 ·cases h
theorem QS(o:Nat)(cs:List V)(x:wQ)(h:DE o cs=some x):aK cs (xg o x):=by
 unfold DE at h
 split at h
 ·obtain⟨x0,h0,h⟩:=bind_some h
  obtain⟨x1,h1,h⟩:=bind_some h
  injection h with h
  subst h
  exact(.cons (V.bR h0) (.cons (V.bR h1) aK.nil))
 ·cases h
theorem QT(o:Nat)(cs:List V)(x:su)(h:DF o cs=some x):aK cs (xh o x):=by
 unfold DF at h
 split at h
 ·obtain⟨x0,h0,h⟩:=bind_some h
  obtain⟨x1,h1,h⟩:=bind_some h
  injection h with h
  subst h
  exact(.cons (V.bR h0) (.cons (V.iZ h1) aK.nil))
 ·cases h
theorem QU(o:Nat)(cs:List V)(x:wR)(h:DG o cs=some x):aK cs (xj o x):=by
 unfold DG at h
 split at h
 ·obtain⟨x0,h0,h⟩:=bind_some h
  obtain⟨x1,h1,h⟩:=bind_some h
  obtain⟨x2,h2,h⟩:=bind_some h
  injection h with h
  subst h
  exact(.cons (V.bR h0) (.cons (V.bR h1) (.cons (V.bR h2) aK.nil)))
 ·cases h
theorem QV(o:Nat)(cs:List V)(x:wS)(h:DH o cs=some x):aK cs (uH o x):=by
 unfold DH at h
 split at h
 ·obtain⟨x0,h0,h⟩:=bind_some h
  obtain⟨x1,h1,h⟩:=bind_some h
  injection h with h
  subst h
  exact(.cons (V.ay h0) (.cons (V.ay h1) aK.nil))
 ·cases h
theorem QW(o:Nat)(cs:List V)(x:wT)(h:DI o cs=some x):aK cs (xk o x):=by
 unfold DI at h
 split at h
 ·obtain⟨x0,h0,h⟩:=bind_some h
  obtain⟨x1,h1,h⟩:=bind_some h
  obtain⟨x2,h2,h⟩:=bind_some h
  injection h with h
  subst h
  exact(.cons (V.bR h0) (.cons (V.bR h1) (.cons (V.ay h2) aK.nil)))
 ·cases h
theorem QX(o:Nat)(cs:List V)(x:wU)(h:DJ o cs=some x):aK cs (xl o x):=by
 unfold DJ at h
 split at h
 ·obtain⟨x0,h0,h⟩:=bind_some h
  obtain⟨x1,h1,h⟩:=bind_some h
  injection h with h
  subst h
  exact(.cons (V.ay h0) (.cons (V.bR h1) aK.nil))
 ·cases h
theorem QY(o:Nat)(cs:List V)(x:wW)(h:DK o cs=some x):aK cs (xm o x):=by
 unfold DK at h
 split at h
 ·obtain⟨x0,h0,h⟩:=bind_some h
  obtain⟨x1,h1,h⟩:=bind_some h
  obtain⟨x2,h2,h⟩:=bind_some h
  injection h with h
  subst h
  exact(.cons (V.bR h0) (.cons (V.ay h1) (.cons (V.iZ h2) aK.nil)))
 ·cases h
theorem Jx(o:Nat)(cs:List V)(x:lB)(h:AS o cs=some x):aK cs (qH o x):=by
 unfold AS at h
 split at h
 ·obtain⟨x0,h0,h⟩:=bind_some h
  obtain⟨x1,h1,h⟩:=bind_some h
  obtain⟨x2,h2,h⟩:=bind_some h
  obtain⟨x3,h3,h⟩:=bind_some h
  obtain⟨x4,h4,h⟩:=bind_some h
  obtain⟨x5,h5,h⟩:=bind_some h
  injection h with h
  subst h
  exact(.cons (V.ay h0) (.cons (V.ay h1) (.cons (V.ay h2) (.cons (V.iZ h3) (.cons (V.ay h4) (.cons (V.ay h5) aK.nil))))))
 ·cases h
theorem QZ(o:Nat)(cs:List V)(x:wX)(h:DL o cs=some x):aK cs (uI o x):=by
 unfold DL at h
 split at h
 ·obtain⟨x0,h0,h⟩:=bind_some h
  obtain⟨x1,h1,h⟩:=bind_some h
  injection h with h
  subst h
  exact(.cons (V.ay h0) (.cons (V.ay h1) aK.nil))
 ·cases h
theorem Q0(o:Nat)(cs:List V)(x:wY)(h:DM o cs=some x):aK cs (uJ o x):=by
 unfold DM at h
 split at h
 ·obtain⟨x0,h0,h⟩:=bind_some h
  obtain⟨x1,h1,h⟩:=bind_some h
  obtain⟨x2,h2,h⟩:=bind_some h
  injection h with h
  subst h
  exact(.cons (V.iZ h0) (.cons (V.ay h1) (.cons (V.ay h2) aK.nil)))
 ·cases h
theorem Q1(o:Nat)(cs:List V)(x:AF)(h:DN o cs=some x):aK cs (xq o x):=by
 unfold DN at h
 split at h
 ·obtain⟨x0,h0,h⟩:=bind_some h
  obtain⟨x1,h1,h⟩:=bind_some h
  injection h with h
  subst h
  exact(.cons (V.bR h0) (.cons (V.ay h1) aK.nil))
 ·cases h
theorem Q2(o:Nat)(cs:List V)(x:AG)(h:DO o cs=some x):aK cs (uK o x):=by
 unfold DO at h
 split at h
 ·obtain⟨x0,h0,h⟩:=bind_some h
  obtain⟨x1,h1,h⟩:=bind_some h
  injection h with h
  subst h
  exact(.cons (V.ay h0) (.cons (V.ay h1) aK.nil))
 ·cases h
theorem Q3(o:Nat)(cs:List V)(x:wZ)(h:DP o cs=some x):aK cs (uL o x):=by
 unfold DP at h
 split at h
 ·obtain⟨x0,h0,h⟩:=bind_some h
  obtain⟨x1,h1,h⟩:=bind_some h
  obtain⟨x2,h2,h⟩:=bind_some h
  injection h with h
  subst h
  exact(.cons (V.ay h0) (.cons (V.ay h1) (.cons (V.ay h2) aK.nil)))
 ·cases h
theorem Q4(o:Nat)(cs:List V)(x:n8)(h:DQ o cs=some x):aK cs (uM o x):=by
 unfold DQ at h
 split at h
 ·obtain⟨x0,h0,h⟩:=bind_some h
  obtain⟨x1,h1,h⟩:=bind_some h
  injection h with h
  subst h
  exact(.cons (V.ay h0) (.cons (V.ay h1) aK.nil))
 ·cases h
theorem Q5(o:Nat)(cs:List V)(x:w4)(h:DR o cs=some x):aK cs (uO o x):=by
 unfold DR at h
 split at h
 ·obtain⟨x0,h0,h⟩:=bind_some h
  obtain⟨x1,h1,h⟩:=bind_some h
  obtain⟨x2,h2,h⟩:=bind_some h
  injection h with h
  subst h
  exact(.cons (V.ay h0) (.cons (V.ay h1) (.cons (V.ay h2) aK.nil)))
 ·cases h
theorem Q6(o:Nat)(cs:List V)(x:AH)(h:DS o cs=some x):aK cs (xu o x):=by
 unfold DS at h
 split at h
 ·obtain⟨x0,h0,h⟩:=bind_some h
  injection h with h
  subst h
  exact(.cons (V.bR h0) aK.nil)
 ·cases h
theorem Q7(o:Nat)(cs:List V)(x:AI)(h:DT o cs=some x):aK cs (xw o x):=by
 unfold DT at h
 split at h
 ·obtain⟨x0,h0,h⟩:=bind_some h
  obtain⟨x1,h1,h⟩:=bind_some h
  injection h with h
  subst h
  exact(.cons (V.bR h0) (.cons (V.ay h1) aK.nil))
 ·cases h
theorem Q8(o:Nat)(cs:List V)(x:AJ)(h:DU o cs=some x):aK cs (xx o x):=by
 unfold DU at h
 split at h
 ·obtain⟨x0,h0,h⟩:=bind_some h
  obtain⟨x1,h1,h⟩:=bind_some h
  injection h with h
  subst h
  exact(.cons (V.ay h0) (.cons (V.bR h1) aK.nil))
 ·cases h
theorem Q9(o:Nat)(cs:List V)(x:uv)(h:DV o cs=some x):aK cs (uQ o x):=by
 unfold DV at h
 split at h
 ·obtain⟨x0,h0,h⟩:=bind_some h
  obtain⟨x1,h1,h⟩:=bind_some h
  injection h with h
  subst h
  exact(.cons (V.ay h0) (.cons (V.ay h1) aK.nil))
 ·cases h
theorem Ra(o:Nat)(cs:List V)(x:w5)(h:DW o cs=some x):aK cs (xy o x):=by
 unfold DW at h
 split at h
 ·obtain⟨x0,h0,h⟩:=bind_some h
  obtain⟨x1,h1,h⟩:=bind_some h
  obtain⟨x2,h2,h⟩:=bind_some h
  injection h with h
  subst h
  exact(.cons (V.ay h0) (.cons (V.bR h1) (.cons (V.bR h2) aK.nil)))
 ·cases h
theorem Rb(o:Nat)(cs:List V)(x:AK)(h:DX o cs=some x):aK cs (xz o x):=by
 unfold DX at h
 split at h
 ·obtain⟨x0,h0,h⟩:=bind_some h
  obtain⟨x1,h1,h⟩:=bind_some h
  obtain⟨x2,h2,h⟩:=bind_some h
  obtain⟨x3,h3,h⟩:=bind_some h
  obtain⟨x4,h4,h⟩:=bind_some h
  obtain⟨x5,h5,h⟩:=bind_some h
  injection h with h
  subst h
  exact(.cons (V.ay h0) (.cons (V.ay h1) (.cons (V.bR h2) (.cons (V.bR h3) (.cons (V.bR h4) (.cons (V.bR h5) aK.nil))))))
 ·cases h
theorem Rc(o:Nat)(cs:List V)(x:w6)(h:DY o cs=some x):aK cs (uS o x):=by
 unfold DY at h
 split at h
 ·obtain⟨x0,h0,h⟩:=bind_some h
  obtain⟨x1,h1,h⟩:=bind_some h
  obtain⟨x2,h2,h⟩:=bind_some h
  injection h with h
  subst h
  exact(.cons (V.ay h0) (.cons (V.ay h1) (.cons (V.ay h2) aK.nil)))
 ·cases h
theorem Rd(o:Nat)(cs:List V)(x:AL)(h:DZ o cs=some x):aK cs (xA o x):=by
 unfold DZ at h
 split at h
 ·obtain⟨x0,h0,h⟩:=bind_some h
  obtain⟨x1,h1,h⟩:=bind_some h
  obtain⟨x2,h2,h⟩:=bind_some h
  obtain⟨x3,h3,h⟩:=bind_some h
  obtain⟨x4,h4,h⟩:=bind_some h
  obtain⟨x5,h5,h⟩:=bind_some h
  injection h with h
  subst h
  exact(.cons (V.ay h0) (.cons (V.bR h1) (.cons (V.iZ h2) (.cons (V.bR h3) (.cons (V.iZ h4) (.cons (V.ay h5) aK.nil))))))
 ·cases h
theorem Re(o:Nat)(cs:List V)(x:AM)(h:D0 o cs=some x):aK cs (uT o x):=by
 unfold D0 at h
 split at h
 ·obtain⟨x0,h0,h⟩:=bind_some h
  obtain⟨x1,h1,h⟩:=bind_some h
  obtain⟨x2,h2,h⟩:=bind_some h
  obtain⟨x3,h3,h⟩:=bind_some h
  injection h with h
  subst h
  exact(.cons (V.ay h0) (.cons (V.ay h1) (.cons (V.ay h2) (.cons (V.ay h3) aK.nil))))
 ·cases h
theorem Rf(o:Nat)(cs:List V)(x:gv)(h:D1 o cs=some x):aK cs (xB o x):=by
 unfold D1 at h
 split at h
 ·obtain⟨x0,h0,h⟩:=bind_some h
  obtain⟨x1,h1,h⟩:=bind_some h
  obtain⟨x2,h2,h⟩:=bind_some h
  obtain⟨x3,h3,h⟩:=bind_some h
  obtain⟨x4,h4,h⟩:=bind_some h
  obtain⟨x5,h5,h⟩:=bind_some h
  obtain⟨x6,h6,h⟩:=bind_some h
  obtain⟨x7,h7,h⟩:=bind_some h
  injection h with h
  subst h
  exact(.cons (V.ay h0) (.cons (V.ay h1) (.cons (V.ay h2) (.cons (V.ay h3) (.cons (V.ay h4) (.cons (V.bR h5) (.cons (V.ay h6) (.cons (V.ay h7) aK.nil))))))))
 ·cases h
theorem Rg(o:Nat)(cs:List V)(x:w7)(h:D2 o cs=some x):aK cs (xC o x):=by
 unfold D2 at h
 split at h
 ·obtain⟨x0,h0,h⟩:=bind_some h
  obtain⟨x1,h1,h⟩:=bind_some h
  obtain⟨x2,h2,h⟩:=bind_some h
  obtain⟨x3,h3,h⟩:=bind_some h
  obtain⟨x4,h4,h⟩:=bind_some h
  obtain⟨x5,h5,h⟩:=bind_some h
  obtain⟨x6,h6,h⟩:=bind_some h
  obtain⟨x7,h7,h⟩:=bind_some h
  obtain⟨x8,h8,h⟩:=bind_some h
  obtain⟨x9,h9,h⟩:=bind_some h
  obtain⟨jK,iG,h⟩:=bind_some h
  obtain⟨jL,b7,h⟩:=bind_some h
  obtain⟨jM,jo,h⟩:=bind_some h
  obtain⟨jN,kI,h⟩:=bind_some h
  obtain⟨jO,lG,h⟩:=bind_some h
  obtain⟨jP,jq,h⟩:=bind_some h
  obtain⟨jQ,jr,h⟩:=bind_some h
  injection h with h
  subst h
  exact(.cons (V.ay h0) (.cons (V.ay h1) (.cons (V.ay h2) (.cons (V.ay h3) (.cons (V.ay h4) (.cons (V.bR h5) (.cons (V.ay h6) (.cons (V.ay h7) (.cons (V.ay h8) (.cons (V.ay h9) (.cons (V.ay iG) (.cons (V.ay b7) (.cons (V.ay jo) (.cons (V.bR kI) (.cons (V.ay lG) (.cons (V.ay jq) (.cons (V.iZ jr) aK.nil)))))))))))))))))
 ·cases h
theorem Rh(o:Nat)(cs:List V)(x:w8)(h:D3 o cs=some x):aK cs (uU o x):=by
 unfold D3 at h
 split at h
 ·obtain⟨x0,h0,h⟩:=bind_some h
  obtain⟨x1,h1,h⟩:=bind_some h
  obtain⟨x2,h2,h⟩:=bind_some h
  obtain⟨x3,h3,h⟩:=bind_some h
  obtain⟨x4,h4,h⟩:=bind_some h
  obtain⟨x5,h5,h⟩:=bind_some h
  obtain⟨x6,h6,h⟩:=bind_some h
  obtain⟨x7,h7,h⟩:=bind_some h
  obtain⟨x8,h8,h⟩:=bind_some h
  obtain⟨x9,h9,h⟩:=bind_some h
  obtain⟨jK,iG,h⟩:=bind_some h
  obtain⟨jL,b7,h⟩:=bind_some h
  obtain⟨jM,jo,h⟩:=bind_some h
  obtain⟨jN,kI,h⟩:=bind_some h
  obtain⟨jO,lG,h⟩:=bind_some h
  obtain⟨jP,jq,h⟩:=bind_some h
  obtain⟨jQ,jr,h⟩:=bind_some h
  obtain⟨qJ,qN,h⟩:=bind_some h
  obtain⟨qK,oh,h⟩:=bind_some h
  obtain⟨qL,uY,h⟩:=bind_some h
  obtain⟨xI,lH,h⟩:=bind_some h
  obtain⟨xJ,xQ,h⟩:=bind_some h
  obtain⟨xK,xR,h⟩:=bind_some h
  obtain⟨xL,AU,h⟩:=bind_some h
  obtain⟨xM,kJ,h⟩:=bind_some h
  obtain⟨xN,Ee,h⟩:=bind_some h
  obtain⟨xO,uZ,h⟩:=bind_some h
  obtain⟨xP,xS,h⟩:=bind_some h
  injection h with h
  subst h
  exact(.cons (V.ay h0) (.cons (V.ay h1) (.cons (V.ay h2) (.cons (V.ay h3) (.cons (V.ay h4) (.cons (V.ay h5) (.cons (V.ay h6) (.cons (V.ay h7) (.cons (V.ay h8) (.cons (V.ay h9) (.cons (V.ay iG) (.cons (V.ay b7) (.cons (V.ay jo) (.cons (V.ay kI) (.cons (V.ay lG) (.cons (V.ay jq) (.cons (V.ay jr) (.cons (V.ay qN) (.cons (V.ay oh) (.cons (V.ay uY) (.cons (V.ay lH) (.cons (V.ay xQ) (.cons (V.iZ xR) (.cons (V.ay AU) (.cons (V.ay kJ) (.cons (V.ay Ee) (.cons (V.ay uZ) (.cons (V.ay xS) aK.nil))))))))))))))))))))))))))))
 ·cases h
theorem Ri(o:Nat)(cs:List V)(x:w9)(h:D9 o cs=some x):aK cs (uV o x):=by
 unfold D9 at h
 split at h
 ·obtain⟨x0,h0,h⟩:=bind_some h
  obtain⟨x1,h1,h⟩:=bind_some h
  obtain⟨x2,h2,h⟩:=bind_some h
  obtain⟨x3,h3,h⟩:=bind_some h
  injection h with h
  subst h
  exact(.cons (V.ay h0) (.cons (V.ay h1) (.cons (V.ay h2) (.cons (V.ay h3) aK.nil))))
 ·cases h
theorem Jy(o:Nat)(cs:List V)(x:xb)(h:AT o cs=some x):aK cs (qI o x):=by
 unfold AT at h
 split at h
 ·obtain⟨x0,h0,h⟩:=bind_some h
  obtain⟨x1,h1,h⟩:=bind_some h
  obtain⟨x2,h2,h⟩:=bind_some h
  obtain⟨x3,h3,h⟩:=bind_some h
  obtain⟨x4,h4,h⟩:=bind_some h
  obtain⟨x5,h5,h⟩:=bind_some h
  obtain⟨x6,h6,h⟩:=bind_some h
  obtain⟨x7,h7,h⟩:=bind_some h
  obtain⟨x8,h8,h⟩:=bind_some h
  obtain⟨x9,h9,h⟩:=bind_some h
  obtain⟨jK,iG,h⟩:=bind_some h
  obtain⟨jL,b7,h⟩:=bind_some h
  obtain⟨jM,jo,h⟩:=bind_some h
  obtain⟨jN,kI,h⟩:=bind_some h
  obtain⟨jO,lG,h⟩:=bind_some h
  obtain⟨jP,jq,h⟩:=bind_some h
  obtain⟨jQ,jr,h⟩:=bind_some h
  obtain⟨qJ,qN,h⟩:=bind_some h
  obtain⟨qK,oh,h⟩:=bind_some h
  obtain⟨qL,uY,h⟩:=bind_some h
  obtain⟨xI,lH,h⟩:=bind_some h
  obtain⟨xJ,xQ,h⟩:=bind_some h
  obtain⟨xK,xR,h⟩:=bind_some h
  obtain⟨xL,AU,h⟩:=bind_some h
  obtain⟨xM,kJ,h⟩:=bind_some h
  obtain⟨xN,Ee,h⟩:=bind_some h
  obtain⟨xO,uZ,h⟩:=bind_some h
  obtain⟨xP,xS,h⟩:=bind_some h
  obtain⟨IG,Ef,h⟩:=bind_some h
  obtain⟨II,Jz,h⟩:=bind_some h
  obtain⟨IJ,xT,h⟩:=bind_some h
  obtain⟨IK,Rj,h⟩:=bind_some h
  obtain⟨IL,qO,h⟩:=bind_some h
  obtain⟨IM,Eg,h⟩:=bind_some h
  obtain⟨IN,Eh,h⟩:=bind_some h
  obtain⟨IP,JA,h⟩:=bind_some h
  obtain⟨IQ,xU,h⟩:=bind_some h
  obtain⟨IS,Rk,h⟩:=bind_some h
  obtain⟨IT,AV,h⟩:=bind_some h
  obtain⟨IU,Ei,h⟩:=bind_some h
  obtain⟨IV,Ro,h⟩:=bind_some h
  obtain⟨IW,JB,h⟩:=bind_some h
  obtain⟨IX,Ej,h⟩:=bind_some h
  obtain⟨IY,Rp,h⟩:=bind_some h
  obtain⟨IZ,JC,h⟩:=bind_some h
  obtain⟨I0,Ek,h⟩:=bind_some h
  obtain⟨I1,Rq,h⟩:=bind_some h
  obtain⟨I2,JD,h⟩:=bind_some h
  obtain⟨I3,mZ,h⟩:=bind_some h
  obtain⟨I4,Rr,h⟩:=bind_some h
  obtain⟨I5,JE,h⟩:=bind_some h
  obtain⟨I6,El,h⟩:=bind_some h
  obtain⟨I7,Rs,h⟩:=bind_some h
  obtain⟨I8,JF,h⟩:=bind_some h
  obtain⟨I9,Em,h⟩:=bind_some h
  obtain⟨Ja,Rt,h⟩:=bind_some h
  obtain⟨Jb,JG,h⟩:=bind_some h
  obtain⟨Jc,En,h⟩:=bind_some h
  obtain⟨Jd,Ru,h⟩:=bind_some h
  obtain⟨Je,JH,h⟩:=bind_some h
  obtain⟨Jf,Eo,h⟩:=bind_some h
  obtain⟨Jg,Rv,h⟩:=bind_some h
  obtain⟨Jh,JI,h⟩:=bind_some h
  obtain⟨Ji,qd,h⟩:=bind_some h
  obtain⟨Jj,Rw,h⟩:=bind_some h
  obtain⟨Jk,JJ,h⟩:=bind_some h
  obtain⟨Jl,Ep,h⟩:=bind_some h
  obtain⟨Jm,Rx,h⟩:=bind_some h
  obtain⟨Jn,JK,h⟩:=bind_some h
  obtain⟨Jo,Er,h⟩:=bind_some h
  obtain⟨Jp,Ry,h⟩:=bind_some h
  obtain⟨Jq,Rz,h⟩:=bind_some h
  obtain⟨Jr,RB,h⟩:=bind_some h
  obtain⟨Js,RC,h⟩:=bind_some h
  obtain⟨Jt,RD,h⟩:=bind_some h
  injection h with h
  subst h
  exact(.cons (V.ay h0) (.cons (V.ay h1) (.cons (V.ay h2) (.cons (V.ay h3) (.cons (V.ay h4) (.cons (V.ay h5) (.cons (V.ay h6) (.cons (V.ay h7) (.cons (V.ay h8) (.cons (V.ay h9) (.cons (V.ay iG) (.cons (V.ay b7) (.cons (V.ay jo) (.cons (V.ay kI) (.cons (V.ay lG) (.cons (V.ay jq) (.cons (V.ay jr) (.cons (V.ay qN) (.cons (V.ay oh) (.cons (V.ay uY) (.cons (V.ay lH) (.cons (V.ay xQ) (.cons (V.iZ xR) (.cons (V.ay AU) (.cons (V.ay kJ) (.cons (V.ay Ee) (.cons (V.ay uZ) (.cons (V.ay xS) (.cons (V.ay Ef) (.cons (V.ay Jz) (.cons (V.ay xT) (.cons (V.ay Rj) (.cons (V.ay qO) (.cons (V.bR Eg) (.cons (V.ay Eh) (.cons (V.ay JA) (.cons (V.ay xU) (.cons (V.ay Rk) (.cons (V.ay AV) (.cons (V.ay Ei) (.cons (V.ay Ro) (.cons (V.bR JB) (.cons (V.ay Ej) (.cons (V.ay Rp) (.cons (V.iZ JC) (.cons (V.ay Ek) (.cons (V.bR Rq) (.cons (V.ay JD) (.cons (V.bR mZ) (.cons (V.bR Rr) (.cons (V.bR JE) (.cons (V.bR El) (.cons (V.bR Rs) (.cons (V.ay JF) (.cons (V.bR Em) (.cons (V.bR Rt) (.cons (V.ay JG) (.cons (V.iZ En) (.cons (V.bR Ru) (.cons (V.bR JH) (.cons (V.bR Eo) (.cons (V.bR Rv) (.cons (V.bR JI) (.cons (V.iZ qd) (.cons (V.ay Rw) (.cons (V.ay JJ) (.cons (V.ay Ep) (.cons (V.ay Rx) (.cons (V.ay JK) (.cons (V.ay Er) (.cons (V.ay Ry) (.cons (V.ay Rz) (.cons (V.bR RB) (.cons (V.bR RC) (.cons (V.bR RD) aK.nil)))))))))))))))))))))))))))))))))))))))))))))))))))))))))))))))))))))))))))
 ·cases h
theorem RE(o:Nat)(cs:List V)(x:aL)(h:Ea o cs=some x):aK cs (xD o x):=by
 unfold Ea at h
 split at h
 ·obtain⟨x0,h0,h⟩:=bind_some h
  obtain⟨x1,h1,h⟩:=bind_some h
  obtain⟨x2,h2,h⟩:=bind_some h
  obtain⟨x3,h3,h⟩:=bind_some h
  obtain⟨x4,h4,h⟩:=bind_some h
  obtain⟨x5,h5,h⟩:=bind_some h
  obtain⟨x6,h6,h⟩:=bind_some h
  obtain⟨x7,h7,h⟩:=bind_some h
  obtain⟨x8,h8,h⟩:=bind_some h
  obtain⟨x9,h9,h⟩:=bind_some h
  obtain⟨jK,iG,h⟩:=bind_some h
  obtain⟨jL,b7,h⟩:=bind_some h
  obtain⟨jM,jo,h⟩:=bind_some h
  obtain⟨jN,kI,h⟩:=bind_some h
  obtain⟨jO,lG,h⟩:=bind_some h
  obtain⟨jP,jq,h⟩:=bind_some h
  obtain⟨jQ,jr,h⟩:=bind_some h
  obtain⟨qJ,qN,h⟩:=bind_some h
  obtain⟨qK,oh,h⟩:=bind_some h
  obtain⟨qL,uY,h⟩:=bind_some h
  injection h with h
  subst h
  exact(.cons (V.ay h0) (.cons (V.ay h1) (.cons (V.ay h2) (.cons (V.ay h3) (.cons (V.iZ h4) (.cons (V.ay h5) (.cons (V.ay h6) (.cons (V.ay h7) (.cons (V.ay h8) (.cons (V.ay h9) (.cons (V.ay iG) (.cons (V.ay b7) (.cons (V.ay jo) (.cons (V.ay kI) (.cons (V.ay lG) (.cons (V.ay jq) (.cons (V.ay jr) (.cons (V.bR qN) (.cons (V.ay oh) (.cons (V.ay uY) aK.nil))))))))))))))))))))
 ·cases h
theorem RG(o:Nat)(cs:List V)(x:AO)(h:Eb o cs=some x):aK cs (uW o x):=by
 unfold Eb at h
 split at h
 ·obtain⟨x0,h0,h⟩:=bind_some h
  obtain⟨x1,h1,h⟩:=bind_some h
  obtain⟨x2,h2,h⟩:=bind_some h
  injection h with h
  subst h
  exact(.cons (V.ay h0) (.cons (V.ay h1) (.cons (V.ay h2) aK.nil)))
 ·cases h
theorem RH(o:Nat)(cs:List V)(x:AP)(h:Ec o cs=some x):aK cs (xE o x):=by
 unfold Ec at h
 split at h
 ·obtain⟨x0,h0,h⟩:=bind_some h
  obtain⟨x1,h1,h⟩:=bind_some h
  obtain⟨x2,h2,h⟩:=bind_some h
  injection h with h
  subst h
  exact(.cons (V.bR h0) (.cons (V.ay h1) (.cons (V.ay h2) aK.nil)))
 ·cases h
theorem u5{α:Type}{f:V->Option α}{g:α->V}(hf:∀ x a,f x=some a->Wk x (g a)){cs:List V}{x:α}(h:qM f cs=some x):aK cs [g x]:=by
 unfold qM at h
 split at h
 ·exact .cons (hf _ _ h) .nil
 ·cases h
theorem RI{α:Type}{f:List V->Option α}{g:α->List V}(hf:∀ x a,f x=some a->aK x (g a)){cs:List V}{x:α}(h:Ed f cs=some x):aK cs (.bool true :: g x):=by
 unfold Ed at h
 split at h
 ·exact .cons (.same _) (hf _ _ h)
 ·cases h
theorem AX{α:Type}{n:Nat}{f:List V->Option α}{g:α->List V}(hf:∀ x a,f x=some a->aK x (g a)){cs:List V}{x:α}(h:uX n f cs=some x):aK cs (.bool false :: .int .i64 (n:Int) :: g x):=by
 unfold uX at h
 split at h
 ·split at h
  ·rename_i hn
   subst hn
   exact .cons (.same _) (.cons (.same _) (hf _ _ h))
  ·cases h
 ·cases h
theorem gS:(t:TC)->(o:Nat)->(cs:List V)->(x:T t)->dec t o cs=some x->aK cs (enc t o x)
 | .int,_,_,_,h=>u5 (g:=fun n=>.int .i64 n) (fun _ _=>V.ay) h
 | .u8,_,_,_,h=>u5 (g:=fun n=>.int .u8 n) (fun _ _=>V.P5) h
 | .bool,_,_,_,h=>u5 (g:=fun n=>.bool n) (fun _ _=>V.iZ) h
 | .str,_,_,_,h=>u5 (g:=fun n=>.str n) (fun _ _=>V.P6) h
 | .qh,o,cs,x,h=>QI o cs x h
 | .Addr,o,cs,x,h=>Jv o cs x h
 | .qi,o,cs,x,h=>QJ o cs x h
 | .qj,o,cs,x,h=>QK o cs x h
 | .Command,o,cs,x,h=>Jw o cs x h
 | .ql,o,cs,x,h=>QL o cs x h
 | .lC,o,cs,x,h=>QM o cs x h
 | .qm,o,cs,x,h=>QN o cs x h
 | .Event,o,cs,x,h=>QO o cs x h
 | .qp,o,cs,x,h=>QS o cs x h
 | .Cell,o,cs,x,h=>QT o cs x h
 | .Array,o,cs,x,h=>QU o cs x h
 | .qq,o,cs,x,h=>QV o cs x h
 | .mU,o,cs,x,h=>QW o cs x h
 | .qt,o,cs,x,h=>QX o cs x h
 | .qu,o,cs,x,h=>QY o cs x h
 | .lD,o,cs,x,h=>Jx o cs x h
 | .mV,o,cs,x,h=>QZ o cs x h
 | .qv,o,cs,x,h=>Q0 o cs x h
 | .qw,o,cs,x,h=>Q1 o cs x h
 | .qx,o,cs,x,h=>Q2 o cs x h
 | .Power,o,cs,x,h=>Q3 o cs x h
 | .mW,o,cs,x,h=>Q4 o cs x h
 | .mX,o,cs,x,h=>Q5 o cs x h
 | .qy,o,cs,x,h=>Q6 o cs x h
 | .qz,o,cs,x,h=>Q7 o cs x h
 | .Receiver,o,cs,x,h=>Q8 o cs x h
 | .Node,o,cs,x,h=>Q9 o cs x h
 | .Tree,o,cs,x,h=>Ra o cs x h
 | .qA,o,cs,x,h=>Rb o cs x h
 | .qB,o,cs,x,h=>Rc o cs x h
 | .qC,o,cs,x,h=>Rd o cs x h
 | .Move,o,cs,x,h=>Re o cs x h
 | .kH,o,cs,x,h=>Rf o cs x h
 | .qD,o,cs,x,h=>Rg o cs x h
 | .Config,o,cs,x,h=>Rh o cs x h
 | .mY,o,cs,x,h=>Ri o cs x h
 | .n9,o,cs,x,h=>Jy o cs x h
 | .Act,o,cs,x,h=>RE o cs x h
 | .Fact,o,cs,x,h=>RG o cs x h
 | .qE,o,cs,x,h=>RH o cs x h
 | .sl t,o,_,_,h=>u5 (g:=fun n=>.sl t o false n) (fun _ _=>V.bR) h
 | .uw,o,_,_,h=>RI (g:=qI o) (Jy o) h
 | .ux g,o,_,_,h=>AX (g:=fun n=>[.int .i64 n]) (fun _ _ h=>u5 (g:=fun n=>.int .i64 n) (fun _ _=>V.ay) h) h
 | .uy g,o,_,_,h=>AX (g:=qH o) (Jx o) h
 | .uz g,o,_,_,h=>AX (g:=qF o) (Jv o) h
 | .fnCommand g,o,_,_,h=>AX (g:=qG o) (Jw o) h
def V.low(n:Nat):V->Bool
 | .sl t _ _ _=>Nat.ble (full t+2) n
 | _=>true
theorem AY(t:TC)(o:Nat)(x:T t):∀ y∈enc t o x,y.low (full t)=true:=by
 cases t <;>simp[enc,V.low,full,uB,qF,uC,xd,qG,uD,uE,xe,uG,xg,xh,xj,uH,xk,xl,xm,qH,uI,uJ,xq,uK,uL,uM,uO,xu,xw,xx,uQ,xy,xz,uS,xA,uT,xB,xC,uU,uV,qI,xD,uW,xE]
def V.plain:V->Bool
 | .int _ _ | .bool _ | .str _=>true
 | _=>false
theorem xV(t:TC)(o:Nat)(x:T t)(h:full t=0):∀ y∈enc t o x,y.plain=true:=by
 cases t <;>first | (simp[full]at h;done) | simp[enc,V.plain,uB,qF,uC,qG,uD,uE,uG,uH,qH,uI,uJ,uK,uL,uM,uO,uQ,uS,uT,uU,uV,uW]
def V.fC:V->Bool
 | .nil=>false
 | _=>true
theorem Es(t:TC)(o:Nat)(x:T t):∀ y∈enc t o x,y.fC=true:=by
 cases t <;>simp[enc,V.fC,uB,qF,uC,xd,qG,uD,uE,xe,uG,xg,xh,xj,uH,xk,xl,xm,qH,uI,uJ,xq,uK,uL,uM,uO,xu,xw,xx,uQ,xy,xz,uS,xA,uT,xB,xC,uU,uV,qI,xD,uW,xE]
def RJ:List TC:=[.int,.u8,.bool,.str,.sl .int,.sl .bool,.sl .str,.qh,.Addr,.qi,.qj,.Command,.ql,.lC,.qm,.Event,.qp,.Cell,.Array,.qq,.mU,.qt,.qu,.lD,.mV,.qv,.qw,.qx,.Power,.mW,.mX,.qy,.qz,.Receiver,.Node,.Tree,.qA,.qB,.qC,.Move,.kH,.qD,.Config,.mY,.n9,.Act,.Fact,.qE]
def JL(e:TypeId):Option TC:=RJ.find? fun t=>Nat.beq (tid t) e
theorem RL{e:TypeId}{t:TC}(h:JL e=some t):tid t=e:=Nat.eq_of_beq_eq_true (List.find?_some (p:=fun t=>Nat.beq (tid t) e) h)
def V.gr(o:Nat):V->Bool
 | .sl _ o' _ _=>o'==o
 | _=>true
theorem om(t:TC)(o:Nat)(x:T t):∀ y∈enc t o x,y.gr o=true:=by
 cases t <;>simp[enc,V.gr,uB,qF,uC,xd,qG,uD,uE,xe,uG,xg,xh,xj,uH,xk,xl,xm,qH,uI,uJ,xq,uK,uL,uM,uO,xu,xw,xx,uQ,xy,xz,uS,xA,uT,xB,xC,uU,uV,qI,xD,uW,xE]
def V.av:V->Bool
 | .sl _ o _ _=>decide (o<2)
 | _=>true
def V.fm:V->V
 | .sl t _ q l=>.sl t 0 q l
 | x=>x
theorem RM(t:TC)(o:Nat)(x y:T t):(enc t o x).map (fun v=>(v.plain,v.av))=(enc t o y).map (fun v=>(v.plain,v.av)):=by cases t <;>rfl
theorem fP(t:TC)(o:Nat)(x:T t)(ho:o<2)(j:Nat)(y:V)(h:(enc t o x)[j]?=some y):y.av=true:=by
 have:=om t o x y (List.mem_of_getElem? h)
 cases y <;>simp_all [V.gr,V.av]
theorem JM(t:TC)(o:Nat)(x:T t):enc t 0 x=(enc t o x).map V.fm:=by cases t <;>rfl
theorem oq(t:TC)(o:Nat)(x:T t)(j:Nat)(y:V)(h:(enc t 0 x)[j]?=some y):∃ z,(enc t o x)[j]?=some z/\y=z.fm:=by
 rw[JM t o x,List.getElem?_map]at h
 cases hz:(enc t o x)[j]? with
 | none=>rw[hz]at h;cases h
 | some z=>rw[hz]at h;injection h with h;exact⟨z,rfl,h.symm⟩
abbrev aG:=Nat->Option (List Nat)
inductive RV (w:World) (B:Nat) (lab:aG):List Nat->V->Value->Prop
 | int (q:List Nat) (k:IntKind) (n:Int):RV w B lab q (.int k n) (.int k n)
 | bool (q:List Nat) (b:Bool):RV w B lab q (.bool b) (.bool b)
 | str (q:List Nat) (s:ByteArray):RV w B lab q (.str s) (.string s)
 | nil (q:List Nat):RV w B lab q .nil (.slice none 0 0)
 | aY (q:List Nat) (t:TC) (o:Nat):RV w B lab q (.sl t o false []) (.slice none 0 0)
 | bn (q:List Nat) (t:TC) (o:Nat) (A:Addr) (c:Nat) (ho:o<2):RV w B lab q (.sl t o false []) (.slice (some A) 0 c)
 | bF (q:List Nat) (t:TC) (o:Nat) (A:Addr) (c:Nat) (ho:o<2):RV w B lab q (.sl t o true []) (.slice (some A) 0 c)
 | av (q:List Nat) (t:TC) (o:Nat) (qn:Bool) (l:List (T t)) (b off cap:Nat) (u:Nat->Nat->Value) (ho:o<2) (hl:lab b=none) (U:b<w.heap.size) (h1:o=1->B<=b) (hcap:l.length<=cap)
   (hc:∀ i (h:i<l.length) j x,(enc t o l[i])[j]?=some x->w.cell? ⟨b,off+(i*aj t+j),none⟩=some (u i j))
   (hr:∀ i (h:i<l.length) j x,(enc t o l[i])[j]?=some x->RV w B lab [] x (u i j)):RV w B lab q (.sl t o qn l) (.slice (some ⟨b,off,none⟩) l.length cap)
 | own (q:List Nat) (t:TC) (o:Nat) (qn:Bool) (l:List (T t)) (b cap:Nat) (cs:Array Value) (u:Nat->Nat->Value) (hl:lab b=some q) (hh:w.heap[b]?=some (.cells cs (tid t) (0,0)))
   (hs:cs.size=cap*aj t) (hn:l.length<=cap) (hm:cap<=maxLen/\(qn=true->cap=l.length))
   (hc:∀ i (h:i<l.length) j x,(enc t o l[i])[j]?=some x->cs[i*aj t+j]?=some (u i j))
   (hr:∀ i (h:i<l.length) j x,(enc t o l[i])[j]?=some x->RV w B lab (j :: i :: aj t :: q) x (u i j)):RV w B lab q (.sl t (o+2) qn l) (.slice (some ⟨b,0,none⟩) l.length cap)
section
variable {w w':World} {B:Nat} {lab af:aG}
def V.xW(n:Nat):V->V
 | .sl t _ q l=>.sl t n q l
 | x=>x
theorem RN(t:TC)(o n:Nat)(x:T t):enc t n x=(enc t o x).map (V.xW n):=by cases t <;>rfl
def V.fu(n:Nat):V->Prop
 | .sl t o _ _=>full t+2<=o/\full t+2<=n
 | _=>True
theorem RV.xW{q:List Nat}{x:V}{v:Value}(h:RV w B lab q x v):∀ n,x.fu n->RV w B lab q (x.xW n) v:=by
 induction h with
 | int=>exact fun _ _=>.int _ _ _
 | bool=>exact fun _ _=>.bool _ _
 | str=>exact fun _ _=>.str _ _
 | nil=>exact fun _ _=>.nil _
 | aY=>exact fun _ _=>.aY _ _ _
 | bn q t o A c ho=>exact fun n hn=>by have:=hn.1;omega
 | bF q t o A c ho=>exact fun n hn=>by have:=hn.1;omega
 | av q t o qn l b off cap u ho hl U h1 hcap hc hr ih=>exact fun n hn=>by have:=hn.1;omega
 | own q t o qn l b cap cs u hl hh hs hn hm hc hr ih=>
  intro n hf
  obtain⟨h1,h2⟩:=hf
  obtain⟨m,rfl⟩:∃ m,n=m+2:=⟨n-2,by omega⟩
  have key:∀ (i:Nat) (h:i<l.length) (j:Nat) (x:V),(enc t m l[i])[j]?=some x->∃ y:V,(enc t o l[i])[j]?=some y/\y.xW m=x/\y.fu m:=by
   intro i h j x hx
   rw[RN t o m l[i],List.getElem?_map]at hx
   cases hy:(enc t o l[i])[j]? with
   | none=>rw[hy]at hx;cases hx
   | some y=>
    rw[hy]at hx
    injection hx with hx
    refine⟨y,rfl,hx,?_⟩
    have g1:=om t o l[i] y (List.mem_of_getElem? hy)
    have g2:=AY t o l[i] y (List.mem_of_getElem? hy)
    cases y with
    | sl t' o' q' l'=>
     have e:o'=o:=by simpa [V.gr]using g1
     have:=Nat.le_of_ble_eq_true (show Nat.ble (full t'+2) (full t)=true from g2)
     exact⟨by omega,by omega⟩
    | _=>trivial
  refine .own _ _ _ _ _ _ _ cs u hl hh hs hn hm (fun i h j x hx=>?_) (fun i h j x hx=>?_)
  ·obtain⟨y,hy,_⟩:=key i h j x hx
   exact hc i h j y hy
  ·obtain⟨y,hy,rfl,hf⟩:=key i h j x hx
   exact ih i h j y hy m hf
theorem RV.wk{q:List Nat}{x y:V}{v:Value}(h:RV w B lab q x v)(k:Wk x y):RV w B lab q y v:=by
 cases k with
 | same=>exact h
 | nil t o=>cases h;exact .aY _ _ _
 | gr t o o' qn l h1 h2=>
  have h:=h.xW o ⟨h2,h1⟩
  have h:RV w B lab q (.sl t o qn l) v:=h
  cases h with
  | aY=>exact .aY _ _ _
  | bn q t o A c ho=>exact .bn _ _ _ _ _ ho
  | bF q t o A c ho=>exact .bn _ _ _ _ _ ho
  | av q t o qn l b off cap u ho hl U h1 hcap hc hr=>exact .av _ _ _ _ _ _ _ _ u ho hl U h1 hcap hc hr
  | own q t o qn l b cap cs u hl hh hs hn hm hc hr=>exact .own _ _ _ _ _ _ _ cs u hl hh hs hn ⟨hm.1,fun h=>by cases h⟩ hc hr
 | q t o l=>
  cases h with
  | bF q t o A c ho=>exact .bn _ _ _ _ _ ho
  | av q t o qn l b off cap u ho hl U h1 hcap hc hr=>exact .av _ _ _ _ _ _ _ _ u ho hl U h1 hcap hc hr
  | own q t o qn l b cap cs u hl hh hs hn hm hc hr=>exact .own _ _ _ _ _ _ _ cs u hl hh hs hn ⟨hm.1,fun h=>by cases h⟩ hc hr
theorem RV.key{q q':List Nat}{x:V}{v:Value}(h:RV w B lab q x v)(hf:x.av=true):RV w B lab q' x v:=by
 cases h with
 | int=>exact .int _ _ _
 | bool=>exact .bool _ _
 | str=>exact .str _ _
 | nil=>exact .nil _
 | aY=>exact .aY _ _ _
 | bn=>exact .bn _ _ _ _ _ (by first | assumption | omega)
 | bF=>exact .bF _ _ _ _ _ (by first | assumption | omega)
 | av q t o qn l b off cap u ho hl U h1 hcap hc hr=>exact .av _ _ _ _ _ _ _ _ u ho hl U h1 hcap hc hr
 | own q t o qn l b cap cs u hl hh hs hn hm hc hr=>simp[V.av]at hf;omega
def gT:Value->Bool
 | .slice ..=>true
 | _=>false
theorem RV.AZ{q:List Nat}{x:V}{u:Value}(h:RV w B lab q x u)(hf:x.av=false):gT u=true:=by
 cases h <;>first | rfl | cases hf
theorem RV.one{q:List Nat}{x:V}{u:Value}(h:RV w B lab q x u):u.oneCell'=true:=by
 cases h <;>rfl
theorem RV.cZ{q:List Nat}{x:V}{v:Value}(h:RV w B lab q x v)(hz:w.heap.size<=w'.heap.size)(hk:∀ b,b<w.heap.size->w'.heap[b]?=w.heap[b]?/\af b=lab b):RV w' B af q x v:=by
 induction h with
 | int=>exact .int _ _ _
 | bool=>exact .bool _ _
 | str=>exact .str _ _
 | nil=>exact .nil _
 | aY=>exact .aY _ _ _
 | bn=>exact .bn _ _ _ _ _ (by first | assumption | omega)
 | bF=>exact .bF _ _ _ _ _ (by first | assumption | omega)
 | av q t o qn l b off cap u ho hl U h1 hcap hc hr ih=>
  exact .av _ _ _ _ _ _ _ _ u ho ((hk b U).2.trans hl) (Nat.lt_of_lt_of_le U hz) h1 hcap (fun i h j x hx=>(World.cell?_of_block (a:=⟨b,_,none⟩) (hk b U).1).trans (hc i h j x hx)) ih
 | own q t o qn l b cap cs u hl hh hs hn hm hc hr ih=>
  have U:b<w.heap.size:=(Array.getElem?_eq_some_iff.1 hh).1
  exact .own _ _ _ _ _ _ _ cs u ((hk b U).2.trans hl) ((hk b U).1.trans hh) hs hn hm hc ih
theorem RV.apart{q kt:List Nat}{x:V}{v:Value}{bt:Nat}(h:RV w B lab q x v)(u6:lab bt=some kt)(hq:¬ q <:+ kt\/x.av=true)(hz:w.heap.size<=w'.heap.size)(hk:∀ b,b≠bt->w'.heap[b]?=w.heap[b]?):RV w' B lab q x v:=by
 induction h with
 | int=>exact .int _ _ _
 | bool=>exact .bool _ _
 | str=>exact .str _ _
 | nil=>exact .nil _
 | aY=>exact .aY _ _ _
 | bn=>exact .bn _ _ _ _ _ (by first | assumption | omega)
 | bF=>exact .bF _ _ _ _ _ (by first | assumption | omega)
 | av q t o qn l b off cap u ho hl U h1 hcap hc hr ih=>
  have az:b≠bt:=by rintro rfl;rw[hl]at u6;cases u6
  refine .av _ _ _ _ _ _ _ _ u ho hl (Nat.lt_of_lt_of_le U hz) h1 hcap (fun i h j x hx=>(World.cell?_of_block (a:=⟨b,_,none⟩) (hk b az)).trans (hc i h j x hx)) (fun i h j x hx=>ih i h j x hx (.inr (fP t o l[i] ho j x hx)))
 | own q t o qn l b cap cs u hl hh hs hn hm hc hr ih=>
  have gx:¬ q <:+ kt:=by
   rcases hq with hq | hq
   ·exact hq
   ·simp[V.av]at hq;omega
  have az:b≠bt:=by rintro rfl;rw[hl]at u6;injection u6 with u6;subst u6;exact gx (List.suffix_refl _)
  refine .own _ _ _ _ _ _ _ cs u hl ((hk b az).trans hh) hs hn hm hc (fun i h j x hx=>ih i h j x hx (.inl fun hs=>gx (List.IsSuffix.trans ⟨[j,i,aj t],rfl⟩ hs)))
theorem RV.fm{q q':List Nat}{x:V}{v:Value}(h:RV w B lab q x v){B':Nat}:RV w B' (fun _=>none) q' x.fm v:=by
 induction h generalizing q' with
 | int=>exact .int _ _ _
 | bool=>exact .bool _ _
 | str=>exact .str _ _
 | nil=>exact .nil _
 | aY=>exact .aY _ _ _
 | bn=>exact .bn _ _ _ _ _ (by first | assumption | omega)
 | bF=>exact .bF _ _ _ _ _ (by first | assumption | omega)
 | av q t o qn l b off cap u ho hl U h1 hcap hc hr ih=>
  refine .av _ _ _ _ _ _ _ _ u (by omega) rfl U (by omega) hcap (fun i h j x hx=>?_) (fun i h j x hx=>?_)
  ·obtain⟨y,hy,_⟩:=oq t o l[i] j x hx
   exact hc i h j y hy
  ·obtain⟨y,hy,rfl⟩:=oq t o l[i] j x hx
   exact ih i h j y hy
 | own q t o qn l b cap cs u hl hh hs hn hm hc hr ih=>
  refine .av _ _ _ _ _ _ _ _ u (by omega) rfl (Array.getElem?_eq_some_iff.1 hh).1 (by omega) hn (fun i h j x hx=>?_) (fun i h j x hx=>?_)
  ·obtain⟨y,hy,_⟩:=oq t o l[i] j x hx
   have:=hc i h j y hy
   rw[Nat.zero_add,cell_of_row w b _ cs _ _ hh]
   exact this
  ·obtain⟨y,hy,rfl⟩:=oq t o l[i] j x hx
   exact ih i h j y hy
end
end Go.Proofs.YtjldnlbiefpekaaDoor
namespace Go.Proofs.YtjldnlbiefpekaaDoor
open Go.RowKit
set_option linter.unusedVariables false
inductive Lf where
 | v (x:V)
 | own (k:List Nat)
 | dead
inductive A where
 | undef
 | skip
 | lf (x:Lf)
 | agg (cs:List Lf)
 | aU (xs:List (Bool×List Lf))
 | ptr (k:List Nat)
 | aE (r j:Nat)
 | dO (cs:List V)
 | gU (f:Nat) (cs:List V)
 | pk (r n:Nat)
 | view (k:List Nat) (s i j:Nat)
 | fn (f:Nat) (cap:List (Nat×Nat))
inductive au where
 | blk (cs:List Lf)
 | sl (y:V)
 | mp (l:List (Int×Bool))
 | gh (xs:List A)
structure S where
 t:Nat->A
 m:Nat->Option au
inductive Loc where
 | blk (b off:Nat)
 | bS (v:Value)
 | aN (us:List Value)
def addrAt(w:World)(lab:aG)(ρ:Nat->Loc):List Nat->Option Addr
 | j :: i :: s :: [r]=>match ρ r with
  | .bS (.slice (some ⟨b,0,none⟩) _ _)=>if lab b=some [r]then some ⟨b,i*s+j,none⟩else none
  | _=>none
 | j :: i :: s :: q=>match (addrAt w lab ρ q).bind w.cell? with
  | some (.slice (some ⟨b,0,none⟩) _ _)=>if lab b=some q then some ⟨b,i*s+j,none⟩else none
  | _=>none
 | _=>none
def aP(w:World)(lab:aG)(ρ:Nat->Loc):List Nat->Option Value
 | [r]=>match ρ r with
  | .bS v=>some v
  | _=>none
 | q=>(addrAt w lab ρ q).bind w.cell?
def bw(w:World)(B:Nat)(lab:aG)(ρ:Nat->Loc):Lf->Value->Prop
 | .v x,u=>x.av=true/\RV w B lab [] x u
 | .own k,u=>gT u=true/\aP w lab ρ k=some u
 | .dead,_=>True
def bH(w:World)(B:Nat)(lab:aG)(ρ:Nat->Loc)(cs:List Lf)(us:Array Value):Prop:=
 us.size=cs.length/\∀ (j:Nat) x,cs[j]?=some x->∃ u,us[j]?=some u/\bw w B lab ρ x u
def RP(w:World)(B:Nat)(lab:aG)(ρ:Nat->Loc)(p:Bool×List Lf)(u:Value):Prop:=
 match p with
 | (true,cs)=>∃ us,u = .agg us/\bH w B lab ρ cs us
 | (false,cs)=>bH w B lab ρ cs #[u]
def jR:Nat:=4294967296
def A2(b n:Nat):Value:=bif Nat.beq n jR then .map (some b)else .slice (some ⟨b,0,none⟩) n n
theorem Et{b n:Nat}(h:n<jR):A2 b n = .slice (some ⟨b,0,none⟩) n n:=by
 unfold A2
 cases U:Nat.beq n jR with
 | true=>have:=Nat.eq_of_beq_eq_true U;omega
 | false=>rfl
theorem Eu(b:Nat):A2 b jR = .map (some b):=rfl
def RF(w:World)(B:Nat)(lab:aG)(cs:List V)(u:Value):Prop:=
 ∃ b off,u = .pointer (some ⟨b,off,none⟩)/\b<w.heap.size/\lab b=none/\∀ (j:Nat) x,cs[j]?=some x->x.av=true/\∃ v,w.cell? ⟨b,off+j,none⟩=some v/\RV w B lab [] x v
def RA(w:World)(B:Nat)(lab:aG)(ρ:Nat->Loc):A->Value->Prop
 | .undef,_=>True
 | .skip,u=>u=Go.undef
 | .lf x,u=>bw w B lab ρ x u
 | .agg cs,u=>RP w B lab ρ (true,cs) u
 | .aU xs,u=>∃ us:Array Value,u = .tuple us/\us.size=xs.length/\∀ (j:Nat) p,xs[j]?=some p->∃ v,us[j]?=some v/\RP w B lab ρ p v
 | .ptr k,u=>∃ ad,u = .pointer (some ad)/\addrAt w lab ρ k=some ad
 | .aE r j,u=>∃ b off,ρ r = .blk b off/\u = .pointer (some ⟨b,off+j,none⟩)
 | .dO cs,u=>RF w B lab cs u
 | .gU f cs,u=>∃ pv,u = .func (.func f) #[] #[pv]/\RF w B lab cs pv
 | .pk r n,u=>∃ b,ρ r = .blk b 0/\u=A2 b n
 | .view k s i j,u=>∃ A n c,aP w lab ρ k=some (.slice A n c)/\i<=j/\j<=n/\u=sliced A i j c s
 | .fn f cap,u=>∃ vs:Array Value,u = .func (.func f) #[] vs/\vs.size=cap.length/\∀ (j:Nat) p,cap[j]?=some p->∃ b off,ρ p.1 = .blk b off/\vs[j]?=some (.pointer (some ⟨b,off+p.2,none⟩))
inductive bP (w:World) (B:Nat) (lab:aG) (ρ:Nat->Loc) (r:Nat):au->Prop
 | blk (b off:Nat) (cells:Array Value) (e:TypeId) (cs:List Lf) (us:Nat->Value) (aq:ρ r = .blk b off) (hl:lab b=some [r]) (hh:w.heap[b]?=some (.cells cells e (0,0))) (hs:off+cs.length<=cells.size)
   (hc:∀ (j:Nat) x,cs[j]?=some x->cells[off+j]?=some (us j)/\bw w B lab ρ x (us j)):bP w B lab ρ r (.blk cs)
 | sl (v:Value) (y:V) (aq:ρ r = .bS v) (hr:RV w B lab [r] y v):bP w B lab ρ r (.sl y)
 | mp (b clock:Nat) (es:Array MapEntry) (l:List (Int×Bool)) (aq:ρ r = .blk b 0) (hl:lab b=some [r]) (hh:w.heap[b]?=some (.map es clock)) (he:es.toList.map (fun e=>(e.key,e.val))=l.map fun p=>(.int .i64 p.1,.bool p.2)):bP w B lab ρ r (.mp l)
 | gh (us:List Value) (xs:List A) (aq:ρ r = .aN us) (hx:∀ (j:Nat) x,xs[j]?=some x->RA w B lab ρ x (us.getD j undef)):bP w B lab ρ r (.gh xs)
def Qw(w:World):Prop:=Lib.TabIs Tryd.prog w "internal/strconv.uint64pow10" .u64 Lib.pow10Tab/\∃ m,w.cell? ⟨0,0,none⟩=some (.int .i64 m)
theorem Qw.RO{w:World}(h:Qw w):Lib.TabIs Tryd.prog w "internal/strconv.uint64pow10" .u64 Lib.pow10Tab:=h.1
structure RQ (n:Nat) (L:aG) (w w':World):Prop where
 os:w'.os=w.os
 tape:w'.tape=w.tape
 output:w'.output=w.output
 size:w.heap.size<=w'.heap.size
 block:∀ k,k<n->L k=none->w'.heap[k]?=w.heap[k]?
def Hd(w:World)(L:aG):Prop:=∀ w',RQ w.heap.size L w w'->Qw w'
theorem RR{w:World}(h:Qw w):Hd w fun _=>none:=fun w' U=>⟨Lib.tabBelow_of_tabIs h.1 w' ⟨U.os,U.tape,U.output,U.size,fun k hk=>U.block k hk rfl⟩,by
 obtain⟨m,hm⟩:=h.2
 exact⟨m,(World.cell?_of_block (a:=⟨0,0,none⟩) (U.block 0 (block_lt_of_cell hm) rfl)).trans hm⟩⟩
theorem Hd.here{w:World}{L:aG}(h:Hd w L):Qw w:=h w ⟨rfl,rfl,rfl,Nat.le_refl _,fun _ _ _=>rfl⟩
structure Wd where
 w:World
 L:aG
 F:Nat->Option Loc
 held:Hd w L
 low:∀ r,r<20000->F r=none
def Wd.heap(d:Wd):Array Obj:=d.w.heap
def Wd.of(w:World)(h:Hd w fun _=>none):Wd:=⟨w,fun _=>none,fun _=>none,h,fun _ _=>rfl⟩
structure eD (d:Wd) (w w':World):Prop where
 os:w'.os=w.os
 tape:w'.tape=w.tape
 output:w'.output=w.output
 size:w.heap.size<=w'.heap.size
 block:∀ k,k<d.heap.size->d.L k=none->w'.heap[k]?=w.heap[k]?
theorem eD.trans{d:Wd}{a b c:World}(h:eD d a b)(k:eD d b c):eD d a c:=
 ⟨k.os.trans h.os,k.tape.trans h.tape,k.output.trans h.output,Nat.le_trans h.size k.size,fun i hi hl=>(k.block i hi hl).trans (h.block i hi hl)⟩
theorem Wd.on(d:Wd){w:World}(h:eD d d.w w){L:aG}(hL:∀ b k,L b=some k->d.heap.size<=b\/d.L b≠none):Hd w L:=fun w' U=>
 d.held w' ⟨U.os.trans h.os,U.tape.trans h.tape,U.output.trans h.output,Nat.le_trans h.size U.size,fun k hk hl=>by
  have e:L k=none:=by
   cases e:L k with
   | none=>rfl
   | some q=>
    rcases hL k q e with h1 | h1
    ·exact absurd hk (Nat.not_lt.2 h1)
    ·exact absurd hl h1
  exact(U.block k (Nat.lt_of_lt_of_le hk h.size) e).trans (h.block k hk hl)⟩
theorem eD.of{d:Wd}{a b:World}{B:Nat}(h:Below B a b)(hB:d.heap.size<=B):eD d a b:=
 ⟨h.os,h.tape,h.output,h.size,fun i hi _=>h.block i (Nat.lt_of_lt_of_le hi hB)⟩
structure Rl (w0:Wd) (N:Nat) (lab:aG) (ρ:Nat->Loc) (σ:S) (a:Act) (w:World):Prop where
 below:eD w0 w0.w w
 bf:∀ b k,lab b=some k->(w0.heap.size<=b\/w0.L b≠none)/\b<w.heap.size/\k≠[]
 root:∀ r x,σ.m r=some x->bP w w0.heap.size lab ρ r x
 tmp:∀ k,RA w w0.heap.size lab ρ (σ.t k) (a.tmps.getD k undef)
 size:a.tmps.size=N
 defers:a.defers=[]
 fix:∀ r l,w0.F r=some l->ρ r=l
 cB:∀ r,(r<N\/60000<=r)->w0.F r=none
def R(w0:Wd)(N:Nat)(σ:S)(a:Act)(w:World):Prop:=∃ lab ρ,Rl w0 N lab ρ σ a w
/-! Reading along a key. -/
inductive nc (m:Nat->Option au):List Nat->V->Prop
 | root (r:Nat) (y:V) (h:m r=some (.sl y)):nc m [r] y
 | elem (j i:Nat) (q:List Nat) (t:TC) (o:Nat) (qn:Bool) (l:List (T t)) (y:V) (h:nc m q (.sl t (o+2) qn l)) (hi:i<l.length) (hy:(enc t o l[i])[j]?=some y):nc m (j :: i :: aj t :: q) y
section
variable {w w':World} {w0:Wd} {B N:Nat} {lab af:aG} {ρ ρ':Nat->Loc} {m:Nat->Option au} {σ:S} {a:Act}
theorem sw{q:List Nat}(j i s:Nat){b n c:Nat}(h:aP w lab ρ q=some (.slice (some ⟨b,0,none⟩) n c))(hl:lab b=some q):addrAt w lab ρ (j :: i :: s :: q)=some ⟨b,i*s+j,none⟩:=by
 match q,h,hl with
 | [r],h,hl=>
  simp only[aP]at h
  simp only[addrAt]
  cases hr:ρ r with
  | blk b off=>rw[hr]at h;cases h
  | bS v=>rw[hr]at h;injection h with h;subst h;simp[hl]
  | aN us=>rw[hr]at h;cases h
 | [],h,hl=>simp[aP,addrAt]at h
 | x :: y :: q,h,hl=>
  simp only[aP]at h
  simp only[addrAt,h,hl,if_true]
theorem A3{j i s:Nat}{q:List Nat}:aP w lab ρ (j :: i :: s :: q)=(addrAt w lab ρ (j :: i :: s :: q)).bind w.cell?:=rfl
theorem nc.ok{k:List Nat}{y:V}(h:nc m k y)(hm:∀ r x,m r=some x->bP w B lab ρ r x):∃ u,aP w lab ρ k=some u/\RV w B lab k y u:=by
 induction h with
 | root r y h=>
  cases hm _ _ h with
  | sl v y aq hr=>exact⟨v,by simp[aP,aq],hr⟩
 | elem j i q t o qn l y h hi hy ih=>
  obtain⟨u,hu,hr⟩:=ih
  cases hr with
  | aY=>simp at hi
  | bn=>simp at hi
  | bF=>simp at hi
  | av _ _ _ _ _ _ _ _ _ ho=>omega
  | own _ _ _ _ _ b cap cs us hl hh hs hn hm hc hr=>
   refine⟨us i j,?_,hr i hi j y hy⟩
   rw[A3,sw j i (aj t) hu hl]
   show w.cell? _=_
   rw[cell_of_row w b _ cs _ _ hh]
   exact hc i hi j y hy
theorem qP:∀ (k:List Nat) (ad:Addr),addrAt w lab ρ k=some ad->∃ j i s q,k=j :: i :: s :: q/\lab ad.block=some q/\ad.off=i*s+j/\ad.spot=none/\(∀ r,q=[r]->∃ v,ρ r = .bS v)
 | [],_,h=>by simp[addrAt]at h
 | [_],_,h=>by simp[addrAt]at h
 | [_,_],_,h=>by simp[addrAt]at h
 | [_,_,_],_,h=>by simp[addrAt]at h
 | [j,i,s,r],ad,h=>by
  simp only[addrAt]at h
  split at h
  ·rename_i v b n c hr
   split at h
   ·rename_i hl
    injection h with h
    subst h
    exact⟨j,i,s,[r],rfl,hl,rfl,rfl,fun r' e=>by injection e with e;subst e;exact⟨_,hr⟩⟩
   ·cases h
  ·cases h
 | j :: i :: s :: x :: y :: q,ad,h=>by
  simp only[addrAt]at h
  split at h
  ·split at h
   ·rename_i hl
    injection h with h
    subst h
    exact⟨j,i,s,x :: y :: q,rfl,hl,rfl,rfl,fun r' e=>by injection e with _ e;cases e⟩
   ·cases h
  ·cases h
theorem Ev(hk:∀ b,b<w.heap.size->w'.heap[b]?=w.heap[b]?/\af b=lab b)(hg:∀ b k,lab b=some k->b<w.heap.size):∀ (k:List Nat) (ad:Addr),addrAt w lab ρ k=some ad->addrAt w' af ρ k=some ad
 | [],_,h=>h
 | [_],_,h=>h
 | [_,_],_,h=>h
 | [_,_,_],_,h=>by simp only[addrAt]at h ⊢;exact h
 | [j,i,s,r],_,h=>by
  simp only[addrAt]at h ⊢
  split at h
  ·rename_i v b n c hr
   split at h
   ·rename_i hl
    rw[if_pos ((hk _ (hg _ _ hl)).2.trans hl)]
    exact h
   ·cases h
  ·cases h
 | j :: i :: s :: x :: y :: q,ad,h=>by
  simp only[addrAt]at h ⊢
  cases ha:addrAt w lab ρ (x :: y :: q)with
  | none=>rw[ha]at h;cases h
  | some js=>
   rw[Ev hk hg _ _ ha]
   rw[ha]at h
   cases hc:w.cell? js with
   | none=>simp[hc]at h
   | some v=>
    have e:w'.cell? js=some v:=(World.cell?_of_block (hk _ (block_lt_of_cell hc)).1).trans hc
    simp only[Option.bind_some,hc]at h
    simp only[Option.bind_some,e]
    split at h
    ·split at h
     ·rename_i hl
      rw[if_pos ((hk _ (hg _ _ hl)).2.trans hl)]
      exact h
     ·cases h
    ·cases h
theorem JN(hk:∀ b,b<w.heap.size->w'.heap[b]?=w.heap[b]?/\af b=lab b)(hg:∀ b k,lab b=some k->b<w.heap.size)(k:List Nat)(u:Value)(h:aP w lab ρ k=some u):aP w' af ρ k=some u:=by
 match k,h with
 | [],h=>simp[aP,addrAt]at h
 | [r],h=>exact h
 | x :: y :: q,h=>
  simp only[aP]at h ⊢
  cases ha:addrAt w lab ρ (x :: y :: q)with
  | none=>rw[ha]at h;cases h
  | some ad=>
   rw[Ev hk hg _ _ ha]
   rw[ha]at h
   have h:w.cell? ad=some u:=h
   exact(World.cell?_of_block (hk _ (block_lt_of_cell h)).1).trans h
theorem bw.cZ{x:Lf}{u:Value}(h:bw w B lab ρ x u)(hz:w.heap.size<=w'.heap.size)(hk:∀ b,b<w.heap.size->w'.heap[b]?=w.heap[b]?/\af b=lab b)(hg:∀ b k,lab b=some k->b<w.heap.size):bw w' B af ρ x u:=by
 cases x with
 | v x=>exact⟨h.1,h.2.cZ hz hk⟩
 | own k=>exact⟨h.1,JN hk hg _ _ h.2⟩
 | dead=>trivial
theorem bH.cZ{cs:List Lf}{us:Array Value}(h:bH w B lab ρ cs us)(hz:w.heap.size<=w'.heap.size)(hk:∀ b,b<w.heap.size->w'.heap[b]?=w.heap[b]?/\af b=lab b)(hg:∀ b k,lab b=some k->b<w.heap.size):bH w' B af ρ cs us:=
 ⟨h.1,fun j x hx=>let ⟨u,hu,r⟩:=h.2 j x hx;⟨u,hu,r.cZ hz hk hg⟩⟩
theorem RP.cZ{p:Bool×List Lf}{u:Value}(h:RP w B lab ρ p u)(hz:w.heap.size<=w'.heap.size)(hk:∀ b,b<w.heap.size->w'.heap[b]?=w.heap[b]?/\af b=lab b)(hg:∀ b k,lab b=some k->b<w.heap.size):RP w' B af ρ p u:=by
 obtain⟨b,cs⟩:=p
 cases b with
 | true=>obtain⟨us,e,h⟩:=h;exact⟨us,e,h.cZ hz hk hg⟩
 | false=>exact bH.cZ h hz hk hg
theorem RF.cZ{cs:List V}{u:Value}(h:RF w B lab cs u)(hz:w.heap.size<=w'.heap.size)(hk:∀ b,b<w.heap.size->w'.heap[b]?=w.heap[b]?/\af b=lab b):RF w' B af cs u:=by
 obtain⟨b,off,e,U,hl,h⟩:=h
 refine⟨b,off,e,Nat.lt_of_lt_of_le U hz,((hk b U).2).trans hl,fun j x hx=>?_⟩
 obtain⟨hf,v,hv,hr⟩:=h j x hx
 exact⟨hf,v,(World.cell?_of_block (a:=⟨b,_,none⟩) (hk b U).1).trans hv,hr.cZ hz hk⟩
theorem RA.cZ{x:A}{u:Value}(h:RA w B lab ρ x u)(hz:w.heap.size<=w'.heap.size)(hk:∀ b,b<w.heap.size->w'.heap[b]?=w.heap[b]?/\af b=lab b)(hg:∀ b k,lab b=some k->b<w.heap.size):RA w' B af ρ x u:=by
 cases x with
 | undef=>trivial
 | skip=>exact h
 | lf x=>exact bw.cZ h hz hk hg
 | agg cs=>exact RP.cZ (p:=(true,cs)) h hz hk hg
 | aU xs=>obtain⟨us,e,hs,h⟩:=h;exact⟨us,e,hs,fun j p hp=>let ⟨v,hv,r⟩:=h j p hp;⟨v,hv,r.cZ hz hk hg⟩⟩
 | ptr k=>obtain⟨ad,e,h⟩:=h;exact⟨ad,e,Ev hk hg _ _ h⟩
 | view k s i j=>obtain⟨A,n,c,h,g⟩:=h;exact⟨A,n,c,JN hk hg _ _ h,g⟩
 | pk r n=>exact h
 | aE r j=>exact h
 | dO cs=>exact RF.cZ h hz hk
 | gU f cs=>obtain⟨pv,e,h⟩:=h;exact⟨pv,e,h.cZ hz hk⟩
 | fn f cap=>exact h
theorem bP.cZ{r:Nat}{x:au}(h:bP w B lab ρ r x)(hz:w.heap.size<=w'.heap.size)(hk:∀ b,b<w.heap.size->w'.heap[b]?=w.heap[b]?/\af b=lab b)(hg:∀ b k,lab b=some k->b<w.heap.size):bP w' B af ρ r x:=by
 cases h with
 | blk b off cells e cs us aq hl hh hs hc=>
  have U:b<w.heap.size:=(Array.getElem?_eq_some_iff.1 hh).1
  exact .blk b off cells e cs us aq ((hk b U).2.trans hl) ((hk b U).1.trans hh) hs (fun j x hx=>⟨(hc j x hx).1,(hc j x hx).2.cZ hz hk hg⟩)
 | sl v y aq hr=>exact .sl v y aq (hr.cZ hz hk)
 | mp b c es l aq hl hh he=>
  have U:b<w.heap.size:=(Array.getElem?_eq_some_iff.1 hh).1
  exact .mp b c es l aq ((hk b U).2.trans hl) ((hk b U).1.trans hh) he
 | gh us xs aq hx=>exact .gh us xs aq fun j x hj=>(hx j x hj).cZ hz hk hg
/-! A root's name is given anew: what named it before is forgotten. -/
def aD(d:Nat)(k:List Nat):Bool:=k.getLast?==some d
def Lf.drop(d:Nat):Lf->Lf
 | .own k=>bif aD d k then .dead else .own k
 | x=>x
def A.drop(d:Nat):A->A
 | .lf x=>.lf (x.drop d)
 | .agg cs=>.agg (cs.map (Lf.drop d))
 | .aU xs=>.aU (xs.map fun p=>(p.1,p.2.map (Lf.drop d)))
 | .ptr k=>bif aD d k then .undef else .ptr k
 | .aE r j=>bif Nat.beq r d then .undef else .aE r j
 | .pk r n=>bif Nat.beq r d then .undef else .pk r n
 | .view k s i j=>bif aD d k then .undef else .view k s i j
 | .fn f cap=>bif cap.any (fun p=>Nat.beq p.1 d)then .undef else .fn f cap
 | x=>x
def au.drop(d:Nat):au->au
 | .blk cs=>.blk (cs.map (Lf.drop d))
 | .gh xs=>.gh (xs.map (A.drop d))
 | x=>x
theorem Ew{d:Nat}(aq:∀ r,r≠d->ρ' r=ρ r):∀ (k:List Nat),aD d k=false->addrAt w lab ρ' k=addrAt w lab ρ k
 | [],_=>rfl
 | [_],_=>rfl
 | [_,_],_=>rfl
 | [_,_,_],_=>rfl
 | [j,i,s,r],h=>by
  have hr:r≠d:=by rintro rfl;simp[aD]at h
  simp only[addrAt,aq r hr]
 | j :: i :: s :: x :: y :: q,h=>by
  have h':aD d (x :: y :: q)=false:=by simpa [aD]using h
  simp only[addrAt,Ew aq (x :: y :: q) h']
theorem JO{d:Nat}(aq:∀ r,r≠d->ρ' r=ρ r)(k:List Nat)(h:aD d k=false):aP w lab ρ' k=aP w lab ρ k:=by
 match k,h with
 | [],_=>rfl
 | [r],h=>
  have hr:r≠d:=by rintro rfl;simp[aD]at h
  simp only[aP,aq r hr]
 | x :: y :: q,h=>simp only[aP,Ew aq _ h]
theorem bw.bY{d:Nat}(aq:∀ r,r≠d->ρ' r=ρ r){x:Lf}{u:Value}(h:bw w B lab ρ x u):bw w B lab ρ' (x.drop d) u:=by
 cases x with
 | v x=>exact h
 | dead=>trivial
 | own k=>
  have e:Lf.drop d (.own k)=(bif aD d k then .dead else .own k):=rfl
  rw[e]
  cases hl:aD d k with
  | true=>trivial
  | false=>exact⟨h.1,(JO aq k hl).trans h.2⟩
theorem bH.bY{d:Nat}(aq:∀ r,r≠d->ρ' r=ρ r){cs:List Lf}{us:Array Value}(h:bH w B lab ρ cs us):bH w B lab ρ' (cs.map (Lf.drop d)) us:=by
 refine⟨by rw[List.length_map];exact h.1,fun j x hx=>?_⟩
 rw[List.getElem?_map]at hx
 cases hy:cs[j]? with
 | none=>rw[hy]at hx;cases hx
 | some y=>
  rw[hy]at hx
  injection hx with hx
  subst hx
  obtain⟨u,hu,r⟩:=h.2 j y hy
  exact⟨u,hu,r.bY aq⟩
theorem RP.bY{d:Nat}(aq:∀ r,r≠d->ρ' r=ρ r){p:Bool×List Lf}{u:Value}(h:RP w B lab ρ p u):RP w B lab ρ' (p.1,p.2.map (Lf.drop d)) u:=by
 obtain⟨b,cs⟩:=p
 cases b with
 | true=>obtain⟨us,e,h⟩:=h;exact⟨us,e,h.bY aq⟩
 | false=>exact bH.bY aq h
theorem RA.bY{d:Nat}(aq:∀ r,r≠d->ρ' r=ρ r){x:A}{u:Value}(h:RA w B lab ρ x u):RA w B lab ρ' (x.drop d) u:=by
 cases x with
 | undef=>trivial
 | skip=>exact h
 | lf x=>exact bw.bY aq h
 | agg cs=>exact RP.bY (p:=(true,cs)) aq h
 | aU xs=>
  obtain⟨us,e,hs,h⟩:=h
  refine⟨us,e,by rw[List.length_map];exact hs,fun j p hp=>?_⟩
  rw[List.getElem?_map]at hp
  cases hy:xs[j]? with
  | none=>rw[hy]at hp;cases hp
  | some y=>
   rw[hy]at hp
   injection hp with hp
   subst hp
   obtain⟨v,hv,r⟩:=h j y hy
   exact⟨v,hv,r.bY aq⟩
 | ptr k=>
  have e:A.drop d (.ptr k)=(bif aD d k then .undef else .ptr k):=rfl
  rw[e]
  cases hl:aD d k with
  | true=>trivial
  | false=>obtain⟨ad,e,h⟩:=h;exact⟨ad,e,(Ew aq k hl).trans h⟩
 | view k s i j=>
  have e:A.drop d (.view k s i j)=(bif aD d k then .undef else .view k s i j):=rfl
  rw[e]
  cases hl:aD d k with
  | true=>trivial
  | false=>obtain⟨A,n,c,h,g⟩:=h;exact⟨A,n,c,(JO aq k hl).trans h,g⟩
 | pk r n=>
  have e:A.drop d (.pk r n)=(bif Nat.beq r d then .undef else .pk r n):=rfl
  rw[e]
  cases hl:Nat.beq r d with
  | true=>trivial
  | false=>
   have hr:r≠d:=by rintro rfl;simp at hl
   obtain⟨b,e,h⟩:=h
   exact⟨b,(aq r hr).trans e,h⟩
 | aE r j=>
  have e:A.drop d (.aE r j)=(bif Nat.beq r d then .undef else .aE r j):=rfl
  rw[e]
  cases hl:Nat.beq r d with
  | true=>trivial
  | false=>
   have hr:r≠d:=by rintro rfl;simp at hl
   obtain⟨b,off,e,h⟩:=h
   exact⟨b,off,(aq r hr).trans e,h⟩
 | dO cs=>exact h
 | gU f cs=>exact h
 | fn f cap=>
  have e:A.drop d (.fn f cap)=(bif cap.any (fun p=>Nat.beq p.1 d)then .undef else .fn f cap):=rfl
  rw[e]
  cases hl:cap.any (fun p=>Nat.beq p.1 d)with
  | true=>trivial
  | false=>
   obtain⟨vs,e,hs,h⟩:=h
   refine⟨vs,e,hs,fun j p hp=>?_⟩
   obtain⟨b,off,e2,h2⟩:=h j p hp
   have hr:p.1≠d:=by
    rintro rfl
    have:=List.any_eq_false.1 hl p (List.mem_of_getElem? hp)
    simp at this
   exact⟨b,off,(aq _ hr).trans e2,h2⟩
theorem bP.bY{d r:Nat}(aq:∀ r,r≠d->ρ' r=ρ r)(hr:r≠d){x:au}(h:bP w B lab ρ r x):bP w B lab ρ' r (x.drop d):=by
 cases h with
 | blk b off cells e cs us dA hl hh hs hc=>
  refine .blk b off cells e _ us ((aq r hr).trans dA) hl hh (by rw[List.length_map];exact hs) (fun j x hx=>?_)
  rw[List.getElem?_map]at hx
  cases hy:cs[j]? with
  | none=>rw[hy]at hx;cases hx
  | some y=>
   rw[hy]at hx
   injection hx with hx
   subst hx
   exact⟨(hc j y hy).1,(hc j y hy).2.bY aq⟩
 | sl v y dA xX=>exact .sl v y ((aq r hr).trans dA) xX
 | mp b c es l dA hl hh he=>exact .mp b c es l ((aq r hr).trans dA) hl hh he
 | gh us xs dA hx=>
  refine .gh us _ ((aq r hr).trans dA) (fun j x hj=>?_)
  rw[List.getElem?_map]at hj
  cases hy:xs[j]? with
  | none=>rw[hy]at hj;cases hj
  | some y=>
   rw[hy]at hj
   injection hj with hj
   subst hj
   exact(hx j y hy).bY aq
def aH{α:Type}(f:Nat->α)(d:Nat)(x:α):Nat->α:=fun k=>bif Nat.beq k d then x else f k
theorem aJ{α:Type}(f:Nat->α)(d:Nat)(x:α):aH f d x d=x:=by simp[aH]
theorem aQ{α:Type}(f:Nat->α)(d:Nat)(x:α){k:Nat}(h:k≠d):aH f d x k=f k:=by
 have:Nat.beq k d=false:=by
  cases U:Nat.beq k d with
  | false=>rfl
  | true=>exact absurd (Nat.eq_of_beq_eq_true U) h
 simp only[aH,this,cond_false]
def S.set(σ:S)(d:Nat)(x:A):S:={ σ with t:=aH σ.t d x }
def S.drop(σ:S)(d:Nat):S:=⟨fun k=>(σ.t k).drop d,fun r=>bif Nat.beq r d then none else (σ.m r).map (au.drop d)⟩
def S.root(σ:S)(d:Nat)(x:au):S:={ σ with m:=aH σ.m d (some x) }
theorem Rl.set{x:A}{v:Value}{d:Nat}(h:Rl w0 N lab ρ σ a w)(hx:RA w w0.heap.size lab ρ x v)(hd:d<N):Rl w0 N lab ρ (σ.set d x) (a.put (some d) v) w:=by
 refine⟨h.below,h.bf,h.root,fun k=>?_,?_,h.defers,h.fix,h.cB⟩
 ·show RA w w0.heap.size lab ρ (aH σ.t d x k) ((a.tmps.setIfInBounds d v).getD k undef)
  by_cases hk:k=d
  ·subst hk
   rw[aJ,Array.getD_eq_getD_getElem?,Array.getElem?_setIfInBounds_self]
   have:k<a.tmps.size:=by rw[h.size];exact hd
   simp only[this,if_true,Option.getD_some]
   exact hx
  ·rw[aQ _ _ _ hk,Array.getD_eq_getD_getElem?,Array.getElem?_setIfInBounds_ne (Ne.symm hk),<-Array.getD_eq_getD_getElem?]
   exact h.tmp k
 ·show (a.tmps.setIfInBounds d v).size=N
  rw[Array.size_setIfInBounds]
  exact h.size
theorem Rl.grow(h:Rl w0 N lab ρ σ a w)(U:Below w.heap.size w w')(hl:∀ b,b<w.heap.size->af b=lab b)(hg:∀ b k,w.heap.size<=b->af b=some k->b<w'.heap.size/\k≠[]):Rl w0 N af ρ σ a w':=by
 have hk:∀ b,b<w.heap.size->w'.heap[b]?=w.heap[b]?/\af b=lab b:=fun b gV=>⟨U.block b gV,hl b gV⟩
 refine⟨h.below.trans (.of U h.below.size),fun b k hbk=>?_,fun r x hx=>(h.root r x hx).cZ U.size hk (fun b k U=>(h.bf b k U).2.1),fun k=>(h.tmp k).cZ U.size hk (fun b k U=>(h.bf b k U).2.1),h.size,h.defers,h.fix,h.cB⟩
 rcases Nat.lt_or_ge b w.heap.size with aV | jt
 ·rw[hl b aV]at hbk
  have:=h.bf b k hbk
  exact⟨this.1,Nat.lt_of_lt_of_le this.2.1 U.size,this.2.2⟩
 ·have:=hg b k jt hbk
  exact⟨.inl (Nat.le_trans h.below.size jt),this.1,this.2⟩
theorem Rl.new{d:Nat}{x:au}(h:Rl w0 N lab ρ σ a w)(l:Loc)(hx:bP w w0.heap.size lab (aH ρ d l) d x)(hF:w0.F d=none):Rl w0 N lab (aH ρ d l) ((σ.drop d).root d x) a w:=by
 have aq:∀ r,r≠d->aH ρ d l r=ρ r:=fun r hr=>aQ _ _ _ hr
 refine⟨h.below,h.bf,fun r y hy=>?_,fun k=>(h.tmp k).bY aq,h.size,h.defers,fun r l' hr=>(aq r (by rintro rfl;rw[hF]at hr;cases hr)).trans (h.fix r l' hr),h.cB⟩
 by_cases hr:r=d
 ·subst hr
  have e:(aH (σ.drop r).m r (some x)) r=some x:=aJ _ _ _
  have hy:(aH (σ.drop r).m r (some x)) r=some y:=hy
  rw[e]at hy
  injection hy with hy
  subst hy
  exact hx
 ·have hy:(aH (σ.drop d).m d (some x)) r=some y:=hy
  rw[aQ _ _ _ hr]at hy
  have U:Nat.beq r d=false:=by
   cases U:Nat.beq r d with
   | false=>rfl
   | true=>exact absurd (Nat.eq_of_beq_eq_true U) hr
  simp only[S.drop,U,cond_false]at hy
  cases hm:σ.m r with
  | none=>rw[hm]at hy;cases hy
  | some z=>
   rw[hm]at hy
   injection hy with hy
   subst hy
   exact(h.root r z hm).bY aq hr
end
end Go.Proofs.YtjldnlbiefpekaaDoor
namespace Go.Proofs.YtjldnlbiefpekaaDoor
open Go.RowKit
set_option linter.unusedVariables false
def cL{α:Type}(l:List α)(j:Nat)(xs:List α):List α:=l.take j++xs++l.drop (j+xs.length)
theorem sx{α:Type}(l:List α)(j:Nat)(xs:List α)(h:j+xs.length<=l.length):(cL l j xs).length=l.length:=by
 simp[cL];omega
theorem sy{α:Type}(l:List α)(j:Nat)(xs:List α)(h:j+xs.length<=l.length)(n:Nat):
  (cL l j xs)[n]?=if n<j then l[n]? else if n<j+xs.length then xs[n-j]? else l[n]?:=by
 unfold cL
 have ht:(l.take j).length=j:=by simp;omega
 split
 ·rename_i hn
  rw[List.append_assoc,List.getElem?_append_left (by rw[ht];exact hn),List.getElem?_take,if_pos hn]
 ·split
  ·rename_i h1 h2
   rw[List.append_assoc,List.getElem?_append_right (by rw[ht];omega),ht,List.getElem?_append_left (by omega)]
  ·rename_i h1 h2
   rw[List.getElem?_append_right (by simp;omega),List.getElem?_drop]
   congr 1
   simp
   omega
structure nh (w w':World) (bt:Nat):Prop where
 size:w'.heap.size=w.heap.size
 os:w'.os=w.os
 tape:w'.tape=w.tape
 output:w'.output=w.output
 block:∀ k,k≠bt->w'.heap[k]?=w.heap[k]?
theorem Ex(w:World)(b o:Nat)(l:List Value):nh w (w.setCells b o l) b:=by
 have g:=IB b l o w
 have s:=IA b l o w
 refine⟨s,g.os,g.tape,g.output,fun k hk=>?_⟩
 rcases Nat.lt_or_ge k w.heap.size with aV | jt
 ·exact g.block k aV (by intro e;injection e with e;exact hk e)
 ·rw[Array.getElem?_eq_none jt,Array.getElem?_eq_none (by rw[s];exact jt)]
section
variable {w w':World} {w0:Wd} {B N:Nat} {lab:aG} {ρ:Nat->Loc} {m m':Nat->Option au} {σ:S} {a:Act} {bt:Nat} {kt:List Nat}
def lI(w w':World)(lab:aG)(ρ:Nat->Loc):Prop:=∀ k ad v,addrAt w lab ρ k=some ad->w.cell? ad=some v->gT v=true->w'.cell? ad=some v
theorem Ey(hC:lI w w' lab ρ):∀ (k:List Nat) (ad:Addr),addrAt w lab ρ k=some ad->addrAt w' lab ρ k=some ad
 | [],_,h=>h
 | [_],_,h=>h
 | [_,_],_,h=>h
 | [_,_,_],_,h=>by simp only[addrAt]at h ⊢;exact h
 | [j,i,s,r],_,h=>by simp only[addrAt]at h ⊢;exact h
 | j :: i :: s :: x :: y :: q,ad,h=>by
  simp only[addrAt]at h ⊢
  cases ha:addrAt w lab ρ (x :: y :: q)with
  | none=>rw[ha]at h;cases h
  | some js=>
   rw[Ey hC _ _ ha]
   rw[ha]at h
   cases hc:w.cell? js with
   | none=>simp[hc]at h
   | some v=>
    simp only[Option.bind_some,hc]at h
    have hv:gT v=true:=by
     split at h
     ·rename_i e;injection e with e;subst e;rfl
     ·cases h
    simp only[Option.bind_some,hC _ _ _ ha hc hv]
    exact h
theorem JP(hC:lI w w' lab ρ)(k:List Nat)(u:Value)(hu:gT u=true)(h:aP w lab ρ k=some u):aP w' lab ρ k=some u:=by
 match k,h with
 | [],h=>simp[aP,addrAt]at h
 | [r],h=>exact h
 | x :: y :: q,h=>
  simp only[aP]at h ⊢
  cases ha:addrAt w lab ρ (x :: y :: q)with
  | none=>rw[ha]at h;cases h
  | some ad=>
   rw[Ey hC _ _ ha]
   rw[ha]at h
   have h:w.cell? ad=some u:=h
   exact hC _ _ _ ha h hu
theorem bw.wrote{x:Lf}{u:Value}(h:bw w B lab ρ x u)(hw:nh w w' bt)(hl:lab bt=some kt)(hC:lI w w' lab ρ):bw w' B lab ρ x u:=by
 cases x with
 | v x=>exact⟨h.1,h.2.apart hl (.inr h.1) (Nat.le_of_eq hw.size.symm) hw.block⟩
 | own k=>exact⟨h.1,JP hC k u h.1 h.2⟩
 | dead=>trivial
theorem bH.wrote{cs:List Lf}{us:Array Value}(h:bH w B lab ρ cs us)(hw:nh w w' bt)(hl:lab bt=some kt)(hC:lI w w' lab ρ):bH w' B lab ρ cs us:=
 ⟨h.1,fun j x hx=>let ⟨u,hu,r⟩:=h.2 j x hx;⟨u,hu,r.wrote hw hl hC⟩⟩
theorem RP.wrote{p:Bool×List Lf}{u:Value}(h:RP w B lab ρ p u)(hw:nh w w' bt)(hl:lab bt=some kt)(hC:lI w w' lab ρ):RP w' B lab ρ p u:=by
 obtain⟨b,cs⟩:=p
 cases b with
 | true=>obtain⟨us,e,h⟩:=h;exact⟨us,e,h.wrote hw hl hC⟩
 | false=>exact bH.wrote h hw hl hC
theorem RF.wrote{cs:List V}{u:Value}(h:RF w B lab cs u)(hw:nh w w' bt)(hl:lab bt=some kt):RF w' B lab cs u:=by
 obtain⟨b,off,e,U,cY,h⟩:=h
 have az:b≠bt:=by rintro rfl;rw[hl]at cY;cases cY
 refine⟨b,off,e,by rw[hw.size];exact U,cY,fun j x hx=>?_⟩
 obtain⟨hf,v,hv,hr⟩:=h j x hx
 exact⟨hf,v,(World.cell?_of_block (a:=⟨b,_,none⟩) (hw.block b az)).trans hv,hr.apart hl (.inr hf) (Nat.le_of_eq hw.size.symm) hw.block⟩
theorem RA.wrote{x:A}{u:Value}(h:RA w B lab ρ x u)(hw:nh w w' bt)(hl:lab bt=some kt)(hC:lI w w' lab ρ):RA w' B lab ρ x u:=by
 cases x with
 | undef=>trivial
 | skip=>exact h
 | lf x=>exact bw.wrote h hw hl hC
 | agg cs=>exact RP.wrote (p:=(true,cs)) h hw hl hC
 | aU xs=>obtain⟨us,e,hs,h⟩:=h;exact⟨us,e,hs,fun j p hp=>let ⟨v,hv,r⟩:=h j p hp;⟨v,hv,r.wrote hw hl hC⟩⟩
 | ptr k=>obtain⟨ad,e,h⟩:=h;exact⟨ad,e,Ey hC _ _ h⟩
 | view k s i j=>obtain⟨A,n,c,h,g⟩:=h;exact⟨A,n,c,JP hC k _ rfl h,g⟩
 | pk r n=>exact h
 | aE r j=>exact h
 | dO cs=>exact RF.wrote h hw hl
 | gU f cs=>obtain⟨pv,e,h⟩:=h;exact⟨pv,e,h.wrote hw hl⟩
 | fn f cap=>exact h
theorem bP.wrote{r:Nat}{x:au}(h:bP w B lab ρ r x)(hw:nh w w' bt)(hl:lab bt=some kt)(hC:lI w w' lab ρ)(hr:¬ [r] <:+ kt):bP w' B lab ρ r x:=by
 cases h with
 | blk b off cells e cs us aq cY hh hs hc=>
  have az:b≠bt:=by rintro rfl;rw[hl]at cY;injection cY with cY;subst cY;exact hr (List.suffix_refl _)
  exact .blk b off cells e cs us aq cY ((hw.block b az).trans hh) hs (fun j x hx=>⟨(hc j x hx).1,(hc j x hx).2.wrote hw hl hC⟩)
 | sl v y aq bq=>exact .sl v y aq (bq.apart hl (.inl hr) (Nat.le_of_eq hw.size.symm) hw.block)
 | mp b c es l aq cY hh he=>
  have az:b≠bt:=by rintro rfl;rw[hl]at cY;injection cY with cY;subst cY;exact hr (List.suffix_refl _)
  exact .mp b c es l aq cY ((hw.block b az).trans hh) he
 | gh us xs aq hx=>exact .gh us xs aq fun j x hj=>(hx j x hj).wrote hw hl hC
theorem Rl.wrote(h:Rl w0 N lab ρ σ a w)(hw:nh w w' bt)(hl:lab bt=some kt)(hC:lI w w' lab ρ)(hm:∀ r x,m' r=some x->bP w' w0.heap.size lab ρ r x):Rl w0 N lab ρ ⟨σ.t,m'⟩ a w':=by
 have U:=(h.bf bt kt hl).1
 have az:∀ k,k<w0.heap.size->w0.L k=none->k≠bt:=by
  rintro k hk hL rfl
  rcases U with U | U
  ·exact absurd hk (Nat.not_lt.2 U)
  ·exact U hL
 refine⟨⟨hw.os.trans h.below.os,hw.tape.trans h.below.tape,hw.output.trans h.below.output,by rw[hw.size];exact h.below.size,fun k hk hL=>(hw.block k (az k hk hL)).trans (h.below.block k hk hL)⟩,fun b k hbk=>?_,hm,fun k=>(h.tmp k).wrote hw hl hC,h.size,h.defers,h.fix,h.cB⟩
 rw[hw.size]
 exact h.bf b k hbk
theorem Ez{r r':Nat}(h:r'≠r):¬ [r'] <:+ [r]:=by
 intro hs
 have:=hs.eq_of_length rfl
 injection this with this
 exact h this
theorem Rl.xY{r j:Nat}{cs xs:List Lf}{us:Array Value}(h:Rl w0 N lab ρ σ a w)(hm:σ.m r=some (.blk cs))(hx:bH w w0.heap.size lab ρ xs us)(hj:j+xs.length<=cs.length):
  ∃ b off,ρ r = .blk b off/\w.there b (off+j) us.size/\Rl w0 N lab ρ ⟨σ.t,aH σ.m r (some (.blk (cL cs j xs)))⟩ a (w.setCells b (off+j) us.toList):=by
 have hr:=h.root r _ hm
 generalize he:au.blk cs=x at hr
 cases hr with
 | sl=>cases he
 | mp=>cases he
 | gh=>cases he
 | blk b off cells e cS u aq hl hh hs hc=>
  injection he with he
  subst he
  have hlen:us.size=xs.length:=hx.1
  have fD:off+j+us.toList.length<=cells.size:=by rw[Array.length_toList,hlen];omega
  have hW:=Ex w b (off+j) us.toList
  obtain⟨c2,ew,iH⟩:=AD b e us.toList (off+j) w cells hh fD
  have hC:lI w (w.setCells b (off+j) us.toList) lab ρ:=by
   intro k ad v ha hv dJ
   obtain⟨j',i',s',q,rfl,hq,_,_,EA⟩:=qP k ad ha
   have az:ad.block≠b:=by
    intro e
    rw[e,hl]at hq
    injection hq with hq
    obtain⟨v',bT⟩:=EA r hq.symm
    rw[aq]at bT
    cases bT
   exact(World.cell?_of_block (hW.block _ az)).trans hv
  refine⟨b,off,aq,fun n hn=>⟨?_,frozen_of_row w b _ cells e hh⟩,h.wrote hW hl hC fun r' y hy=>?_⟩
  ·rw[cell_of_row w b _ cells e _ hh]
   simp
   omega
  ·by_cases gW:r'=r
   ·subst gW
    rw[aJ]at hy
    injection hy with hy
    subst hy
    refine .blk b off c2 e _ (fun n=>if n<j then u n else if n<j+xs.length then us.getD (n-j) undef else u n) aq hl ew ?_ fun n x ot=>?_
    ·rw[sx _ _ _ hj,<-Array.length_toList,iH]
     have:=sx cells.toList (off+j) us.toList (by simpa using fD)
     simp only[cL]at this
     rw[this]
     simpa using hs
    ·have e2:c2[off+n]?=(cL cells.toList (off+j) us.toList)[off+n]?:=by
      rw[show c2[off+n]?=c2.toList[off+n]? by simp,iH]
      rfl
     rw[e2,sy _ _ _ (by simpa using fD)]
     rw[sy _ _ _ hj]at ot
     by_cases h1:n<j
     ·rw[if_pos (by omega)]
      simp only[h1,if_true]at ot ⊢
      refine⟨?_,(hc n x ot).2.wrote hW hl hC⟩
      rw[Array.getElem?_toList]
      exact(hc n x ot).1
     ·by_cases h2:n<j+xs.length
      ·rw[if_neg (by omega),if_pos (by rw[Array.length_toList,hlen];omega)]
       simp only[h1,h2,if_true,if_false]at ot ⊢
       obtain⟨v,hv,hr⟩:=hx.2 (n-j) x ot
       have hg:us.getD (n-j) undef=v:=by rw[Array.getD_eq_getD_getElem?,hv];rfl
       rw[hg]
       refine⟨?_,hr.wrote hW hl hC⟩
       rw[show off+n-(off+j)=n-j by omega,Array.getElem?_toList]
       exact hv
      ·rw[if_neg (by omega),if_neg (by rw[Array.length_toList,hlen];omega)]
       simp only[h1,h2,if_false]at ot ⊢
       refine⟨?_,(hc n x ot).2.wrote hW hl hC⟩
       rw[Array.getElem?_toList]
       exact(hc n x ot).1
   ·rw[aQ _ _ _ gW]at hy
    exact(h.root r' y hy).wrote hW hl hC (Ez gW)
inductive sA (m:Nat->Option au):List Nat->V->(Nat->Option au)->Prop
 | root (r:Nat) (y0 y:V) (h:m r=some (.sl y0)):sA m [r] y (aH m r (some (.sl y)))
 | elem (j i:Nat) (q:List Nat) (t:TC) (o:Nat) (qn:Bool) (l:List (T t)) (y:V) (e:T t) (m':Nat->Option au) (h:nc m q (.sl t (o+2) qn l)) (hi:i<l.length) (hj:j<aj t)
   (hd:dec t o (cL (enc t o l[i]) j [y])=some e) (hp:sA m q (.sl t (o+2) qn (l.set i e)) m'):sA m (j :: i :: aj t :: q) y m'
theorem EB{α:Type}{a b c:List α}(ha:a <:+ c)(U:b <:+ c)(h:a.length=b.length):a=b:=by
 obtain⟨x,hx⟩:=ha
 obtain⟨y,hy⟩:=U
 rw[<-hx]at hy
 exact((List.append_inj' hy h.symm).2).symm
theorem RV.A4{q:List Nat}{t:TC}{o:Nat}{qn:Bool}{l:List (T t)}{i j:Nat}{xs:List V}{e:T t}{b cap:Nat}{cs cS:Array Value}{u us:Nat->Nat->Value}
  (hl:lab b=some q) (hh:w'.heap[b]?=some (.cells cS (tid t) (0,0))) (hs:cS.size=cap*aj t) (hn:l.length<=cap) (hm:cap<=maxLen/\(qn=true->cap=l.length)) (hi:i<l.length) (hj:j+xs.length<=aj t)
  (hd:dec t o (cL (enc t o l[i]) j xs)=some e)
  (hc:∀ i' (h:i'<l.length) (j':Nat) x,(enc t o l[i'])[j']?=some x->¬ (i'=i/\j<=j'/\j'<j+xs.length)->cS[i'*aj t+j']?=some (u i' j')/\RV w' B lab (j' :: i' :: aj t :: q) x (u i' j'))
  (hx:∀ (n:Nat) x,xs[n]?=some x->cS[i*aj t+(j+n)]?=some (us i (j+n))/\RV w' B lab ((j+n) :: i :: aj t :: q) x (us i (j+n))):
  RV w' B lab q (.sl t (o+2) qn (l.set i e)) (.slice (some ⟨b,0,none⟩) l.length cap):=by
 have hlen:(l.set i e).length=l.length:=List.length_set
 have key:∀ i' (h:i'<(l.set i e).length) (j':Nat) x,(enc t o (l.set i e)[i'])[j']?=some x->
   ∃ v,cS[i'*aj t+j']?=some v/\RV w' B lab (j' :: i' :: aj t :: q) x v:=by
  intro i' h j' x bx
  rw[List.getElem_set]at bx
  by_cases JQ:i=i'
  ·subst JQ
   rw[if_pos rfl]at bx
   have hk:=gS t o _ e hd
   have jS:j'<(enc t o e).length:=(List.getElem?_eq_some_iff.1 bx).1
   rw[<-hk.1]at jS
   have hy:=List.getElem?_eq_getElem jS
   generalize (cL (enc t o l[i]) j xs)[j']=y at hy
   have hw:=hk.2 j' y x hy bx
   rw[sy _ _ _ (by rw[iF];exact hj)]at hy
   by_cases h1:j'<j
   ·rw[if_pos h1]at hy
    obtain⟨h3,h4⟩:=hc i hi j' y hy (by omega)
    exact⟨_,h3,h4.wk hw⟩
   ·by_cases h2:j'<j+xs.length
    ·rw[if_neg h1,if_pos h2]at hy
     obtain⟨h3,h4⟩:=hx (j'-j) y hy
     rw[show j+(j'-j)=j' by omega]at h3 h4
     exact⟨_,h3,h4.wk hw⟩
    ·rw[if_neg h1,if_neg h2]at hy
     obtain⟨h3,h4⟩:=hc i hi j' y hy (by omega)
     exact⟨_,h3,h4.wk hw⟩
  ·rw[if_neg JQ]at bx
   obtain⟨h3,h4⟩:=hc i' (by rw[<-hlen];exact h) j' x bx (by omega)
   exact⟨_,h3,h4⟩
 rw[<-hlen]
 refine .own q t o qn (l.set i e) b cap cS (fun i' j'=>(cS[i'*aj t+j']?).getD undef) hl hh hs (by rw[hlen];exact hn) ⟨hm.1,fun h=>by rw[hlen];exact hm.2 h⟩ (fun i' h j' x bx=>?_) (fun i' h j' x bx=>?_)
 ·obtain⟨v,hv,_⟩:=key i' h j' x bx
  rw[hv]
  rfl
 ·obtain⟨v,hv,hr⟩:=key i' h j' x bx
  rw[hv]
  exact hr
theorem JR{r:Nat}{q:List Nat}(h:[r] <:+ q){r':Nat}(h':[r'] <:+ q):r'=r:=by
 have:=EB h' h rfl
 injection this
theorem sA.ok{q:List Nat}{y:V}(h:sA m q y m')(hm:∀ r x,m r=some x->bP w B lab ρ r x)(hw:nh w w' bt)(hl:lab bt=some kt)(hq:q <:+ kt)(hC:lI w w' lab ρ){hv:Value}(bA:aP w lab ρ q=some hv)(hy:RV w' B lab q y hv):
  ∀ r x,m' r=some x->bP w' B lab ρ r x:=by
 induction h generalizing hv with
 | root r y0 y h=>
  intro r' x hx
  by_cases hr:r'=r
  ·subst hr
   rw[aJ]at hx
   injection hx with hx
   subst hx
   simp only[aP]at bA
   cases aq:ρ r' with
   | blk b off=>rw[aq]at bA;cases bA
   | aN us=>rw[aq]at bA;cases bA
   | bS v=>
    rw[aq]at bA
    injection bA with bA
    subst bA
    exact .sl v y aq hy
  ·rw[aQ _ _ _ hr]at hx
   exact(hm r' x hx).wrote hw hl hC (fun hs=>hr (JR hq hs))
 | elem j i q t o qn l y e m' h hi hj hd hp ih=>
  obtain⟨bT,xZ,bq⟩:=h.ok hm
  have RS:q <:+ kt:=List.IsSuffix.trans ⟨[j,i,aj t],rfl⟩ hq
  cases bq with
  | aY=>simp at hi
  | bn=>simp at hi
  | bF=>simp at hi
  | av _ _ _ _ _ _ _ _ _ ho=>omega
  | own _ _ _ _ _ b cap cs us bI hh hs hn sB hc hr=>
   have az:b≠bt:=by
    rintro rfl
    rw[hl]at bI
    injection bI with bI
    subst bI
    have:=hq.length_le
    simp at this
    omega
   have hz:=Nat.le_of_eq hw.size.symm
   refine ih RS xZ (RV.A4 (us:=fun _ _=>hv) (u:=us) (cs:=cs) (xs:=[y]) bI ((hw.block b az).trans hh) hs hn sB hi (show j+1<=aj t from hj) hd (fun i' h' j' x hx ya=>⟨hc i' h' j' x hx,(hr i' h' j' x hx).apart hl (.inl fun iI=>ya ?_) hz hw.block⟩) (fun n x hx=>?_))
   ·have:=EB iI hq rfl
    injection this with e1 e2
    injection e2 with e2 _
    subst e1 e2
    exact⟨rfl,Nat.le_refl _,by simp⟩
   ·cases n with
    | succ n=>simp at hx
    | zero=>
     simp at hx
     subst hx
     refine⟨?_,hy⟩
     rw[A3,sw j i (aj t) xZ bI]at bA
     have bA:w.cell? ⟨b,i*aj t+j,none⟩=some hv:=bA
     rw[cell_of_row w b _ cs _ _ hh]at bA
     exact bA
theorem RV.RT{q:List Nat}{x:V}{v:Value}(h:RV w B lab q x v)(hx:x.plain=true):gT v=false:=by
 cases h <;>first | rfl | cases hx
theorem RV.qQ{q q':List Nat}{x:V}{v:Value}{B':Nat}{af:aG}(h:RV w B lab q x v)(hx:x.plain=true):RV w' B' af q' x v:=by
 cases h <;>first | exact .int _ _ _ | exact .bool _ _ | exact .str _ _ | cases hx
theorem Rl.RU{j i:Nat}{q:List Nat}{t:TC}{o:Nat}{qn:Bool}{l:List (T t)}{xs:List V}{us:Array Value}{e:T t}(h:Rl w0 N lab ρ σ a w)(hg:nc σ.m q (.sl t (o+2) qn l))(hi:i<l.length)(hj:j+xs.length<=aj t)
  (hd:dec t o (cL (enc t o l[i]) j xs)=some e) (hold:∀ (n:Nat) x,n<xs.length->(enc t o l[i])[j+n]?=some x->x.plain=true) (RX:∀ x∈xs,x.plain=true) (cE:us.size=xs.length) (hx:∀ (n:Nat) x,xs[n]?=some x->∃ u,us[n]?=some u/\RV w w0.heap.size lab [] x u)
  (hp:sA σ.m q (.sl t (o+2) qn (l.set i e)) m'):
  ∃ b,addrAt w lab ρ (j :: i :: aj t :: q)=some ⟨b,i*aj t+j,none⟩/\w.there b (i*aj t+j) us.size/\Rl w0 N lab ρ ⟨σ.t,m'⟩ a (w.setCells b (i*aj t+j) us.toList):=by
 obtain⟨bT,xZ,bq⟩:=hg.ok h.root
 cases bq with
 | aY=>simp at hi
 | bn=>simp at hi
 | bF=>simp at hi
 | av _ _ _ _ _ _ _ _ _ ho=>omega
 | own _ _ _ _ _ b cap cs u bI hh hs hn sB hc hr=>
  have bZ:i*aj t+aj t<=cap*aj t:=by
   have:(i+1)*aj t<=cap*aj t:=Nat.mul_le_mul_right _ (by omega)
   rw[Nat.succ_mul]at this
   exact this
  have fD:i*aj t+j+us.toList.length<=cs.size:=by rw[Array.length_toList,cE,hs];omega
  have hW:=Ex w b (i*aj t+j) us.toList
  obtain⟨c2,ew,iH⟩:=AD b (tid t) us.toList (i*aj t+j) w cs hh fD
  have u7:∀ n,c2[n]?=if n<i*aj t+j then cs[n]? else if n<i*aj t+j+xs.length then us[n-(i*aj t+j)]? else cs[n]?:=by
   intro n
   have e2:c2[n]?=(cL cs.toList (i*aj t+j) us.toList)[n]?:=by
    rw[show c2[n]?=c2.toList[n]? by simp,iH]
    rfl
   rw[e2,sy _ _ _ (by simpa using fD),Array.length_toList,cE]
   simp
  have EC:c2.size=cs.size:=by
   rw[<-Array.length_toList,iH]
   have:=sx cs.toList (i*aj t+j) us.toList (by simpa using fD)
   simp only[cL]at this
   rw[this]
   simp
  have hC:lI w (w.setCells b (i*aj t+j) us.toList) lab ρ:=by
   intro k ad v ha hv dJ
   by_cases az:ad.block=b
   ·obtain⟨j',i',s',q',rfl,gx,aa6,gy,_⟩:=qP k ad ha
    have eS:ad=⟨b,ad.off,none⟩:=by cases ad;simp_all
    rw[eS,cell_of_row w b _ cs _ _ hh]at hv
    rw[eS,cell_of_row _ b _ c2 _ _ ew,u7]
    by_cases h1:ad.off<i*aj t+j
    ·rw[if_pos h1];exact hv
    ·by_cases h2:ad.off<i*aj t+j+xs.length
     ·exfalso
      have RY:ad.off-(i*aj t+j)<xs.length:=by omega
      have ou:j+(ad.off-(i*aj t+j))<(enc t o l[i]).length:=by rw[iF];omega
      have hy:=List.getElem?_eq_getElem ou
      generalize (enc t o l[i])[j+(ad.off-(i*aj t+j))]=y at hy
      have eT:=hold _ y RY hy
      have h3:=hc i hi _ y hy
      rw[show i*aj t+(j+(ad.off-(i*aj t+j)))=ad.off by omega]at h3
      rw[hv]at h3
      injection h3 with h3
      have:=(hr i hi _ y hy).RT eT
      rw[<-h3,dJ]at this
      cases this
     ·rw[if_neg h1,if_neg h2];exact hv
   ·exact(World.cell?_of_block (hW.block _ az)).trans hv
  refine⟨b,sw j i (aj t) xZ bI,fun n va=>⟨?_,frozen_of_row w b _ cs _ hh⟩,h.wrote hW bI hC (hp.ok h.root hW bI (List.suffix_refl _) hC xZ ?_)⟩
  ·rw[cell_of_row w b _ cs _ _ hh]
   simp
   omega
  ·refine RV.A4 (u:=u) (us:=fun _ n=>us.getD (n-j) undef) (cs:=cs) (xs:=xs) bI ew (EC.trans hs) hn sB hi hj hd (fun i' h' j' x bx ya=>?_) (fun n x bx=>?_)
   ·have jS:j'<aj t:=by have:=(List.getElem?_eq_some_iff.1 bx).1;rwa [iF]at this
    refine⟨?_,(hr i' h' j' x bx).apart bI (.inl fun iI=>?_) (Nat.le_of_eq hW.size.symm) hW.block⟩
    ·rw[u7]
     have l5:¬ (¬ i'*aj t+j'<i*aj t+j/\i'*aj t+j'<i*aj t+j+xs.length):=by
      rintro⟨h1,h2⟩
      rcases Nat.lt_trichotomy i' i with aV | heq | ED
      ·have:(i'+1)*aj t<=i*aj t:=Nat.mul_le_mul_right _ aV
       rw[Nat.succ_mul]at this
       omega
      ·subst heq
       exact ya ⟨rfl,by omega,by omega⟩
      ·have:(i+1)*aj t<=i'*aj t:=Nat.mul_le_mul_right _ ED
       rw[Nat.succ_mul]at this
       omega
     split
     ·exact hc i' h' j' x bx
     ·rw[if_neg (by omega)]
      exact hc i' h' j' x bx
    ·have:=iI.length_le
     simp at this
     omega
   ·obtain⟨v,hv,A5⟩:=hx n x bx
    have va:n<xs.length:=(List.getElem?_eq_some_iff.1 bx).1
    have ow:us.getD (j+n-j) undef=v:=by rw[show j+n-j=n by omega,Array.getD_eq_getD_getElem?,hv];rfl
    show c2[_]?=some (us.getD (j+n-j) undef)/\RV _ _ _ _ _ (us.getD (j+n-j) undef)
    rw[ow,u7,if_neg (by omega),if_pos (by omega)]
    refine⟨?_,A5.qQ (RX x (List.mem_of_getElem? bx))⟩
    rw[show i*aj t+(j+n)-(i*aj t+j)=n by omega]
    exact hv
end
end Go.Proofs.YtjldnlbiefpekaaDoor
namespace Go.Proofs.YtjldnlbiefpekaaDoor
open Go.RowKit
set_option linter.unusedVariables false
def vb:Value->A
 | .bool b=>.lf (.v (.bool b))
 | .int k n=>.lf (.v (.int k n))
 | .string s=>.lf (.v (.str s))
 | .slice none 0 0=>.lf (.v .nil)
 | _=>.undef
def ah(σ:S):Operand->A
 | .tmp t=>σ.t t
 | .const v=>vb v
 | .func f=>.fn f []
 | .global _=>.undef
def eK{X:Type}(N:Nat)(σ:S)(dst:Option Tmp)(x:A)(k:S->Option X):Option X:=
 match dst with
 | none=>k σ
 | some d=>bif Nat.blt d N then k (σ.set d x)else none
def gz(P:Program)(w0:Wd)(N:Nat)(o:Oper)(σ aa:S):Prop:=
 ∀ a w K Q,R w0 N σ a w->(∀ a' w',R w0 N aa a' w'->K a' w')->o.wp P a w K Q
section
variable {P:Program} {w:World} {w0:Wd} {B N:Nat} {lab:aG} {ρ:Nat->Loc} {σ:S} {a:Act} {X:Type} {r:X} {k:S->Option X} {o:Oper}
theorem RZ(v:Value):RA w B lab ρ (vb v) v:=by
 unfold vb
 split
 ·exact⟨rfl,.bool _ _⟩
 ·exact⟨rfl,.int _ _ _⟩
 ·exact⟨rfl,.str _ _⟩
 ·exact⟨rfl,.nil _⟩
 ·trivial
theorem Rl.ah(h:Rl w0 N lab ρ σ a w)(x:Operand):RA w w0.heap.size lab ρ (ah σ x) (a.eval x):=by
 cases x with
 | tmp t=>exact h.tmp t
 | const v=>exact RZ v
 | func f=>exact⟨#[],rfl,rfl,by simp⟩
 | global g=>trivial
theorem gz.val{x:A}(hk:eK N σ o.dst x k=some r)(h:∀ lab ρ a w,Rl w0 N lab ρ σ a w->∃ v,(execOp a.eval o).run P w = .ok (.value v) w/\RA w w0.heap.size lab ρ x v):∃ aa,k aa=some r/\gz P w0 N o σ aa:=by
 unfold eK at hk
 split at hk
 ·rename_i hd
  refine⟨σ,hk,fun a w K Q hR hK=>?_⟩
  obtain⟨lab,ρ,hl⟩:=hR
  obtain⟨v,hv,hx⟩:=h lab ρ a w hl
  unfold Oper.wp
  rw[hv,Oper.upon_value,hd]
  exact hK _ _ ⟨lab,ρ,hl⟩
 ·rename_i d hd
  cases hN:Nat.blt d N with
  | false=>rw[hN]at hk;cases hk
  | true=>
   rw[hN]at hk
   refine⟨_,hk,fun a w K Q hR hK=>?_⟩
   obtain⟨lab,ρ,hl⟩:=hR
   obtain⟨v,hv,hx⟩:=h lab ρ a w hl
   unfold Oper.wp
   rw[hv,Oper.upon_value,hd]
   exact hK _ _ ⟨lab,ρ,hl.set hx (by have:=Nat.le_of_ble_eq_true hN;omega)⟩
/-! Contents of leaves. -/
def c7{X:Type}(m:Nat->Option au):List Nat->(V->Option X)->Option X
 | [r],k=>match m r with
  | some (.sl y)=>k y
  | _=>none
 | j :: i :: s :: q,k=>c7 m q fun y=>match y with
  | .sl t (o+2) _ l=>if s=aj t then (if h:i<l.length then (match (enc t o l[i])[j]? with | some z=>k z | none=>none)else none)else none
  | _=>none
 | _,_=>none
theorem l6{m:Nat->Option au}:∀ (q:List Nat) (k:V->Option X),c7 m q k=some r->∃ y,nc m q y/\k y=some r
 | [],_,h=>by simp[c7]at h
 | [x],k,h=>by
  simp only[c7]at h
  split at h
  ·rename_i y hy;exact⟨y,.root x y hy,h⟩
  ·cases h
 | [_,_],_,h=>by simp[c7]at h
 | j :: i :: s :: q,k,h=>by
  simp only[c7]at h
  obtain⟨y,hy,h2⟩:=l6 q _ h
  clear h
  split at h2
  ·split at h2
   ·rename_i hs
    subst hs
    split at h2
    ·rename_i hi
     split at h2
     ·rename_i z hz;exact⟨z,.elem j i q _ _ _ _ z hy hi hz,h2⟩
     ·cases h2
    ·cases h2
   ·cases h2
  ·cases h2
def dP{X:Type}(σ:S)(x:Lf)(k:V->Option X):Option X:=
 match x with
 | .v y=>k y
 | .own q=>c7 σ.m q k
 | .dead=>none
theorem RV.part{q:List Nat}{tc:TC}{g:Nat}{qn:Bool}{xs:List (T tc)}{A:Option Addr}{n c a h:Nat}(hr:RV w B lab q (.sl tc g qn xs) (.slice A n c))(hg:g<2)(h1:a<=h)(h2:h<=xs.length):RV w B lab q (.sl tc g false ((xs.take h).drop a)) (sliced A a h c (aj tc))/\n=xs.length/\xs.length<=c:=by
 have hlen:((xs.take h).drop a).length=h-a:=by simp;omega
 cases hr with
 | aY=>
  have:a=0:=by simp at h2;omega
  have:h=0:=by simpa using h2
  subst_vars
  exact⟨.aY _ _ _,rfl,Nat.le_refl _⟩
 | bn=>
  have:h=0:=by simpa using h2
  subst this
  have:a=0:=by omega
  subst this
  exact⟨by unfold sliced;split <;>exact .bn _ _ _ _ _ hg,rfl,Nat.zero_le _⟩
 | bF=>
  have:h=0:=by simpa using h2
  subst this
  have:a=0:=by omega
  subst this
  exact⟨by unfold sliced;split <;>exact .bn _ _ _ _ _ hg,rfl,Nat.zero_le _⟩
 | own=>omega
 | av _ _ _ _ _ b off cap u ho hl U hB hcap hc hr=>
  refine⟨?_,rfl,hcap⟩
  by_cases he:a=h
  ·subst he
   have e0:(xs.take a).drop a=[]:=List.eq_nil_of_length_eq_zero (by rw[hlen];omega)
   rw[e0]
   unfold sliced
   rw[Nat.sub_self]
   split <;>exact .bn _ _ _ _ _ hg
  ·unfold sliced
   rw[if_neg (by omega),<-hlen]
   have wJ:(some (⟨b,off,none⟩:Addr)).map (·.add (a*aj tc))=some ⟨b,off+a*aj tc,none⟩:=by
    simp only[Option.map_some]
    unfold Addr.add
    split <;>simp_all
   rw[wJ]
   have gA:∀ i (hi:i<((xs.take h).drop a).length),((xs.take h).drop a)[i]=xs[a+i]'(by omega):=by
    intro i hi
    rw[List.getElem_drop,List.getElem_take]
   refine .av _ _ _ _ _ b (off+a*aj tc) (c-a) (fun i j=>u (a+i) j) ho hl U hB (by omega) (fun i hi j x hx=>?_) (fun i hi j x hx=>?_)
   ·rw[gA i hi]at hx
    have:=hc (a+i) (by omega) j x hx
    rw[<-this]
    congr 2
    rw[Nat.add_mul]
    omega
   ·rw[gA i hi]at hx
    exact hr (a+i) (by omega) j x hx
def JS(s i j:Nat):V->Option V
 | .sl t _ _ l=>bif Nat.beq s (aj t)then some (.sl t 0 false ((l.take j).drop i))else none
 | _=>none
def lJ{X:Type}(σ:S)(q:List Nat)(s i j:Nat)(k:V->Option X):Option X:=
 c7 σ.m q fun y=>match JS s i j y with
  | some z=>k z
  | none=>none
def jT{X:Type}(σ:S)(y:A)(k:V->Option X):Option X:=
 match y with
 | .lf l=>dP σ l k
 | .view q s i j=>lJ σ q s i j k
 | _=>none
theorem JT{q:List Nat}{s i j:Nat}{k:V->Option X}(h:lJ σ q s i j k=some r):∃ z,k z=some r/\z.av=true/\∀ w0 N lab ρ a w,Rl w0 N lab ρ σ a w->∀ u,RA w w0.heap.size lab ρ (.view q s i j) u->∀ B',RV w B' (fun _=>none) [] z u:=by
 obtain⟨y,hy,h2⟩:=l6 q _ h
 clear h
 split at h2
 ·rename_i z hz
  unfold JS at hz
  split at hz
  ·rename_i t g qn l
   cases hs:Nat.beq s (aj t)with
   | false=>rw[hs]at hz;cases hz
   | true=>
    rw[hs,cond_true]at hz
    obtain rfl:=Nat.eq_of_beq_eq_true hs
    injection hz with hz
    subst hz
    refine⟨_,h2,rfl,fun w0 N lab ρ a w hR u hu B'=>?_⟩
    obtain⟨A,n,c,hv,h1,h3,rfl⟩:=hu
    obtain⟨v,bT,hr⟩:=hy.ok hR.root
    rw[hv]at bT
    injection bT with bT
    subst bT
    have hf:RV w B' (fun _=>none) [] (.sl t 0 qn l) (.slice A n c):=hr.fm
    have hn:n=l.length:=by cases hf <;>rfl
    exact(hf.part (by omega) h1 (by omega)).1
  ·cases hz
 ·cases h2
def vK{X:Type}(x:A)(k:V->Option X):Option X:=
 match x with
 | .lf (.v y)=>k y
 | _=>none
theorem A6{x:A}{k:V->Option X}(h:vK x k=some r):∃ y,x = .lf (.v y)/\k y=some r:=by
 unfold vK at h
 split at h
 ·exact⟨_,rfl,h⟩
 ·cases h
theorem RV.eE{q:List Nat}{k:IntKind}{n:Int}{u:Value}(h:RV w B lab q (.int k n) u):u = .int k n:=by cases h;rfl
theorem RV.qR{q:List Nat}{n:Bool}{u:Value}(h:RV w B lab q (.bool n) u):u = .bool n:=by cases h;rfl
theorem RV.jU{q:List Nat}{n:ByteArray}{u:Value}(h:RV w B lab q (.str n) u):u = .string n:=by cases h;rfl
/-! Arithmetic and comparison. -/
def bz(n:Nat):Bool:=decide (n<1073741824)
def gX{X:Type}(P:Program)(ty:TypeId)(op:BinOp)(x y:V)(k:V->Option X):Option X:=
 match x,y with
 | .int kx a,.int ky b=>match op with
  | .shl=>if b<0 then none else k (.int kx (kx.wrap (a*2 ^ (min b.toNat kx.bits))))
  | .shr=>if b<0 then none else k (.int kx (a.fdiv (2 ^ (min b.toNat kx.bits))))
  | op=>if kx=ky then (match op with
   | .add=>k (.int kx (kx.wrap (a+b)))
   | .sub=>k (.int kx (kx.wrap (a-b)))
   | .mul=>k (.int kx (kx.wrap (a*b)))
   | .quo=>if b=0 then none else k (.int kx (kx.wrap (a.tdiv b)))
   | .rem=>if b=0 then none else k (.int kx (a.tmod b))
   | .and=>k (.int kx (bits .and kx a b))
   | .or=>k (.int kx (bits .or kx a b))
   | .xor=>k (.int kx (bits .xor kx a b))
   | .andNot=>k (.int kx (bits .andNot kx a b))
   | .eql=>k (.bool (a==b))
   | .neq=>k (.bool (a != b))
   | .lss=>k (.bool (decide (a<b)))
   | .leq=>k (.bool (decide (a<=b)))
   | .gtr=>k (.bool (decide (a > b)))
   | .geq=>k (.bool (decide (a >= b)))
   | _=>none)else none
 | .bool a,.bool b=>match P.underlying ty with
  | some .bool=>(match op with
   | .eql=>k (.bool (a==b))
   | .neq=>k (.bool (!(a==b)))
   | _=>none)
  | _=>none
 | .str a,.str b=>match op with
  | .add=>bif bz (a.size+b.size)then k (.str (a++b))else none
  | .eql=>k (.bool (a.toList==b.toList))
  | .neq=>k (.bool (!(a.toList==b.toList)))
  | _=>none
 | _,_=>none
theorem R1{ty:TypeId}{op:BinOp}{x y:V}{k:V->Option X}(h:gX P ty op x y k=some r):∃ z,k z=some r/\z.plain=true/\∀ (w:World) (B:Nat) (lab:aG) (xo yo:Operand) (q q':List Nat) (u v:Value),RV w B lab q x u->RV w B lab q' y v->
  ∃ t,(do eqGuard op ty xo yo u v;binOp op ty u v:Sem Value).run P w = .ok t w/\RV w B lab [] z t:=by
 unfold gX at h
 split at h
 ·rename_i kx a ky b
  split at h
  ·split at h
   ·cases h
   ·rename_i U
    refine⟨_,h,rfl,fun w B lab xo yo q q' u v hu hv=>?_⟩
    obtain rfl:=hu.eE
    obtain rfl:=hv.eE
    exact⟨_,by simp[eqGuard,binOp,Op.shift,U],.int _ _ _⟩
  ·split at h
   ·cases h
   ·rename_i U
    refine⟨_,h,rfl,fun w B lab xo yo q q' u v hu hv=>?_⟩
    obtain rfl:=hu.eE
    obtain rfl:=hv.eE
    exact⟨_,by simp[eqGuard,binOp,Op.shift,U],.int _ _ _⟩
  ·rename_i h1 h2
   split at h
   ·rename_i hk
    subst hk
    cases op
    case shl=>exact absurd rfl h1
    case shr=>exact absurd rfl h2
    case quo=>
     by_cases U:b=0
     ·simp only[U,if_true]at h;cases h
     ·simp only[U,if_false]at h
      refine⟨_,h,rfl,fun w B lab xo yo q q' u v hu hv=>?_⟩
      obtain rfl:=hu.eE
      obtain rfl:=hv.eE
      exact⟨_,by simp[eqGuard,binOp,Op.intDiv,U],.int _ _ _⟩
    case rem=>
     by_cases U:b=0
     ·simp only[U,if_true]at h;cases h
     ·simp only[U,if_false]at h
      refine⟨_,h,rfl,fun w B lab xo yo q q' u v hu hv=>?_⟩
      obtain rfl:=hu.eE
      obtain rfl:=hv.eE
      exact⟨_,by simp[eqGuard,binOp,Op.intDiv,U],.int _ _ _⟩
    all_goals first
     | (refine⟨_,h,rfl,fun w B lab xo yo q q' u v hu hv=>?_⟩
        obtain rfl:=hu.eE
        obtain rfl:=hv.eE
        first
         | (refine⟨_,?_,.int _ _ _⟩;simp[eqGuard,binOp,Op.intArith];done)
         | (refine⟨_,?_,.int _ _ _⟩;simp[eqGuard,binOp,intBits_and,intBits_or,intBits_xor,intBits_andNot];done)
         | (refine⟨_,?_,.bool _ _⟩;simp[eqGuard,binOp,Op.intCmp];done))
     | cases h
   ·cases h
 ·rename_i a b
  split at h
  ·rename_i yb
   split at h
   ·refine⟨_,h,rfl,fun w B lab xo yo q q' u v hu hv=>?_⟩
    obtain rfl:=hu.qR
    obtain rfl:=hv.qR
    have e:binOp .eql ty (.bool a) (.bool b)=(do pure (.bool (<-Op.equal ty (.bool a) (.bool b)))):=rfl
    have g:eqGuard .eql ty xo yo (.bool a) (.bool b)=pure ():=rfl
    exact⟨_,by rw[e,g,Sem.run_bind,Sem.run_pure,Result.andThen_ok,Sem.run_bind,run_equal_bool _ _ _ _ yb];rfl,.bool _ _⟩
   ·refine⟨_,h,rfl,fun w B lab xo yo q q' u v hu hv=>?_⟩
    obtain rfl:=hu.qR
    obtain rfl:=hv.qR
    have e:binOp .neq ty (.bool a) (.bool b)=(do pure (.bool (!(<-Op.equal ty (.bool a) (.bool b))))):=rfl
    have g:eqGuard .neq ty xo yo (.bool a) (.bool b)=pure ():=rfl
    exact⟨_,by rw[e,g,Sem.run_bind,Sem.run_pure,Result.andThen_ok,Sem.run_bind,run_equal_bool _ _ _ _ yb];rfl,.bool _ _⟩
   ·cases h
  ·cases h
 ·rename_i a b
  split at h
  ·cases hL:bz (a.size+b.size)with
   | false=>rw[hL]at h;cases h
   | true=>
    rw[hL]at h
    refine⟨_,h,rfl,fun w B lab xo yo q q' u v hu hv=>?_⟩
    obtain rfl:=hu.jU
    obtain rfl:=hv.jU
    have hL':a.size+b.size<1073741824:=by simpa [bz]using hL
    refine⟨_,?_,.str _ _⟩
    have h9:IntKind.i64.max=9223372036854775807:=rfl
    simp only[eqGuard,binOp,Op.stringOp,h9]
    simp
    omega
  ·refine⟨_,h,rfl,fun w B lab xo yo q q' u v hu hv=>?_⟩
   obtain rfl:=hu.jU
   obtain rfl:=hv.jU
   exact⟨_,by simp[eqGuard,binOp,Op.stringOp],.bool _ _⟩
  ·refine⟨_,h,rfl,fun w B lab xo yo q q' u v hu hv=>?_⟩
   obtain rfl:=hu.jU
   obtain rfl:=hv.jU
   exact⟨_,by simp[eqGuard,binOp,Op.stringOp],.bool _ _⟩
  ·cases h
 ·cases h
def vc{X:Type}(op:UnOp)(x:V)(k:V->Option X):Option X:=
 match op,x with
 | .not,.bool b=>k (.bool (!b))
 | .neg,.int kx n=>k (.int kx (kx.wrap (0-n)))
 | _,_=>none
theorem R2{op:UnOp}{x:V}{k:V->Option X}(h:vc op x k=some r):∃ z,k z=some r/\z.plain=true/\∀ (w:World) (B:Nat) (lab:aG) (q:List Nat) (u:Value),RV w B lab q x u->∃ t,(Op.unary op u).run P w = .ok t w/\RV w B lab [] z t:=by
 unfold vc at h
 split at h
 ·refine⟨_,h,rfl,fun w B lab q u hu=>?_⟩
  obtain rfl:=hu.qR
  exact⟨_,by simp[Op.unary],.bool _ _⟩
 ·refine⟨_,h,rfl,fun w B lab q u hu=>?_⟩
  obtain rfl:=hu.eE
  exact⟨_,by simp[Op.unary,Op.intArith],.int _ _ _⟩
 ·cases h
theorem V.yc{x:V}(h:x.plain=true):x.av=true:=by cases x <;>first | rfl | cases h
end
end Go.Proofs.YtjldnlbiefpekaaDoor
namespace Go.Proofs.YtjldnlbiefpekaaDoor
open Go.RowKit
set_option linter.unusedVariables false
def fE(P:Program)(t:TypeId):Option Nat:=(P.info? t).map (·.size)
def ve(P:Program)(t:TypeId):Option Bool:=
 match P.underlying t with
 | some (.struct _) | some (.array _ _)=>some true
 | some _=>some false
 | none=>none
def lK(P:Program)(t:TypeId):Option TypeId:=
 match P.underlying t with
 | some (.slice e)=>some e
 | _=>none
def yd(P:Program)(s:TypeId)(f:Nat):Option Field:=
 match P.underlying s with
 | some (.struct fs)=>fs[f]?
 | _=>none
def fF{X:Type}(P:Program)(t:TypeId)(cs:List Lf)(k:A->Option X):Option X:=
 match fE P t with
 | some n=>if cs.length=n then (match ve P t with
  | some true=>k (.agg cs)
  | some false=>(match cs with
   | [y]=>k (.lf y)
   | _=>none)
  | none=>none)else none
 | none=>none
def leaves(key:Nat->List Nat):Nat->List V->List Lf
 | _,[]=>[]
 | j,z :: zs=>(bif z.av then .v z else .own (key j)) :: leaves key (j+1) zs
def eF{X:Type}(P:Program)(σ:S)(t:TypeId)(x:A)(k:A->Option X):Option X:=
 match fE P t with
 | none=>none
 | some n=>match x with
  | .aE r j=>(match σ.m r with
   | some (.blk cs)=>fF P t ((cs.drop j).take n) k
   | _=>none)
  | .dO cs=>fF P t ((cs.take n).map .v) k
  | .ptr (j :: i :: s :: q)=>c7 σ.m q fun y=>(match y with
   | .sl t' (o+2) _ l=>if s=aj t' then (if h:i<l.length then fF P t (leaves (fun j'=>j' :: i :: s :: q) j (((enc t' o l[i]).drop j).take n)) k else none)else none
   | _=>none)
  | _=>none
section
variable {P:Program} {w:World} {w0:Wd} {B N:Nat} {lab:aG} {ρ:Nat->Loc} {σ:S} {a:Act} {X:Type} {r:X} {o:Oper}
theorem EE(key:Nat->List Nat):∀ (j:Nat) (zs:List V) (n:Nat),(leaves key j zs)[n]?=(zs[n]?).map fun z=>bif z.av then .v z else .own (key (j+n))
 | _,[],n=>by simp[leaves]
 | j,z :: zs,0=>by simp[leaves]
 | j,z :: zs,n+1=>by
  simp only[leaves,List.getElem?_cons_succ,EE key (j+1) zs n]
  rw[show j+1+n=j+(n+1) by omega]
theorem EF{t:TypeId}{cs:List Lf}{k:A->Option X}(h:fF P t cs k=some r):∃ x,k x=some r/\∀ (w:World) (B:Nat) (lab:aG) (ρ:Nat->Loc) (b o:Nat) (vs:List Value),bH w B lab ρ cs vs.toArray->w.rangeAt b o vs->
  ∃ v,(Instr.loadAt t (.pointer (some ⟨b,o,none⟩))).run P w = .ok v w/\RA w B lab ρ x v:=by
 unfold fF at h
 split at h
 ·rename_i n hn
  split at h
  ·rename_i hlen
   split at h
   ·rename_i fQ
    refine⟨_,h,fun w B lab ρ b o vs hl hr=>?_⟩
    have lM:vs.length=n:=by have:=hl.1;simpa [hlen]using this
    unfold ve at fQ
    split at fQ
    ·rename_i fs hu
     exact⟨_,run_loadAt_mid w b o t vs _ hr hu rfl (by rw[lM];exact hn),_,rfl,hl⟩
    ·rename_i c e hu
     exact⟨_,run_loadAt_mid w b o t vs _ hr hu rfl (by rw[lM];exact hn),_,rfl,hl⟩
    ·cases fQ
    ·cases fQ
   ·rename_i fQ
    split at h
    ·rename_i y
     refine⟨_,h,fun w B lab ρ b o vs hl hr=>?_⟩
     have lM:vs.length=1:=by have:=hl.1;simpa using this
     obtain⟨v,rfl⟩:=List.length_eq_one_iff.1 lM
     have hv:w.cell? ⟨b,o,none⟩=some v:=hr 0 v rfl
     obtain⟨u,hu,hR⟩:=hl.2 0 y rfl
     have:v=u:=by simpa using hu
     subst this
     refine⟨v,?_,hR⟩
     unfold ve at fQ
     split at fQ
     ·cases fQ
     ·cases fQ
     ·rename_i d hs ha hu
      have ox:(isAgg t).run P w = .ok false w:=by
       unfold isAgg
       rw[Sem.run_bind,run_underlying hu w]
       cases d <;>first | rfl | (rename_i x;exact absurd rfl (hs x)) | (rename_i x y;exact absurd rfl (ha x y)) | simp_all
      simp[Instr.loadAt,Instr.sureAddr,loadVar,Sem.run_bind,ox,load,Sem.run,hv]
     ·cases fQ
    ·cases h
   ·cases h
  ·cases h
 ·cases h
theorem A7{α:Type}(l:List α)(j n i:Nat)(x:α)(h:((l.drop j).take n)[i]?=some x):i<n/\l[j+i]?=some x:=by
 rw[List.getElem?_take]at h
 split at h
 ·rename_i hi;rw[List.getElem?_drop]at h;exact⟨hi,h⟩
 ·cases h
theorem JU{t:TypeId}{x:A}{k:A->Option X}(h:eF P σ t x k=some r):∃ y,k y=some r/\∀ lab ρ a w,Rl w0 N lab ρ σ a w->∀ u,RA w w0.heap.size lab ρ x u->
  ∃ v,(Instr.loadAt t u).run P w = .ok v w/\RA w w0.heap.size lab ρ y v:=by
 unfold eF at h
 split at h
 ·cases h
 ·rename_i n hn
  split at h
  ·rename_i r' j
   split at h
   ·rename_i cs bU
    obtain⟨y,hy,hf⟩:=EF h
    refine⟨y,hy,fun lab ρ a w hR u hu=>?_⟩
    obtain⟨b,off,aq,rfl⟩:=hu
    have hr:=hR.root r' _ bU
    generalize he:au.blk cs=x at hr
    cases hr with
    | sl=>cases he
    | mp=>cases he
    | gh=>cases he
    | blk b' lA cells e cS us dK hl hh hs hc=>
     injection he with he
     subst he
     rw[aq]at dK
     injection dK with e1 e2
     subst e1 e2
     refine hf w _ lab ρ b (off+j) (((cs.drop j).take n).mapIdx fun i _=>us (j+i)) ⟨by simp,fun i x hx=>?_⟩ (fun i v hv=>?_)
     ·obtain⟨hi,bx⟩:=A7 _ _ _ _ _ hx
      refine⟨us (j+i),?_,(hc _ x bx).2⟩
      simp only[List.getElem?_toArray,List.getElem?_mapIdx,hx,Option.map_some]
     ·rw[List.getElem?_mapIdx]at hv
      cases hx:((cs.drop j).take n)[i]? with
      | none=>rw[hx]at hv;cases hv
      | some x=>
       rw[hx]at hv
       injection hv with hv
       subst hv
       obtain⟨hi,bx⟩:=A7 _ _ _ _ _ hx
       rw[cell_of_row w b _ cells _ _ hh,Nat.add_assoc]
       exact(hc _ x bx).1
   ·cases h
  ·rename_i cs
   obtain⟨y,hy,hf⟩:=EF h
   refine⟨y,hy,fun lab ρ a w hR u hu=>?_⟩
   obtain⟨b,off,rfl,U,hl,hc⟩:=hu
   have gA:∀ (i:Nat) (x:Lf),((cs.take n).map Lf.v)[i]?=some x->∃ z v,x = .v z/\z.av=true/\w.cell? ⟨b,off+i,none⟩=some v/\RV w w0.heap.size lab [] z v:=by
    intro i x hx
    rw[List.getElem?_map]at hx
    cases hz:(cs.take n)[i]? with
    | none=>rw[hz]at hx;cases hx
    | some z=>
     rw[hz]at hx
     injection hx with hx
     rw[List.getElem?_take]at hz
     split at hz
     ·obtain⟨bO,v,hv,hr⟩:=hc i z hz
      exact⟨z,v,hx.symm,bO,hv,hr⟩
     ·cases hz
   refine hf w _ lab ρ b off (((cs.take n).map Lf.v).mapIdx fun i _=>(w.cell? ⟨b,off+i,none⟩).getD undef) ⟨by simp,fun i x hx=>?_⟩ (fun i v hv=>?_)
   ·obtain⟨z,v,rfl,bO,hv,hr⟩:=gA i x hx
    refine⟨v,?_,bO,hr⟩
    simp only[List.getElem?_toArray,List.getElem?_mapIdx,hx,Option.map_some,hv,Option.getD_some]
   ·rw[List.getElem?_mapIdx]at hv
    cases hx:((cs.take n).map Lf.v)[i]? with
    | none=>rw[hx]at hv;cases hv
    | some x=>
     rw[hx]at hv
     obtain⟨z,v',rfl,bO,bT,hr⟩:=gA i x hx
     rw[bT]at hv
     injection hv with hv
     rw[bT]
     exact congrArg some hv
  ·rename_i j i s q
   obtain⟨y0,hg,h2⟩:=l6 _ _ h
   clear h
   split at h2
   ·rename_i t' o' qn l
    split at h2
    ·rename_i hs
     subst hs
     split at h2
     ·rename_i hi
      obtain⟨y,hy,hf⟩:=EF h2
      refine⟨y,hy,fun lab ρ a w hR u hu=>?_⟩
      obtain⟨ad,rfl,eS⟩:=hu
      obtain⟨hv,bA,iJ⟩:=hg.ok hR.root
      cases iJ with
      | aY=>simp at hi
      | bn=>simp at hi
      | bF=>simp at hi
      | av _ _ _ _ _ _ _ _ _ ho=>omega
      | own _ _ _ _ _ b cap cs us bI hh hs hn sB hc hr=>
       rw[sw j i (aj t') bA bI]at eS
       injection eS with eS
       subst eS
       have gA:∀ (m:Nat) (x:Lf),(leaves (fun j'=>j' :: i :: aj t' :: q) j (((enc t' o' l[i]).drop j).take n))[m]?=some x->cs[i*aj t'+(j+m)]?=some (us i (j+m))/\bw w w0.heap.size lab ρ x (us i (j+m)):=by
        intro m x hx
        rw[EE]at hx
        cases hz:(((enc t' o' l[i]).drop j).take n)[m]? with
        | none=>rw[hz]at hx;cases hx
        | some z=>
         rw[hz]at hx
         injection hx with hx
         have hx:(bif z.av then Lf.v z else Lf.own ((j+m) :: i :: aj t' :: q))=x:=hx
         obtain⟨_,vf⟩:=A7 _ _ _ _ _ hz
         have h3:=hc i hi _ z vf
         have h4:=hr i hi _ z vf
         refine⟨h3,?_⟩
         cases vg:z.av with
         | true=>
          rw[vg]at hx
          have hx:Lf.v z=x:=hx
          subst hx
          exact⟨vg,h4.key vg⟩
         | false=>
          rw[vg]at hx
          have hx:Lf.own ((j+m) :: i :: aj t' :: q)=x:=hx
          subst hx
          refine⟨?_,?_⟩
          ·exact h4.AZ vg
          ·rw[A3,sw (j+m) i (aj t') bA bI]
           show w.cell? _=_
           rw[cell_of_row w b _ cs _ _ hh]
           exact h3
       refine hf w _ lab ρ b (i*aj t'+j) ((leaves (fun j'=>j' :: i :: aj t' :: q) j (((enc t' o' l[i]).drop j).take n)).mapIdx fun m _=>us i (j+m)) ⟨by simp,fun m x hx=>?_⟩ (fun m v hv=>?_)
       ·refine⟨us i (j+m),?_,(gA m x hx).2⟩
        simp only[List.getElem?_toArray,List.getElem?_mapIdx,hx,Option.map_some]
       ·rw[List.getElem?_mapIdx]at hv
        cases hx:(leaves (fun j'=>j' :: i :: aj t' :: q) j (((enc t' o' l[i]).drop j).take n))[m]? with
        | none=>rw[hx]at hv;cases hv
        | some x=>
         rw[hx]at hv
         injection hv with hv
         subst hv
         rw[cell_of_row w b _ cs _ _ hh,Nat.add_assoc]
         exact(gA m x hx).1
     ·cases h2
    ·cases h2
   ·cases h2
  ·cases h
end
end Go.Proofs.YtjldnlbiefpekaaDoor
namespace Go.Proofs.YtjldnlbiefpekaaDoor
open Go.RowKit
set_option linter.unusedVariables false
def A.qS:A->Option (List Lf)
 | .lf x=>some [x]
 | .agg xs=>some xs
 | _=>none
def Lf.live:Lf->Bool
 | .dead=>false
 | _=>true
def Lf.pl:Lf->Option V
 | .v x=>bif x.plain then some x else none
 | _=>none
def oy:List Lf->Option (List V)
 | []=>some []
 | x :: xs=>match x.pl,oy xs with
  | some y,some ys=>some (y :: ys)
  | _,_=>none
def ju{X:Type}(m:Nat->Option au):List Nat->V->((Nat->Option au)->Option X)->Option X
 | [r],y,k=>match m r with
  | some (.sl _)=>k (aH m r (some (.sl y)))
  | _=>none
 | j :: i :: s :: q,y,k=>c7 m q fun z=>match z with
  | .sl t (o+2) qn l=>if s=aj t then (if h:i<l.length then (if j<aj t then (match dec t o (cL (enc t o l[i]) j [y])with
   | some e=>ju m q (.sl t (o+2) qn (l.set i e)) k
   | none=>none)else none)else none)else none
  | _=>none
 | _,_,_=>none
def iK{X:Type}(P:Program)(σ:S)(t:TypeId)(x y:A)(k:S->Option X):Option X:=
 match fE P t,y.qS with
 | some n,some xs=>if xs.length=n then (match x with
  | .aE r j=>(match σ.m r with
   | some (.blk cs)=>if j+n<=cs.length then (bif xs.all Lf.live then k ⟨σ.t,aH σ.m r (some (.blk (cL cs j xs)))⟩else none)else none
   | _=>none)
  | .ptr (j :: i :: s :: q)=>(match oy xs with
   | none=>none
   | some vs=>c7 σ.m q fun y=>(match y with
    | .sl t' (o+2) qn l=>if s=aj t' then (if h:i<l.length then (if j+vs.length<=aj t' then (bif (((enc t' o l[i]).drop j).take vs.length).all V.plain then (match dec t' o (cL (enc t' o l[i]) j vs)with
     | some e=>ju σ.m q (.sl t' (o+2) qn (l.set i e)) fun m=>k ⟨σ.t,m⟩
     | none=>none)else none)else none)else none)else none
    | _=>none))
  | _=>none)else none
 | _,_=>none
section
variable {P:Program} {w:World} {w0:Wd} {B N:Nat} {lab:aG} {ρ:Nat->Loc} {σ:S} {a:Act} {X:Type} {r:X} {o:Oper}
theorem JV{m:Nat->Option au}:∀ (q:List Nat) (y:V) (k:(Nat->Option au)->Option X),ju m q y k=some r->∃ m',sA m q y m'/\k m'=some r
 | [],_,_,h=>by simp[ju]at h
 | [x],y,k,h=>by
  simp only[ju]at h
  split at h
  ·rename_i y0 hy;exact⟨_,.root x y0 y hy,h⟩
  ·cases h
 | [_,_],_,_,h=>by simp[ju]at h
 | j :: i :: s :: q,y,k,h=>by
  simp only[ju]at h
  obtain⟨z,hz,h2⟩:=l6 q _ h
  clear h
  split at h2
  ·split at h2
   ·rename_i hs
    subst hs
    split at h2
    ·rename_i hi
     split at h2
     ·rename_i hj
      split at h2
      ·rename_i e he
       obtain⟨m',iL,h3⟩:=JV q _ k h2
       exact⟨m',.elem j i q _ _ _ _ y e m' hz hi hj he iL,h3⟩
      ·cases h2
     ·cases h2
    ·cases h2
   ·cases h2
  ·cases h2
theorem EG:∀ (xs:List Lf) (vs:List V),oy xs=some vs->xs=vs.map .v/\∀ v∈vs,v.plain=true
 | [],vs,h=>by
  simp[oy]at h
  subst h
  exact⟨rfl,by simp⟩
 | x :: xs,vs,h=>by
  unfold oy at h
  split at h
  ·rename_i y ys hy iM
   injection h with h
   subst h
   obtain⟨h1,h2⟩:=EG xs ys iM
   have:x = .v y/\y.plain=true:=by
    cases x with
    | v z=>
     unfold Lf.pl at hy
     cases hz:z.plain with
     | true=>
      simp only[hz,cond_true]at hy
      injection hy with hy
      subst hy
      exact⟨rfl,hz⟩
     | false=>simp[hz]at hy
    | own q=>cases hy
    | dead=>cases hy
   refine⟨by rw[this.1,h1];rfl,fun v hv=>?_⟩
   rcases List.mem_cons.1 hv with rfl | hv
   ·exact this.2
   ·exact h2 v hv
  ·cases h
theorem R3{u:Value}(h:u.oneCell'=true):u.cells = #[u]:=by cases u <;>first | rfl | cases h
theorem bw.one{x:Lf}{u:Value}(h:bw w B lab ρ x u)(hd:x.live=true):u.oneCell'=true:=by
 cases x with
 | v z=>exact h.2.one
 | own k=>
  have:=h.1
  cases u <;>first | rfl | cases this
 | dead=>cases hd
theorem ye{y:A}{xs:List Lf}(h:y.qS=some xs)(hd:xs.all Lf.live=true){u:Value}(hu:RA w B lab ρ y u):bH w B lab ρ xs u.cells/\u.cells.all (·.oneCell')=true:=by
 have key:∀ us:Array Value,bH w B lab ρ xs us->us.all (·.oneCell')=true:=by
  intro us hs
  rw[Array.all_eq_true]
  intro i hi
  have hx:=List.getElem?_eq_getElem (l:=xs) (i:=i) (by rw[<-hs.1];exact hi)
  obtain⟨v,hv,hr⟩:=hs.2 i _ hx
  have:us[i]=v:=by rw[Array.getElem?_eq_getElem hi]at hv;injection hv
  rw[this]
  exact hr.one (List.all_eq_true.1 hd _ (List.getElem_mem _))
 cases y with
 | lf x=>
  injection h with h
  subst h
  have hu:bw w B lab ρ x u:=hu
  have h1:=hu.one (by simpa using hd)
  have:bH w B lab ρ [x] u.cells:=by
   rw[R3 h1]
   refine⟨rfl,fun j y hy=>?_⟩
   cases j with
   | zero=>simp at hy;subst hy;exact⟨u,rfl,hu⟩
   | succ j=>simp at hy
  exact⟨this,key _ this⟩
 | agg R4=>
  injection h with h
  subst h
  obtain⟨us,rfl,h⟩:=hu
  exact⟨h,key _ h⟩
 | _=>cases h
theorem EH(w:World)(b o:Nat)(ty:TypeId)(v:Value)(ht:w.there b o v.cells.size)(hi:(P.info? ty).map (·.size)=some v.cells.size)(h1:v.cells.all (·.oneCell')=true):
  (Instr.storeAt ty (.pointer (some ⟨b,o,none⟩)) v).run P w = .ok () (w.setCells b o v.cells.toList):=by
 have:=run_storeCells_cells (P:=P) b o v.cells.toList 0 w (fun j hj=>by simpa using (ht j (by simpa using hj)).1) (fun j hj=>by simpa using (ht j (by simpa using hj)).2)
  (fun v hv=>(Array.all_eq_true_iff_forall_mem.1 h1) v (by simpa using hv))
 cases hq:P.info? ty with
 | none=>simp[hq]at hi
 | some i=>
  have hs:v.cells.size=i.size:=by simp[hq]at hi;omega
  simp only[Nat.add_zero]at this
  simp[Instr.storeAt,Instr.sureAddr,storeVar,sizeOf,typeInfo,hq,hs,this]
theorem JW{t:TypeId}{x y:A}{k:S->Option X}(h:iK P σ t x y k=some r):∃ aa,k aa=some r/\∀ lab ρ a w,Rl w0 N lab ρ σ a w->∀ u v,RA w w0.heap.size lab ρ x u->RA w w0.heap.size lab ρ y v->
  ∃ w',(Instr.storeAt t u v).run P w = .ok () w'/\Rl w0 N lab ρ aa a w':=by
 unfold iK at h
 split at h
 ·rename_i n xs hn dB
  split at h
  ·rename_i hlen
   split at h
   ·rename_i r' j
    split at h
    ·rename_i cs bU
     split at h
     ·rename_i hj
      cases eL:xs.all Lf.live with
      | false=>rw[eL]at h;cases h
      | true=>
       rw[eL]at h
       refine⟨_,h,fun lab ρ a w hR u v hu hv=>?_⟩
       obtain⟨b,off,aq,rfl⟩:=hu
       obtain⟨hl,gB⟩:=ye dB eL hv
       obtain⟨b',lA,dK,yf,aA⟩:=hR.xY bU hl (by rw[hlen];exact hj)
       rw[aq]at dK
       injection dK with e1 e2
       subst e1 e2
       exact⟨_,EH w b (off+j) t v yf (by rw[hl.1,hlen];exact hn) gB,aA⟩
     ·cases h
    ·cases h
   ·rename_i j i s q
    split at h
    ·cases h
    ·rename_i vs cN
     obtain⟨y0,hg,h2⟩:=l6 _ _ h
     clear h
     split at h2
     ·rename_i t' o' qn l
      split at h2
      ·rename_i hs
       subst hs
       split at h2
       ·rename_i hi
        split at h2
        ·rename_i hj
         cases hold:(((enc t' o' l[i]).drop j).take vs.length).all V.plain with
         | false=>rw[hold]at h2;cases h2
         | true=>
          rw[hold,cond_true]at h2
          split at h2
          ·rename_i e he
           obtain⟨m',iL,h3⟩:=JV q _ _ h2
           refine⟨_,h3,fun lab ρ a w hR u v hu hv=>?_⟩
           obtain⟨ad,rfl,eS⟩:=hu
           obtain⟨sC,EI⟩:=EG xs vs cN
           have eL:xs.all Lf.live=true:=by rw[sC];simp[Lf.live]
           obtain⟨hl,gB⟩:=ye dB eL hv
           have lM:vs.length=n:=by rw[<-hlen,sC,List.length_map]
           have q1:∀ (n':Nat) x,n'<vs.length->(enc t' o' l[i])[j+n']?=some x->x.plain=true:=by
            intro n' x va hx
            refine List.all_eq_true.1 hold x (List.mem_of_getElem? (i:=n') ?_)
            rw[List.getElem?_take,if_pos va,List.getElem?_drop]
            exact hx
           have q2:∀ (n':Nat) x,vs[n']?=some x->∃ u',v.cells[n']?=some u'/\RV w w0.heap.size lab [] x u':=by
            intro n' x hx
            obtain⟨u',fZ,bq⟩:=hl.2 n' (.v x) (by rw[sC,List.getElem?_map,hx];rfl)
            exact⟨u',fZ,bq.2⟩
           obtain⟨b,U,yf,aA⟩:=hR.RU (xs:=vs) (us:=v.cells) hg hi hj he q1 EI (by rw[hl.1,sC,List.length_map]) q2 iL
           rw[eS]at U
           injection U with U
           subst U
           exact⟨_,EH w b _ t v yf (by rw[hl.1,hlen];exact hn) gB,aA⟩
          ·cases h2
        ·cases h2
       ·cases h2
      ·cases h2
     ·cases h2
   ·cases h
  ·cases h
 ·cases h
end
end Go.Proofs.YtjldnlbiefpekaaDoor
namespace Go.Proofs.YtjldnlbiefpekaaDoor
open Go.RowKit
set_option linter.unusedVariables false
def l7{X:Type}(P:Program)(s:TypeId)(x:A)(f:Nat)(k:A->Option X):Option X:=
 match yd P s f with
 | none=>none
 | some fd=>match fE P fd.type with
  | some (_+1)=>(match x with
   | .aE r j=>k (.aE r (j+fd.offset))
   | .dO cs=>k (.dO (cs.drop fd.offset))
   | .ptr (j :: i :: s :: q)=>k (.ptr ((j+fd.offset) :: i :: s :: q))
   | _=>none)
  | _=>none
def jv{X:Type}(P:Program)(σ:S)(t:TypeId)(x i:A)(k:A->Option X):Option X:=
 match lK P t with
 | none=>none
 | some e=>match fE P e,i with
  | some n,.lf (.v (.int _ iv))=>(match x with
   | .lf (.v (.sl t' g _ l))=>if n=aj t' then (bif Nat.blt g 2 then (if h:0<=iv/\iv.toNat<l.length then k (.dO (enc t' g (l[iv.toNat]'h.2)))else none)else none)else none
   | .lf (.own q)=>c7 σ.m q fun y=>(match y with
    | .sl t' g _ l=>if n=aj t' then (if h:0<=iv/\iv.toNat<l.length then (bif Nat.blt g 2 then k (.dO (enc t' g (l[iv.toNat]'h.2)))else k (.ptr (0 :: iv.toNat :: aj t' :: q)))else none)else none
    | _=>none)
   | _=>none)
  | _,_=>none
def gY{X:Type}(P:Program)(σ:S)(t:TypeId)(x:A)(k:A->Option X):Option X:=
 match x with
 | .lf y=>dP σ y fun z=>(match z with
  | .sl _ _ _ l=>(match P.underlying t with | some (.slice _)=>k (.lf (.v (.int .i64 (l.length:Int)))) | _=>none)
  | .nil=>(match P.underlying t with | some (.slice _)=>k (.lf (.v (.int .i64 0))) | _=>none)
  | .str s=>(match P.underlying t with | some .string=>k (.lf (.v (.int .i64 (s.size:Int)))) | _=>none)
  | _=>none)
 | .view _ _ i j=>(match P.underlying t with | some (.slice _)=>k (.lf (.v (.int .i64 ((j-i:Nat):Int)))) | _=>none)
 | _=>none
def lN:Bool×List Lf->Option A
 | (true,cs)=>some (.agg cs)
 | (false,[y])=>some (.lf y)
 | _=>none
def sD{X:Type}(x:A)(i:Nat)(k:A->Option X):Option X:=
 match x with
 | .aU xs=>match (xs[i]?).bind lN with
  | some y=>k y
  | none=>none
 | _=>none
section
variable {P:Program} {w:World} {w0:Wd} {B N:Nat} {lab:aG} {ρ:Nat->Loc} {σ:S} {a:Act} {X:Type} {r:X} {o:Oper}
theorem R5(n:Nat){j i s:Nat}{q:List Nat}{ad:Addr}(h:addrAt w lab ρ (j :: i :: s :: q)=some ad):addrAt w lab ρ ((j+n) :: i :: s :: q)=some ⟨ad.block,ad.off+n,none⟩:=by
 match q,h with
 | [],h=>simp[addrAt]at h
 | [r],h=>
  simp only[addrAt]at h ⊢
  split at h
  ·split at h
   ·rename_i hl
    injection h with h
    subst h
    rw[if_pos hl,Nat.add_assoc]
   ·cases h
  ·cases h
 | x :: y :: q,h=>
  simp only[addrAt]at h ⊢
  split at h
  ·split at h
   ·rename_i hl
    injection h with h
    subst h
    rw[if_pos hl,Nat.add_assoc]
   ·cases h
  ·cases h
theorem EJ(w:World)(s:TypeId)(f:Nat)(fd:Field)(n:Nat)(b off:Nat)(hf:yd P s f=some fd)(hs:fE P fd.type=some (n+1)):
  (Instr.fieldAt s (.pointer (some ⟨b,off,none⟩)) f).run P w = .ok (.pointer (some ⟨b,off+fd.offset,none⟩)) w:=by
 unfold yd at hf
 split at hf
 ·rename_i fs hu
  unfold fE at hs
  cases hq:P.info? fd.type with
  | none=>simp[hq]at hs
  | some i=>
   have hi:i.size=n+1:=by simpa [hq]using hs
   simp[Instr.fieldAt,run_underlying hu,hf,Instr.sureAddr,fieldPlace,sizeOf,typeInfo,hq,hi,Addr.add_mid]
 ·cases hf
theorem R6{s:TypeId}{x:A}{f:Nat}{k:A->Option X}(h:l7 P s x f k=some r):∃ y,k y=some r/\∀ (w:World) (B:Nat) (lab:aG) (ρ:Nat->Loc) (u:Value),RA w B lab ρ x u->
  ∃ v,(Instr.fieldAt s u f).run P w = .ok v w/\RA w B lab ρ y v:=by
 unfold l7 at h
 split at h
 ·cases h
 ·rename_i fd jw
  split at h
  ·rename_i n hn
   split at h
   ·rename_i r' j
    refine⟨_,h,fun w B lab ρ u hu=>?_⟩
    obtain⟨b,off,aq,rfl⟩:=hu
    exact⟨_,EJ w s f fd n b _ jw hn,b,off,aq,by rw[Nat.add_assoc]⟩
   ·rename_i cs
    refine⟨_,h,fun w B lab ρ u hu=>?_⟩
    obtain⟨b,off,rfl,U,hl,hc⟩:=hu
    refine⟨_,EJ w s f fd n b _ jw hn,b,_,rfl,U,hl,fun j x hx=>?_⟩
    rw[List.getElem?_drop]at hx
    have:=hc _ x hx
    rw[<-Nat.add_assoc]at this
    exact this
   ·rename_i j i s' q
    refine⟨_,h,fun w B lab ρ u hu=>?_⟩
    obtain⟨ad,rfl,eS⟩:=hu
    have h2:=R5 fd.offset eS
    obtain⟨_,_,_,_,_,_,_,gy,_⟩:=qP _ _ eS
    obtain⟨b,off,sp⟩:=ad
    simp only at gy
    subst gy
    exact⟨_,EJ w s f fd n b off jw hn,_,rfl,h2⟩
   ·cases h
  ·cases h
theorem EK(w:World)(t e:TypeId)(n b off len cap:Nat)(kk:IntKind)(iv:Int)(hu:lK P t=some e)(hs:fE P e=some n)(h0:0<=iv)(h1:iv.toNat<len):
  (Instr.indexAt t (.slice (some ⟨b,off,none⟩) len cap) (.int kk iv)).run P w = .ok (.pointer (some ⟨b,off+iv.toNat*n,none⟩)) w:=by
 unfold lK at hu
 split at hu
 ·rename_i e' fZ
  injection hu with hu
  subst hu
  unfold fE at hs
  cases hq:P.info? e' with
  | none=>simp[hq]at hs
  | some i=>
   have hi:i.size=n:=by simpa [hq]using hs
   have h2:iv<(len:Int):=by omega
   simp[Instr.indexAt,run_underlying fZ,asIntOf,h0,h2,sizeOf,typeInfo,hq,hi,Addr.add_mid]
 ·cases hu
theorem R7{t:TypeId}{x i:A}{k:A->Option X}(h:jv P σ t x i k=some r):∃ y,k y=some r/\∀ lab ρ a w,Rl w0 N lab ρ σ a w->∀ u v,RA w w0.heap.size lab ρ x u->RA w w0.heap.size lab ρ i v->
  ∃ p,(Instr.indexAt t u v).run P w = .ok p w/\RA w w0.heap.size lab ρ y p:=by
 unfold jv at h
 split at h
 ·cases h
 ·rename_i e he
  split at h
  ·rename_i n kk iv hn
   split at h
   ·rename_i t' g qn l
    split at h
    ·rename_i gQ
     subst gQ
     cases hg:Nat.blt g 2 with
     | false=>rw[hg]at h;cases h
     | true=>
      rw[hg,cond_true]at h
      split at h
      ·rename_i U
       refine⟨_,h,fun lab ρ a w hR u v hu hv=>?_⟩
       obtain rfl:=hv.2.eE
       have JX:g<2:=by have:=Nat.le_of_ble_eq_true hg;omega
       cases hu.2 with
       | aY=>simp at U
       | bn=>simp at U
       | bF=>simp at U
       | own=>exact absurd JX (by omega)
       | av _ _ _ _ _ b off cap us ho hl EL h1 hcap hc hr=>
        refine⟨_,EK w t e _ b off _ cap kk iv he hn U.1 U.2,b,_,rfl,EL,hl,fun j x hx=>⟨fP t' g _ JX j x hx,us iv.toNat j,?_,hr _ U.2 j x hx⟩⟩
        rw[Nat.add_assoc]
        exact hc _ U.2 j x hx
      ·cases h
    ·cases h
   ·rename_i q
    obtain⟨y0,hg,h2⟩:=l6 _ _ h
    clear h
    split at h2
    ·rename_i t' o' qn l
     split at h2
     ·rename_i gQ
      subst gQ
      split at h2
      ·rename_i U
       cases ni:Nat.blt o' 2 with
       | true=>
        rw[ni,cond_true]at h2
        have EM:o'<2:=Nat.le_of_ble_eq_true ni
        refine⟨_,h2,fun lab ρ a w hR u v hu hv=>?_⟩
        obtain rfl:=hv.2.eE
        obtain⟨bT,bA,iJ⟩:=hg.ok hR.root
        have:bT=u:=by
         have h3:=hu.2
         rw[bA]at h3
         injection h3
        subst this
        cases iJ with
        | aY=>simp at U
        | bn=>simp at U
        | bF=>simp at U
        | own=>exact absurd EM (by omega)
        | av _ _ _ _ _ b off cap us ho hl EL h1 hcap hc hr=>
         refine⟨_,EK w t e _ b off _ cap kk iv he hn U.1 U.2,b,_,rfl,EL,hl,fun j x hx=>⟨fP t' o' _ EM j x hx,us iv.toNat j,?_,hr _ U.2 j x hx⟩⟩
         rw[Nat.add_assoc]
         exact hc _ U.2 j x hx
       | false=>
        rw[ni,cond_false]at h2
        have EM:¬ o'<2:=fun aV=>by have h9:Nat.blt o' 2=true:=Nat.ble_eq_true_of_le aV;rw[h9]at ni;cases ni
        refine⟨_,h2,fun lab ρ a w hR u v hu hv=>?_⟩
        obtain rfl:=hv.2.eE
        obtain⟨bT,bA,iJ⟩:=hg.ok hR.root
        have:bT=u:=by
         have h3:=hu.2
         rw[bA]at h3
         injection h3
        subst this
        cases iJ with
        | aY=>simp at U
        | bn=>simp at U
        | bF=>simp at U
        | av _ _ _ _ _ _ _ _ _ ho=>omega
        | own _ _ _ _ _ b cap cs us bI hh hs va sB hc hr=>
         refine⟨_,EK w t e _ b 0 _ cap kk iv he hn U.1 U.2,_,rfl,?_⟩
         rw[sw 0 iv.toNat (aj t') bA bI]
         simp
      ·cases h2
     ·cases h2
    ·cases h2
   ·cases h
  ·cases h
theorem R8{t ty:TypeId}{x:A}{k:A->Option X}(h:gY P σ t x k=some r):∃ y,k y=some r/\∀ lab ρ a w,Rl w0 N lab ρ σ a w->∀ u,RA w w0.heap.size lab ρ x u->
  ∃ v,(Builtin.len_ #[t] ty #[u]).run P w = .ok v w/\RA w w0.heap.size lab ρ y v:=by
 unfold gY at h
 split at h
 ·rename_i y
  have key:∃ z,(∀ lab ρ a w,Rl w0 N lab ρ σ a w->∀ u,bw w w0.heap.size lab ρ y u->∃ q,RV w w0.heap.size lab q z u)/\(match z with
    | .sl _ _ _ l=>(match P.underlying t with | some (.slice _)=>k (.lf (.v (.int .i64 (l.length:Int)))) | _=>none)
    | .nil=>(match P.underlying t with | some (.slice _)=>k (.lf (.v (.int .i64 0))) | _=>none)
    | .str s=>(match P.underlying t with | some .string=>k (.lf (.v (.int .i64 (s.size:Int)))) | _=>none)
    | _=>none)=some r:=by
   cases y with
   | v z=>exact⟨z,fun lab ρ a w _ u hu=>⟨[],hu.2⟩,h⟩
   | dead=>cases h
   | own q=>
    obtain⟨z,hz,h⟩:=l6 q _ h
    refine⟨z,fun lab ρ a w hR u hu=>?_,h⟩
    obtain⟨v,hv,hr⟩:=hz.ok hR.root
    have h3:=hu.2
    rw[hv]at h3
    injection h3 with h3
    subst h3
    exact⟨q,hr⟩
  obtain⟨z,hz,h2⟩:=key
  clear h
  split at h2
  ·rename_i t' g qn l
   split at h2
   ·rename_i e he
    refine⟨_,h2,fun lab ρ a w hR u hu=>?_⟩
    obtain⟨q,hr⟩:=hz lab ρ a w hR u hu
    cases hr with
    | aY=>exact⟨_,by simp[Builtin.len_,run_underlying he,goInt],rfl,.int _ _ _⟩
    | bn=>exact⟨_,by simp[Builtin.len_,run_underlying he,goInt],rfl,.int _ _ _⟩
    | bF=>exact⟨_,by simp[Builtin.len_,run_underlying he,goInt],rfl,.int _ _ _⟩
    | av=>exact⟨_,by simp[Builtin.len_,run_underlying he,goInt],rfl,.int _ _ _⟩
    | own=>exact⟨_,by simp[Builtin.len_,run_underlying he,goInt],rfl,.int _ _ _⟩
   ·cases h2
  ·split at h2
   ·rename_i e he
    refine⟨_,h2,fun lab ρ a w hR u hu=>?_⟩
    obtain⟨q,hr⟩:=hz lab ρ a w hR u hu
    cases hr
    exact⟨_,by simp[Builtin.len_,run_underlying he,goInt],rfl,.int _ _ _⟩
   ·cases h2
  ·split at h2
   ·rename_i he
    refine⟨_,h2,fun lab ρ a w hR u hu=>?_⟩
    obtain⟨q,hr⟩:=hz lab ρ a w hR u hu
    obtain rfl:=hr.jU
    exact⟨_,by simp[Builtin.len_,run_underlying he,goInt],rfl,.int _ _ _⟩
   ·cases h2
  ·cases h2
 ·split at h
  ·rename_i e he
   refine⟨_,h,fun lab ρ a w hR u hu=>?_⟩
   obtain⟨A,n,c,hv,h1,h2,rfl⟩:=hu
   exact⟨_,by cases A <;>simp[sliced,Builtin.len_,run_underlying he,goInt],rfl,.int _ _ _⟩
  ·cases h
 ·cases h
theorem EN{p:Bool×List Lf}{y:A}(h:lN p=some y){u:Value}(hu:RP w B lab ρ p u):RA w B lab ρ y u:=by
 unfold lN at h
 split at h
 ·injection h with h
  subst h
  exact hu
 ·rename_i z
  injection h with h
  subst h
  obtain⟨u',fZ,hr⟩:=hu.2 0 z rfl
  have:u=u':=by simpa using fZ
  subst this
  exact hr
 ·cases h
theorem R9{x:A}{i:Nat}{k:A->Option X}(h:sD x i k=some r):∃ y,k y=some r/\∀ (w:World) (B:Nat) (lab:aG) (ρ:Nat->Loc) (u:Value),RA w B lab ρ x u->
  ∃ v,(Instr.extract u i).run P w = .ok v w/\RA w B lab ρ y v:=by
 unfold sD at h
 split at h
 ·rename_i xs
  split at h
  ·rename_i y hy
   refine⟨y,h,fun w B lab ρ u hu=>?_⟩
   obtain⟨us,rfl,hs,hp⟩:=hu
   cases hx:xs[i]? with
   | none=>rw[hx]at hy;cases hy
   | some p=>
    rw[hx]at hy
    obtain⟨v,hv,hr⟩:=hp i p hx
    exact⟨v,by simp[Instr.extract,hv],EN hy hr⟩
  ·cases h
 ·cases h
end
end Go.Proofs.YtjldnlbiefpekaaDoor
namespace Go.Proofs.YtjldnlbiefpekaaDoor
open Go.RowKit
set_option linter.unusedVariables false
section
variable {P:Program} {w w':World} {w0:Wd} {B N:Nat} {lab af:aG} {ρ ρ':Nat->Loc} {σ:S} {a:Act} {X:Type} {d:Nat}
theorem Sa{k:List Nat}(h:[d] <:+ k):aD d k=true:=by
 obtain⟨y,rfl⟩:=h
 simp[aD]
theorem EO{k:List Nat}(h:aD d k=true):[d] <:+ k:=by
 have h:k.getLast?=some d:=by simpa [aD]using h
 obtain⟨y,hy⟩:=List.getLast?_eq_some_iff.1 h
 exact⟨y,hy.symm⟩
theorem A8{j i s:Nat}{q:List Nat}(hq:q≠[]):aD d (j :: i :: s :: q)=aD d q:=by
 cases q with
 | nil=>exact absurd rfl hq
 | cons x q=>simp[aD]
structure oz (w w':World) (lab af:aG) (d:Nat):Prop where
 size:w.heap.size<=w'.heap.size
 block:∀ b,b<w.heap.size->lab b≠some [d]->w'.heap[b]?=w.heap[b]?
 oA:∀ b,b<w.heap.size->af b=lab b
 ne:∀ b,lab b≠some []
theorem RV.gC{q:List Nat}{x:V}{v:Value}(h:RV w B lab q x v)(hw:oz w w' lab af d)(hq:¬ [d] <:+ q\/x.av=true):RV w' B af q x v:=by
 induction h with
 | int=>exact .int _ _ _
 | bool=>exact .bool _ _
 | str=>exact .str _ _
 | nil=>exact .nil _
 | aY=>exact .aY _ _ _
 | bn=>exact .bn _ _ _ _ _ (by first | assumption | omega)
 | bF=>exact .bF _ _ _ _ _ (by first | assumption | omega)
 | av q t o qn l b off cap u ho hl U h1 hcap hc hr ih=>
  have az:lab b≠some [d]:=by rw[hl];simp
  exact .av _ _ _ _ _ _ _ _ u ho ((hw.oA b U).trans hl) (Nat.lt_of_lt_of_le U hw.size) h1 hcap (fun i h j x hx=>(World.cell?_of_block (a:=⟨b,_,none⟩) (hw.block b U az)).trans (hc i h j x hx)) (fun i h j x hx=>ih i h j x hx (.inr (fP t o l[i] ho j x hx)))
 | own q t o qn l b cap cs u hl hh hs hn hm hc hr ih=>
  have U:b<w.heap.size:=(Array.getElem?_eq_some_iff.1 hh).1
  have gx:¬ [d] <:+ q:=by
   rcases hq with hq | hq
   ·exact hq
   ·simp[V.av]at hq;omega
  have az:lab b≠some [d]:=by
   rw[hl]
   intro e
   injection e with e
   exact gx (by rw[e];exact List.suffix_refl _)
  refine .own _ _ _ _ _ _ _ cs u ((hw.oA b U).trans hl) ((hw.block b U az).trans hh) hs hn hm hc (fun i h j x hx=>ih i h j x hx (.inl fun iI=>gx ?_))
  have Sb:q≠[]:=by rintro rfl;exact hw.ne b hl
  exact EO ((A8 Sb).symm.trans (Sa iI))
theorem Sc{j i s:Nat}{q:List Nat}(hq:q≠[])(h:aD d (j :: i :: s :: q)=false):aD d q=false:=by
 cases q with
 | nil=>exact absurd rfl hq
 | cons x q=>simpa [aD]using h
theorem EP(hw:oz w w' lab af d)(hg:∀ b k,lab b=some k->b<w.heap.size)(aq:∀ r,r≠d->ρ' r=ρ r):∀ (k:List Nat) (ad:Addr),aD d k=false->addrAt w lab ρ k=some ad->addrAt w' af ρ' k=some ad
 | [],_,_,h=>h
 | [_],_,_,h=>h
 | [_,_],_,_,h=>h
 | [_,_,_],_,_,h=>by simp only[addrAt]at h ⊢;exact h
 | [j,i,s,r],_,hd,h=>by
  have hr:r≠d:=by rintro rfl;simp[aD]at hd
  simp only[addrAt,aq r hr]at h ⊢
  split at h
  ·rename_i v b n c hr
   split at h
   ·rename_i hl
    rw[if_pos ((hw.oA _ (hg _ _ hl)).trans hl)]
    exact h
   ·cases h
  ·cases h
 | j :: i :: s :: x :: y :: q,ad,hd,h=>by
  have kK:=Sc (by simp) hd
  simp only[addrAt]at h ⊢
  cases ha:addrAt w lab ρ (x :: y :: q)with
  | none=>rw[ha]at h;cases h
  | some js=>
   rw[EP hw hg aq _ _ kK ha]
   rw[ha]at h
   cases hc:w.cell? js with
   | none=>simp[hc]at h
   | some v=>
    have az:lab js.block≠some [d]:=by
     obtain⟨j',i',s',q',e,hl,_⟩:=qP _ _ ha
     rw[hl]
     intro e'
     injection e' with e'
     subst e'
     rw[e]at kK
     simp[aD]at kK
    have e:w'.cell? js=some v:=(World.cell?_of_block (hw.block _ (block_lt_of_cell hc) az)).trans hc
    simp only[Option.bind_some,hc]at h
    simp only[Option.bind_some,e]
    split at h
    ·split at h
     ·rename_i hl
      rw[if_pos ((hw.oA _ (hg _ _ hl)).trans hl)]
      exact h
     ·cases h
    ·cases h
theorem JY(hw:oz w w' lab af d)(hg:∀ b k,lab b=some k->b<w.heap.size)(aq:∀ r,r≠d->ρ' r=ρ r)(k:List Nat)(u:Value)(hd:aD d k=false)(h:aP w lab ρ k=some u):aP w' af ρ' k=some u:=by
 match k,hd,h with
 | [],_,h=>simp[aP,addrAt]at h
 | [r],hd,h=>
  have hr:r≠d:=by rintro rfl;simp[aD]at hd
  simp only[aP,aq r hr]at h ⊢
  exact h
 | x :: y :: q,hd,h=>
  simp only[aP]at h ⊢
  cases ha:addrAt w lab ρ (x :: y :: q)with
  | none=>rw[ha]at h;cases h
  | some ad=>
   rw[EP hw hg aq _ _ hd ha]
   rw[ha]at h
   have h:w.cell? ad=some u:=h
   have az:lab ad.block≠some [d]:=by
    obtain⟨j',i',s',q',e,hl,_⟩:=qP _ _ ha
    rw[hl]
    intro e'
    injection e' with e'
    subst e'
    rw[e]at hd
    simp[aD]at hd
   exact(World.cell?_of_block (hw.block _ (block_lt_of_cell h) az)).trans h
theorem bw.gC{x:Lf}{u:Value}(h:bw w B lab ρ x u)(hw:oz w w' lab af d)(hg:∀ b k,lab b=some k->b<w.heap.size)(aq:∀ r,r≠d->ρ' r=ρ r):bw w' B af ρ' (x.drop d) u:=by
 cases x with
 | v x=>exact⟨h.1,h.2.gC hw (.inr h.1)⟩
 | dead=>trivial
 | own k=>
  have e:Lf.drop d (.own k)=(bif aD d k then .dead else .own k):=rfl
  rw[e]
  cases hl:aD d k with
  | true=>trivial
  | false=>exact⟨h.1,JY hw hg aq k u hl h.2⟩
theorem bH.gC{cs:List Lf}{us:Array Value}(h:bH w B lab ρ cs us)(hw:oz w w' lab af d)(hg:∀ b k,lab b=some k->b<w.heap.size)(aq:∀ r,r≠d->ρ' r=ρ r):bH w' B af ρ' (cs.map (Lf.drop d)) us:=by
 refine⟨by rw[List.length_map];exact h.1,fun j x hx=>?_⟩
 rw[List.getElem?_map]at hx
 cases hy:cs[j]? with
 | none=>rw[hy]at hx;cases hx
 | some y=>
  rw[hy]at hx
  injection hx with hx
  subst hx
  obtain⟨u,hu,r⟩:=h.2 j y hy
  exact⟨u,hu,r.gC hw hg aq⟩
theorem RP.gC{p:Bool×List Lf}{u:Value}(h:RP w B lab ρ p u)(hw:oz w w' lab af d)(hg:∀ b k,lab b=some k->b<w.heap.size)(aq:∀ r,r≠d->ρ' r=ρ r):RP w' B af ρ' (p.1,p.2.map (Lf.drop d)) u:=by
 obtain⟨b,cs⟩:=p
 cases b with
 | true=>obtain⟨us,e,h⟩:=h;exact⟨us,e,h.gC hw hg aq⟩
 | false=>exact bH.gC h hw hg aq
theorem RA.gC{x:A}{u:Value}(h:RA w B lab ρ x u)(hw:oz w w' lab af d)(hg:∀ b k,lab b=some k->b<w.heap.size)(aq:∀ r,r≠d->ρ' r=ρ r):RA w' B af ρ' (x.drop d) u:=by
 cases x with
 | undef=>trivial
 | skip=>exact h
 | lf x=>exact bw.gC h hw hg aq
 | agg cs=>exact RP.gC (p:=(true,cs)) h hw hg aq
 | aU xs=>
  obtain⟨us,e,hs,h⟩:=h
  refine⟨us,e,by rw[List.length_map];exact hs,fun j p hp=>?_⟩
  rw[List.getElem?_map]at hp
  cases hy:xs[j]? with
  | none=>rw[hy]at hp;cases hp
  | some y=>
   rw[hy]at hp
   injection hp with hp
   subst hp
   obtain⟨v,hv,r⟩:=h j y hy
   exact⟨v,hv,r.gC hw hg aq⟩
 | ptr k=>
  have e:A.drop d (.ptr k)=(bif aD d k then .undef else .ptr k):=rfl
  rw[e]
  cases hl:aD d k with
  | true=>trivial
  | false=>obtain⟨ad,e,h⟩:=h;exact⟨ad,e,EP hw hg aq k _ hl h⟩
 | view k s i j=>
  have e:A.drop d (.view k s i j)=(bif aD d k then .undef else .view k s i j):=rfl
  rw[e]
  cases hl:aD d k with
  | true=>trivial
  | false=>obtain⟨A,n,c,h,g⟩:=h;exact⟨A,n,c,JY hw hg aq k _ hl h,g⟩
 | pk r n=>
  have e:A.drop d (.pk r n)=(bif Nat.beq r d then .undef else .pk r n):=rfl
  rw[e]
  cases hl:Nat.beq r d with
  | true=>trivial
  | false=>
   have hr:r≠d:=by rintro rfl;simp at hl
   obtain⟨b,e,h⟩:=h
   exact⟨b,(aq r hr).trans e,h⟩
 | aE r j=>
  have e:A.drop d (.aE r j)=(bif Nat.beq r d then .undef else .aE r j):=rfl
  rw[e]
  cases hl:Nat.beq r d with
  | true=>trivial
  | false=>
   have hr:r≠d:=by rintro rfl;simp at hl
   obtain⟨b,off,e,h⟩:=h
   exact⟨b,off,(aq r hr).trans e,h⟩
 | dO cs=>
  obtain⟨b,off,e,U,hl,h⟩:=h
  have az:lab b≠some [d]:=by rw[hl];simp
  refine⟨b,off,e,Nat.lt_of_lt_of_le U hw.size,(hw.oA b U).trans hl,fun j x hx=>?_⟩
  obtain⟨hf,v,hv,hr⟩:=h j x hx
  exact⟨hf,v,(World.cell?_of_block (a:=⟨b,_,none⟩) (hw.block b U az)).trans hv,hr.gC hw (.inr hf)⟩
 | gU f cs=>
  obtain⟨pv,e0,h⟩:=h
  refine⟨pv,e0,?_⟩
  obtain⟨b,off,e,U,hl,h⟩:=h
  have az:lab b≠some [d]:=by rw[hl];simp
  refine⟨b,off,e,Nat.lt_of_lt_of_le U hw.size,(hw.oA b U).trans hl,fun j x hx=>?_⟩
  obtain⟨hf,v,hv,hr⟩:=h j x hx
  exact⟨hf,v,(World.cell?_of_block (a:=⟨b,_,none⟩) (hw.block b U az)).trans hv,hr.gC hw (.inr hf)⟩
 | fn f cap=>
  have e:A.drop d (.fn f cap)=(bif cap.any (fun p=>Nat.beq p.1 d)then .undef else .fn f cap):=rfl
  rw[e]
  cases hl:cap.any (fun p=>Nat.beq p.1 d)with
  | true=>trivial
  | false=>
   obtain⟨vs,e,hs,h⟩:=h
   refine⟨vs,e,hs,fun j p hp=>?_⟩
   obtain⟨b,off,e2,h2⟩:=h j p hp
   have hr:p.1≠d:=by
    rintro rfl
    have:=List.any_eq_false.1 hl p (List.mem_of_getElem? hp)
    simp at this
   exact⟨b,off,(aq _ hr).trans e2,h2⟩
theorem bP.gC{r:Nat}(hr:r≠d){x:au}(h:bP w B lab ρ r x)(hw:oz w w' lab af d)(hg:∀ b k,lab b=some k->b<w.heap.size)(aq:∀ r,r≠d->ρ' r=ρ r):bP w' B af ρ' r (x.drop d):=by
 have l8:¬ [d] <:+ [r]:=Ez (fun e=>hr e.symm)
 cases h with
 | blk b off cells e cs us dA hl hh hs hc=>
  have U:b<w.heap.size:=(Array.getElem?_eq_some_iff.1 hh).1
  have az:lab b≠some [d]:=by
   rw[hl]
   intro e
   injection e with e
   injection e with e
   exact hr e
  refine .blk b off cells e _ us ((aq r hr).trans dA) ((hw.oA b U).trans hl) ((hw.block b U az).trans hh) (by rw[List.length_map];exact hs) (fun j x hx=>?_)
  rw[List.getElem?_map]at hx
  cases hy:cs[j]? with
  | none=>rw[hy]at hx;cases hx
  | some y=>
   rw[hy]at hx
   injection hx with hx
   subst hx
   exact⟨(hc j y hy).1,(hc j y hy).2.gC hw hg aq⟩
 | sl v y dA xX=>exact .sl v y ((aq r hr).trans dA) (xX.gC hw (.inl l8))
 | mp b c es l dA hl hh he=>
  have U:b<w.heap.size:=(Array.getElem?_eq_some_iff.1 hh).1
  have az:lab b≠some [d]:=by
   rw[hl]
   intro e
   injection e with e
   injection e with e
   exact hr e
  exact .mp b c es l ((aq r hr).trans dA) ((hw.oA b U).trans hl) ((hw.block b U az).trans hh) he
 | gh us xs dA hx=>
  refine .gh us _ ((aq r hr).trans dA) (fun j x hj=>?_)
  rw[List.getElem?_map]at hj
  cases hy:xs[j]? with
  | none=>rw[hy]at hj;cases hj
  | some y=>
   rw[hy]at hj
   injection hj with hj
   subst hj
   exact(hx j y hy).gC hw hg aq
theorem Rl.oB{x:au}(h:Rl w0 N lab ρ σ a w)(hF:w0.F d=none)(U:eD w0 w w')(hw:oz w w' lab af d)(hg:∀ b k,w.heap.size<=b->af b=some k->b<w'.heap.size/\k≠[])(aq:∀ r,r≠d->ρ' r=ρ r)(hx:bP w' w0.heap.size af ρ' d x):
  Rl w0 N af ρ' ((σ.drop d).root d x) a w':=by
 have ow:∀ b k,lab b=some k->b<w.heap.size:=fun b k U=>(h.bf b k U).2.1
 refine⟨h.below.trans U,fun b k hbk=>?_,fun r y hy=>?_,fun k=>(h.tmp k).gC hw ow aq,h.size,h.defers,fun r l' hr=>(aq r (by rintro rfl;rw[hF]at hr;cases hr)).trans (h.fix r l' hr),h.cB⟩
 ·rcases Nat.lt_or_ge b w.heap.size with aV | jt
  ·rw[hw.oA b aV]at hbk
   have:=h.bf b k hbk
   exact⟨this.1,Nat.lt_of_lt_of_le this.2.1 hw.size,this.2.2⟩
  ·have:=hg b k jt hbk
   exact⟨.inl (Nat.le_trans h.below.size jt),this.1,this.2⟩
 ·by_cases hr:r=d
  ·subst hr
   have hy:(aH (σ.drop r).m r (some x)) r=some y:=hy
   rw[aJ]at hy
   injection hy with hy
   subst hy
   exact hx
  ·have hy:(aH (σ.drop d).m d (some x)) r=some y:=hy
   rw[aQ _ _ _ hr]at hy
   have U:Nat.beq r d=false:=by
    cases U:Nat.beq r d with
    | false=>rfl
    | true=>exact absurd (Nat.eq_of_beq_eq_true U) hr
   simp only[S.drop,U,cond_false]at hy
   cases hm:σ.m r with
   | none=>rw[hm]at hy;cases hy
   | some z=>
    rw[hm]at hy
    injection hy with hy
    subst hy
    exact(h.root r z hm).gC hr hw ow aq
end
end Go.Proofs.YtjldnlbiefpekaaDoor
namespace Go.Proofs.YtjldnlbiefpekaaDoor
open Go.RowKit
set_option linter.unusedVariables false
def dQ(q:Nat)(nk k:List Nat):List Nat:=bif aD q k then k.dropLast++nk else k
def aG.dQ(lab:aG)(q:Nat)(nk:List Nat):aG:=fun b=>(lab b).map (Proofs.YtjldnlbiefpekaaDoor.dQ q nk)
section
variable {P:Program} {w w':World} {w0:Wd} {B N:Nat} {lab af:aG} {ρ ρ':Nat->Loc} {σ:S} {a:Act} {X:Type} {d q:Nat} {nk:List Nat}
theorem JZ:dQ q nk [q]=nk:=by simp[dQ,aD]
theorem Sd{k:List Nat}(h:aD q k=false):dQ q nk k=k:=by simp[dQ,h]
theorem Se{j i s:Nat}{k:List Nat}(hk:k≠[]):dQ q nk (j :: i :: s :: k)=j :: i :: s :: dQ q nk k:=by
 unfold dQ
 rw[A8 hk]
 cases aD q k with
 | false=>rfl
 | true=>
  cases k with
  | nil=>exact absurd rfl hk
  | cons x k=>simp
theorem J0{k:List Nat}(hn:nk≠[])(hk:k≠[]):dQ q nk k≠[]:=by
 unfold dQ
 cases aD q k with
 | false=>simpa using hk
 | true=>simp[hn]
theorem aG.ER{b:Nat}(h:lab b=none):lab.dQ q nk b=none:=by simp[aG.dQ,h]
theorem aG.J1{b:Nat}{k:List Nat}(h:lab b=some k):lab.dQ q nk b=some (Proofs.YtjldnlbiefpekaaDoor.dQ q nk k):=by simp[aG.dQ,h]
theorem aG.J2{b:Nat}{k:List Nat}(h:lab b=some k)(hk:aD q k=false):lab.dQ q nk b=some k:=by rw[aG.J1 h,Sd hk]
theorem RV.dQ{k:List Nat}{x:V}{v:Value}(h:RV w B lab k x v)(az:∀ b,lab b≠some []):RV w B (lab.dQ q nk) (Proofs.YtjldnlbiefpekaaDoor.dQ q nk k) x v:=by
 induction h with
 | int=>exact .int _ _ _
 | bool=>exact .bool _ _
 | str=>exact .str _ _
 | nil=>exact .nil _
 | aY=>exact .aY _ _ _
 | bn=>exact .bn _ _ _ _ _ (by first | assumption | omega)
 | bF=>exact .bF _ _ _ _ _ (by first | assumption | omega)
 | av k t o qn l b off cap u ho hl U h1 hcap hc hr ih=>
  exact .av _ _ _ _ _ _ _ _ u ho (aG.ER hl) U h1 hcap hc (fun i h j x hx=>ih i h j x hx)
 | own k t o qn l b cap cs u hl hh hs hn hm hc hr ih=>
  have hk:k≠[]:=by rintro rfl;exact az b hl
  refine .own _ _ _ _ _ _ _ cs u (aG.J1 hl) hh hs hn hm hc (fun i h j x hx=>?_)
  have:=ih i h j x hx
  rw[Se hk]at this
  exact this
structure Rel (q:Nat) (lab af:aG):Prop where
 ne:∀ b,lab b≠some []
 none:∀ b,lab b=none->af b=Option.none
 cZ:∀ b k,lab b=some k->aD q k=false->af b=some k
theorem yg(az:∀ b,lab b≠some []):Rel q lab (lab.dQ q nk):=⟨az,fun _ h=>aG.ER h,fun _ _ h hk=>aG.J2 h hk⟩
theorem RV.rel(aW:Rel q lab af){k:List Nat}{x:V}{v:Value}(h:RV w B lab k x v)(hk:aD q k=false\/x.av=true):RV w B af k x v:=by
 induction h with
 | int=>exact .int _ _ _
 | bool=>exact .bool _ _
 | str=>exact .str _ _
 | nil=>exact .nil _
 | aY=>exact .aY _ _ _
 | bn=>exact .bn _ _ _ _ _ (by first | assumption | omega)
 | bF=>exact .bF _ _ _ _ _ (by first | assumption | omega)
 | av k t o qn l b off cap u ho hl U h1 hcap hc hr ih=>
  exact .av _ _ _ _ _ _ _ _ u ho (aW.none _ hl) U h1 hcap hc (fun i h j x hx=>ih i h j x hx (.inr (fP t o l[i] ho j x hx)))
 | own k t o qn l b cap cs u hl hh hs hn hm hc hr ih=>
  have b8:aD q k=false:=by
   rcases hk with hk | hk
   ·exact hk
   ·simp[V.av]at hk;omega
  refine .own _ _ _ _ _ _ _ cs u (aW.cZ _ _ hl b8) hh hs hn hm hc (fun i h j x hx=>ih i h j x hx ?_)
  cases k with
  | nil=>exact absurd hl (aW.ne b)
  | cons z k=>exact .inl (by rw[A8 (by simp)];exact b8)
theorem ES(aW:Rel q lab af):∀ (k:List Nat) (ad:Addr),aD q k=false->addrAt w lab ρ k=some ad->addrAt w af ρ k=some ad
 | [],_,_,h=>h
 | [_],_,_,h=>h
 | [_,_],_,_,h=>h
 | [_,_,_],_,_,h=>by simp only[addrAt]at h ⊢;exact h
 | [j,i,s,r],_,hd,h=>by
  have hr:aD q [r]=false:=by simpa [aD]using hd
  simp only[addrAt]at h ⊢
  split at h
  ·rename_i v b n c e
   split at h
   ·rename_i hl
    rw[if_pos (aW.cZ _ _ hl hr)]
    exact h
   ·cases h
  ·cases h
 | j :: i :: s :: x :: y :: k,ad,hd,h=>by
  have kK:aD q (x :: y :: k)=false:=by simpa [aD]using hd
  simp only[addrAt]at h ⊢
  cases ha:addrAt w lab ρ (x :: y :: k)with
  | none=>rw[ha]at h;cases h
  | some js=>
   rw[ES aW _ _ kK ha]
   rw[ha]at h
   split at h
   ·rename_i v b n c e
    split at h
    ·rename_i hl
     rw[if_pos (aW.cZ _ _ hl kK)]
     exact h
    ·cases h
   ·cases h
theorem ET(aW:Rel q lab af)(k:List Nat)(u:Value)(hd:aD q k=false)(h:aP w lab ρ k=some u):aP w af ρ k=some u:=by
 match k,hd,h with
 | [],_,h=>simp[aP,addrAt]at h
 | [r],_,h=>exact h
 | x :: y :: k,hd,h=>
  simp only[aP]at h ⊢
  cases ha:addrAt w lab ρ (x :: y :: k)with
  | none=>rw[ha]at h;cases h
  | some ad=>
   rw[ES aW _ _ hd ha]
   rw[ha]at h
   exact h
theorem bw.rel(aW:Rel q lab af){x:Lf}{u:Value}(h:bw w B lab ρ x u):bw w B af ρ (x.drop q) u:=by
 cases x with
 | v x=>exact⟨h.1,h.2.rel aW (.inr h.1)⟩
 | dead=>trivial
 | own k=>
  have e:Lf.drop q (.own k)=(bif aD q k then .dead else .own k):=rfl
  rw[e]
  cases hl:aD q k with
  | true=>trivial
  | false=>exact⟨h.1,ET aW k u hl h.2⟩
theorem bH.rel(aW:Rel q lab af){cs:List Lf}{us:Array Value}(h:bH w B lab ρ cs us):bH w B af ρ (cs.map (Lf.drop q)) us:=by
 refine⟨by rw[List.length_map];exact h.1,fun j x hx=>?_⟩
 rw[List.getElem?_map]at hx
 cases hy:cs[j]? with
 | none=>rw[hy]at hx;cases hx
 | some y=>
  rw[hy]at hx
  injection hx with hx
  subst hx
  obtain⟨u,hu,r⟩:=h.2 j y hy
  exact⟨u,hu,r.rel aW⟩
theorem RP.rel(aW:Rel q lab af){p:Bool×List Lf}{u:Value}(h:RP w B lab ρ p u):RP w B af ρ (p.1,p.2.map (Lf.drop q)) u:=by
 obtain⟨b,cs⟩:=p
 cases b with
 | true=>obtain⟨us,e,h⟩:=h;exact⟨us,e,h.rel aW⟩
 | false=>exact bH.rel aW h
theorem RA.rel(aW:Rel q lab af){x:A}{u:Value}(h:RA w B lab ρ x u):RA w B af ρ (x.drop q) u:=by
 cases x with
 | undef=>trivial
 | skip=>exact h
 | lf x=>exact bw.rel aW h
 | agg cs=>exact RP.rel aW (p:=(true,cs)) h
 | aU xs=>
  obtain⟨us,e,hs,h⟩:=h
  refine⟨us,e,by rw[List.length_map];exact hs,fun j p hp=>?_⟩
  rw[List.getElem?_map]at hp
  cases hy:xs[j]? with
  | none=>rw[hy]at hp;cases hp
  | some y=>
   rw[hy]at hp
   injection hp with hp
   subst hp
   obtain⟨v,hv,r⟩:=h j y hy
   exact⟨v,hv,r.rel aW⟩
 | ptr k=>
  have e:A.drop q (.ptr k)=(bif aD q k then .undef else .ptr k):=rfl
  rw[e]
  cases hl:aD q k with
  | true=>trivial
  | false=>obtain⟨ad,e,h⟩:=h;exact⟨ad,e,ES aW k ad hl h⟩
 | view k s i j=>
  have e:A.drop q (.view k s i j)=(bif aD q k then .undef else .view k s i j):=rfl
  rw[e]
  cases hl:aD q k with
  | true=>trivial
  | false=>obtain⟨A,n,c,h,r⟩:=h;exact⟨A,n,c,ET aW k _ hl h,r⟩
 | aE r j=>
  have e:A.drop q (.aE r j)=(bif Nat.beq r q then .undef else .aE r j):=rfl
  rw[e]
  cases hl:Nat.beq r q with
  | true=>trivial
  | false=>exact h
 | pk r n=>
  have e:A.drop q (.pk r n)=(bif Nat.beq r q then .undef else .pk r n):=rfl
  rw[e]
  cases hl:Nat.beq r q with
  | true=>trivial
  | false=>exact h
 | dO cs=>
  obtain⟨b,off,e,U,hl,h⟩:=h
  refine⟨b,off,e,U,aW.none _ hl,fun j x hx=>?_⟩
  obtain⟨hf,v,hv,hr⟩:=h j x hx
  exact⟨hf,v,hv,hr.rel aW (.inr hf)⟩
 | gU f cs=>
  obtain⟨pv,e0,h⟩:=h
  refine⟨pv,e0,?_⟩
  obtain⟨b,off,e,U,hl,h⟩:=h
  refine⟨b,off,e,U,aW.none _ hl,fun j x hx=>?_⟩
  obtain⟨hf,v,hv,hr⟩:=h j x hx
  exact⟨hf,v,hv,hr.rel aW (.inr hf)⟩
 | fn f cap=>
  have e:A.drop q (.fn f cap)=(bif cap.any (fun p=>Nat.beq p.1 q)then .undef else .fn f cap):=rfl
  rw[e]
  cases hl:cap.any (fun p=>Nat.beq p.1 q)with
  | true=>trivial
  | false=>exact h
theorem bP.rel(aW:Rel q lab af){r:Nat}(hr:r≠q){x:au}(h:bP w B lab ρ r x):bP w B af ρ r (x.drop q):=by
 have l8:aD q [r]=false:=by simpa [aD]using fun e=>hr e
 cases h with
 | blk b off cells e cs us dA hl hh hs hc=>
  refine .blk b off cells e _ us dA (aW.cZ _ _ hl l8) hh (by rw[List.length_map];exact hs) (fun j x hx=>?_)
  rw[List.getElem?_map]at hx
  cases hy:cs[j]? with
  | none=>rw[hy]at hx;cases hx
  | some y=>
   rw[hy]at hx
   injection hx with hx
   subst hx
   exact⟨(hc j y hy).1,(hc j y hy).2.rel aW⟩
 | sl v y dA xX=>exact .sl v y dA (xX.rel aW (.inl l8))
 | mp b c es l dA hl hh he=>exact .mp b c es l dA (aW.cZ _ _ hl l8) hh he
 | gh us xs dA hx=>
  refine .gh us _ dA (fun j x hj=>?_)
  rw[List.getElem?_map]at hj
  cases hy:xs[j]? with
  | none=>rw[hy]at hj;cases hj
  | some y=>
   rw[hy]at hj
   injection hj with hj
   subst hj
   exact(hx j y hy).rel aW
theorem Rl.qT(h:Rl w0 N lab ρ σ a w):∀ b,lab b≠some []:=fun b U=>(h.bf b [] U).2.2 rfl
theorem Rl.rel(h:Rl w0 N lab ρ σ a w)(aW:Rel q lab af)(hg:∀ b k,af b=some k->(∃ k',lab b=some k')/\k≠[]):Rl w0 N af ρ (σ.drop q) a w:=by
 refine⟨h.below,fun b k hbk=>?_,fun r x hx=>?_,fun k=>(h.tmp k).rel aW,h.size,h.defers,h.fix,h.cB⟩
 ·obtain⟨⟨k',hl⟩,hk⟩:=hg b k hbk
  have:=h.bf b k' hl
  exact⟨this.1,this.2.1,hk⟩
 ·have hx:(bif Nat.beq r q then none else (σ.m r).map (au.drop q))=some x:=hx
  cases U:Nat.beq r q with
  | true=>rw[U]at hx;cases hx
  | false=>
   rw[U,cond_false]at hx
   have bq:r≠q:=by rintro rfl;simp at U
   cases iL:σ.m r with
   | none=>rw[iL]at hx;cases hx
   | some y=>
    rw[iL]at hx
    injection hx with hx
    subst hx
    exact(h.root r y iL).rel aW bq
theorem Rl.Sf{z:V}(h:Rl w0 N lab ρ σ a w)(hm:σ.m q=some (.sl z))(hn:nk≠[]):∃ u,ρ q = .bS u/\Rl w0 N (lab.dQ q nk) ρ (σ.drop q) a w/\RV w w0.heap.size (lab.dQ q nk) nk z u:=by
 have az:=h.qT
 have hq:=h.root q _ hm
 generalize he:au.sl z=x at hq
 cases hq with
 | blk=>cases he
 | mp=>cases he
 | gh=>cases he
 | sl u y aq hr=>
  injection he with he
  subst he
  refine⟨u,aq,h.rel (yg az) fun b k hbk=>?_,?_⟩
  ·unfold aG.dQ at hbk
   cases hl:lab b with
   | none=>rw[hl]at hbk;cases hbk
   | some k'=>
    rw[hl]at hbk
    injection hbk with hbk
    subst hbk
    exact⟨⟨k',rfl⟩,J0 hn (fun e=>az b (by rw[hl,e]))⟩
  ·have:=hr.dQ (q:=q) (nk:=nk) az
   rwa [JZ]at this
def kL(r:Nat)(key:Nat->List Nat):Nat->Nat->List Lf->S->Option (List V×S)
 | _,_,[],σ=>some ([],σ)
 | f+1,j,.v x :: xs,σ=>(kL r key f (j+1) xs σ).map fun p=>(x :: p.1,p.2)
 | f+1,j,.own [q] :: xs,σ=>match σ.m q with
  | some (.sl z)=>bif Nat.beq q r then none else (kL r key f (j+1) (xs.map (Lf.drop q)) (σ.drop q)).map fun p=>(z :: p.1,p.2)
  | _=>none
 | _,_,_,_=>none
theorem A9{r:Nat}{key:Nat->List Nat}(oC:∀ j,aD r (key j)=true):∀ (f j:Nat) (xs:List Lf) (σ τ:S) (vs:List V),kL r key f j xs σ=some (vs,τ)->∀ lab ρ a w,Rl w0 N lab ρ σ a w->∀ us:List Value,bH w w0.heap.size lab ρ xs us.toArray->
  ∃ af,Rl w0 N af ρ τ a w/\vs.length=xs.length/\(∀ (n:Nat) x,vs[n]?=some x->∃ u,us[n]?=some u/\RV w w0.heap.size af (key (j+n)) x u)/\(∀ k x v,aD r k=true->RV w w0.heap.size lab k x v->RV w w0.heap.size af k x v)/\
   (∀ x,σ.m r=some (.sl x)->τ.m r=some (.sl x))/\(∀ k u,aD r k=true->aP w lab ρ k=some u->aP w af ρ k=some u)/\(∀ b,lab b=some [r]->af b=some [r])/\(∀ b,lab b=none->af b=none)
 | 0,j,[],σ,τ,vs,h,lab,ρ,a,w,hR,us,hu=>by
  simp only[kL,Option.some.injEq,Prod.mk.injEq]at h
  obtain⟨rfl,rfl⟩:=h
  exact⟨lab,hR,rfl,by simp,fun _ _ _ _ h=>h,fun _ h=>h,fun _ _ _ h=>h,fun _ h=>h,fun _ h=>h⟩
 | f+1,j,[],σ,τ,vs,h,lab,ρ,a,w,hR,us,hu=>by
  simp only[kL,Option.some.injEq,Prod.mk.injEq]at h
  obtain⟨rfl,rfl⟩:=h
  exact⟨lab,hR,rfl,by simp,fun _ _ _ _ h=>h,fun _ h=>h,fun _ _ _ h=>h,fun _ h=>h,fun _ h=>h⟩
 | 0,j,x :: xs,σ,τ,vs,h,lab,ρ,a,w,hR,us,hu=>by simp[kL]at h
 | f+1,j,x :: xs,σ,τ,vs,h,lab,ρ,a,w,hR,us,hu=>by
  obtain⟨u0,us,rfl⟩:∃ u0 J3,us=u0 :: J3:=by
   cases us with
   | nil=>have:=hu.1;simp at this
   | cons u0 us=>exact⟨_,_,rfl⟩
  have jV:bw w w0.heap.size lab ρ x u0:=by
   obtain⟨u,e,h⟩:=hu.2 0 x rfl
   simp at e
   subst e
   exact h
  have cE:bH w w0.heap.size lab ρ xs us.toArray:=⟨by have:=hu.1;simpa using this,fun n y hy=>by
   obtain⟨u,e,h⟩:=hu.2 (n+1) y hy
   exact⟨u,by simpa using e,h⟩⟩
  cases x with
  | v x=>
   simp only[kL,Option.map_eq_some_iff]at h
   obtain⟨⟨sE,dr⟩,h,e⟩:=h
   simp only[Prod.mk.injEq]at e
   obtain⟨rfl,rfl⟩:=e
   obtain⟨af,h1,h2,h3,h4,h5⟩:=A9 oC f (j+1) xs σ dr sE h lab ρ a w hR us cE
   refine⟨af,h1,by simp[h2],fun n y hy=>?_,h4,h5⟩
   cases n with
   | zero=>
    simp at hy
    subst hy
    refine⟨u0,rfl,h4 _ _ _ (oC _) (jV.2.key jV.1)⟩
   | succ n=>
    obtain⟨u,e,h⟩:=h3 n y (by simpa using hy)
    exact⟨u,by simpa using e,by rw[show j+(n+1)=j+1+n by omega];exact h⟩
  | dead=>simp[kL]at h
  | own k=>
   match k,jV,h with
   | [],_,h=>simp[kL]at h
   | _ :: _ :: _,_,h=>simp[kL]at h
   | [q],jV,h=>
    simp only[kL]at h
    split at h
    ·rename_i z hz
     cases EU:Nat.beq q r with
     | true=>rw[EU]at h;cases h
     | false=>
      rw[EU,cond_false,Option.map_eq_some_iff]at h
      obtain⟨⟨sE,dr⟩,Sg,e⟩:=h
      simp only[Prod.mk.injEq]at e
      obtain⟨rfl,rfl⟩:=e
      have az:q≠r:=by rintro rfl;simp at EU
      have Sh:key j≠[]:=by intro e;have:=oC j;rw[e]at this;simp[aD]at this
      obtain⟨u,aq,aA,iJ⟩:=hR.Sf hz Sh
      have sF:u=u0:=by
       have h4:=jV.2
       simp only[aP,aq]at h4
       injection h4
      subst sF
      have eU:∀ k,aD r k=true->aD q k=false:=by
       intro k hk
       cases hq:aD q k with
       | false=>rfl
       | true=>
        exfalso
        have h1:=EO hk
        have h2:=EO hq
        exact az (JR h1 h2)
      obtain⟨af,h1,h2,h3,h4,h5,h6,h7,h8⟩:=A9 oC f (j+1) (xs.map (Lf.drop q)) (σ.drop q) dr sE Sg _ ρ a w aA us (cE.rel (yg hR.qT))
      refine⟨af,h1,by simp[h2],fun n y hy=>?_,fun k x v hk hv=>h4 _ _ _ hk (hv.rel (yg hR.qT) (.inl (eU k hk))),fun x hx=>h5 x ?_,fun k v hk hv=>h6 k v hk (ET (yg hR.qT) k v (eU k hk) hv),fun b U=>h7 b (aG.J2 U (by simpa [aD]using fun e=>az e.symm)),fun b U=>h8 b (aG.ER U)⟩
      ·cases n with
       | zero=>
        simp at hy
        subst hy
        exact⟨u,rfl,h4 _ _ _ (oC _) iJ⟩
       | succ n=>
        obtain⟨u,e,h⟩:=h3 n y (by simpa using hy)
        exact⟨u,by simpa using e,by rw[show j+(n+1)=j+1+n by omega];exact h⟩
      ·have U:Nat.beq r q=false:=by
        cases U:Nat.beq r q with
        | false=>rfl
        | true=>exact absurd (Nat.eq_of_beq_eq_true U).symm az
       simp only[S.drop,U,cond_false,hx,Option.map_some,au.drop]
    ·cases h
end
end Go.Proofs.YtjldnlbiefpekaaDoor
namespace Go.Proofs.YtjldnlbiefpekaaDoor
open Go.RowKit
set_option linter.unusedVariables false
def ey:Value->Lf
 | .int k n=>.v (.int k n)
 | .bool b=>.v (.bool b)
 | .string s=>.v (.str s)
 | .slice none 0 0=>.v .nil
 | _=>.dead
def zeroV:Value->Option V
 | .int k n=>some (.int k n)
 | .bool b=>some (.bool b)
 | .string s=>some (.str s)
 | .slice none 0 0=>some .nil
 | _=>none
def yh:List Value->Option (List V)
 | []=>some []
 | v :: vs=>match zeroV v,yh vs with
  | some x,some xs=>some (x :: xs)
  | _,_=>none
def zeroOf(P:Program)(e:TypeId):Option Value:=(P.info? e).bind (·.zero)
def bytesOf(P:Program)(e:TypeId):Option Nat:=(P.info? e).map (·.bytes)
def dR{X:Type}(N:Nat)(σ:S)(d:Nat)(x:au)(y:A)(k:S->Option X):Option X:=
 bif Nat.blt d N then k (((σ.drop d).root d x).set d y)else none
def lO{X:Type}(P:Program)(N:Nat)(σ:S)(d:Nat)(e:TypeId)(k:S->Option X):Option X:=
 match zeroOf P e with
 | some z=>dR N σ d (.blk (z.cells.toList.map ey)) (.aE d 0) k
 | none=>none
def oD(P:Program)(t:TypeId):Option (TypeId×TC):=
 match lK P t with
 | none=>none
 | some e=>match JL e,fE P e,bytesOf P e with
  | some tc,some n,some b=>bif Nat.beq n (aj tc)&&Nat.ble b 65536 then some (e,tc)else none
  | _,_,_=>none
def J4(P:Program)(e:TypeId)(tc:TC):Option (T tc):=
 match zeroOf P e with
 | none=>none
 | some z=>match yh z.cells.toList with
  | none=>none
  | some vs=>dec tc (full tc) vs
def sG{X:Type}(P:Program)(N:Nat)(σ:S)(d:Nat)(t:TypeId)(l c:A)(k:S->Option X):Option X:=
 match oD P t,l,c with
 | some (e,tc),.lf (.v (.int _ n)),.lf (.v (.int _ c))=>match J4 P e tc with
  | none=>none
  | some z=>if 0<=n/\n<=c/\c<1073741824 then dR N σ d (.sl (.sl tc (full tc+2) false (List.replicate n.toNat z))) (.lf (.own [d])) k else none
 | _,_,_=>none
def V.Ba(t:TC):V->Option (List (T t))
 | .sl t' _ _ l=>if h:t'=t then some (h ▸ l)else none
 | .nil=>some []
 | _=>none
def jW{X:Type}(P:Program)(N:Nat)(σ:S)(d:Nat)(t:TypeId)(x y:A)(k:S->Option X):Option X:=
 match oD P t with
 | some (e,tc)=>bif Nat.beq (full tc) 0&&(zeroOf P e).any (fun z=>Nat.beq z.cells.size (aj tc))then jT σ y fun yv=>(match yv.Ba tc with
  | none=>none
  | some l2=>match x with
   | .lf (.v .nil)=>bif bz l2.length then dR N σ d (.sl (.sl tc 2 false l2)) (.lf (.own [d])) k else none
   | .lf (.own [r])=>(match σ.m r with
    | some (.sl (.sl t' (o+2) q l))=>if h:t'=tc then (bif Nat.blt d N&&(Nat.blt r N || Nat.ble 60000 r)&&bz (l.length+l2.length)then k (((σ.drop r).root r (.sl (.sl tc (o+2) false ((h ▸ l)++l2)))).set d (.lf (.own [r])))else none)else none
    | _=>none)
   | _=>none)else none
 | none=>none
section
variable {P:Program} {w w':World} {w0:Wd} {B N:Nat} {lab af:aG} {ρ ρ':Nat->Loc} {σ:S} {a:Act} {X:Type} {d:Nat} {r:X}
theorem Bb(v:Value):bw w B lab ρ (ey v) v:=by
 unfold ey
 split
 ·exact⟨rfl,.int _ _ _⟩
 ·exact⟨rfl,.bool _ _⟩
 ·exact⟨rfl,.str _ _⟩
 ·exact⟨rfl,.nil _⟩
 ·trivial
theorem Si{v:Value}{x:V}(h:zeroV v=some x)(q:List Nat):RV w B lab q x v:=by
 unfold zeroV at h
 split at h <;>first | (injection h with h;subst h;first | exact .int _ _ _ | exact .bool _ _ | exact .str _ _ | exact .nil _) | cases h
theorem J5:∀ (vs:List Value) (xs:List V),yh vs=some xs->xs.length=vs.length/\∀ (j:Nat) x,xs[j]?=some x->∃ v,vs[j]?=some v/\zeroV v=some x
 | [],xs,h=>by
  simp[yh]at h
  subst h
  simp
 | v :: vs,xs,h=>by
  unfold yh at h
  split at h
  ·rename_i y ys hy iM
   injection h with h
   subst h
   obtain⟨h1,h2⟩:=J5 vs ys iM
   refine⟨by simp[h1],fun j x hx=>?_⟩
   cases j with
   | zero=>simp at hx;subst hx;exact⟨v,rfl,hy⟩
   | succ j=>simp at hx;simpa using h2 j x hx
  ·cases h
theorem eD.J6(w0:Wd)(w:World)(o:Obj)(h:w0.heap.size<=w.heap.size):eD w0 w (w.alloc o):=.of ((Below.refl w0.heap.size w).alloc h o) (Nat.le_refl _)
theorem Rl.vh{c:Array Value}{e:TypeId}{x:au}{ρ':Nat->Loc}(h:Rl w0 N lab ρ σ a w)(hF:w0.F d=none)(aq:∀ r,r≠d->ρ' r=ρ r)
  (hx:bP (w.alloc (.cells c e)) w0.heap.size (aH lab w.heap.size (some [d])) ρ' d x):Rl w0 N (aH lab w.heap.size (some [d])) ρ' ((σ.drop d).root d x) a (w.alloc (.cells c e)):=by
 refine h.oB hF (eD.J6 w0 w _ h.below.size) ⟨by simp,fun b U _=>Below.heap_alloc w _ b U,fun b U=>aQ _ _ _ (by omega),fun b U=>(h.bf b [] U).2.2 rfl⟩ (fun b k U hk=>?_) aq hx
 by_cases e:b=w.heap.size
 ·subst e
  rw[aJ]at hk
  injection hk with hk
  subst hk
  exact⟨by simp,by simp⟩
 ·rw[aQ _ _ _ e]at hk
  have:=(h.bf b k hk).2.1
  omega
theorem ja{x:au}{y:A}{k:S->Option X}(h:dR N σ d x y k=some r):d<N/\k (((σ.drop d).root d x).set d y)=some r:=by
 unfold dR at h
 cases hN:Nat.blt d N with
 | false=>rw[hN]at h;cases h
 | true=>rw[hN]at h;exact⟨by have:=Nat.le_of_ble_eq_true hN;omega,h⟩
theorem Sj{e:TypeId}{k:S->Option X}(h:lO P N σ d e k=some r):∃ aa,k aa=some r/\∀ lab ρ a w,Rl w0 N lab ρ σ a w->∃ w' af ρ' v,(Instr.alloc e true (.tuple #[])).run P w = .ok v w'/\Rl w0 N af ρ' aa (a.put (some d) v) w':=by
 unfold lO at h
 split at h
 ·rename_i z hz
  obtain⟨hd,h⟩:=ja h
  refine⟨_,h,fun lab ρ a w hR=>?_⟩
  have aC:(Instr.alloc e true (.tuple #[])).run P w = .ok (.pointer (some ⟨w.heap.size,0,none⟩)) (w.alloc (.cells z.cells e)):=by
   unfold zeroOf at hz
   cases hi:P.info? e with
   | none=>simp[hi]at hz
   | some i=>
    have hz:i.zero=some z:=by simpa [hi]using hz
    simp[Instr.alloc,zeroValue,typeInfo,hi,hz,newVar,newRow]
  refine⟨_,aH lab w.heap.size (some [d]),aH ρ d (.blk w.heap.size 0),_,aC,(hR.vh (hR.cB d (.inl hd)) (fun r hr=>aQ _ _ _ hr) ?_).set ⟨w.heap.size,0,aJ _ _ _,rfl⟩ hd⟩
  refine .blk w.heap.size 0 z.cells e _ (fun j=>z.cells.getD j undef) (aJ _ _ _) (aJ _ _ _) (heap_alloc_new w _) (by simp) fun j x hx=>?_
  rw[List.getElem?_map]at hx
  cases hv:z.cells.toList[j]? with
  | none=>rw[hv]at hx;cases hx
  | some v=>
   rw[hv]at hx
   injection hx with hx
   subst hx
   have bT:z.cells[j]?=some v:=by simpa using hv
   have hg:z.cells.getD j undef=v:=by rw[Array.getD_eq_getD_getElem?,bT];rfl
   rw[hg,Nat.zero_add]
   exact⟨bT,Bb v⟩
 ·cases h
theorem sH{t e:TypeId}{tc:TC}(h:oD P t=some (e,tc)):P.underlying t=some (.slice e)/\tid tc=e/\∃ i,P.info? e=some i/\i.size=aj tc/\i.bytes<=65536:=by
 unfold oD at h
 split at h
 ·cases h
 ·rename_i e' he
  split at h
  ·rename_i Sk n b Sl hn U
   cases hc:(Nat.beq n (aj Sk)&&Nat.ble b 65536)with
   | false=>rw[hc]at h;cases h
   | true=>
    rw[hc,cond_true]at h
    injection h with h
    injection h with h1 h2
    subst h1 h2
    rw[Bool.and_eq_true]at hc
    refine⟨?_,RL Sl,?_⟩
    ·unfold lK at he
     split at he
     ·rename_i e'' hu;injection he with he;subst he;exact hu
     ·cases he
    ·unfold fE at hn
     unfold bytesOf at U
     cases hi:P.info? e' with
     | none=>simp[hi]at hn
     | some i=>
      simp only[hi,Option.map_some,Option.some.injEq]at hn U
      refine⟨i,rfl,hn.trans (Nat.eq_of_beq_eq_true hc.1),by rw[U];exact Nat.le_of_ble_eq_true hc.2⟩
  ·cases h
theorem Sm(z:Array Value)(n i j:Nat)(hz:j<z.size)(h:i*z.size+j<n):(madeCells z n)[i*z.size+j]?=some z[j]:=by
 have hm:(i*z.size+j) % z.size=j:=by rw[Nat.add_comm,Nat.add_mul_mod_self_right,Nat.mod_eq_of_lt hz]
 simp only[madeCells,Array.getElem?_map,Array.getElem?_range,h,if_true,Option.map_some,hm]
 simp[hz]
theorem Sn{t:TypeId}{l c:A}{k:S->Option X}(h:sG P N σ d t l c k=some r):∃ aa,k aa=some r/\∀ lab ρ a w,Rl w0 N lab ρ σ a w->∀ u v,RA w w0.heap.size lab ρ l u->RA w w0.heap.size lab ρ c v->
  ∃ w' af ρ' x,(Instr.makeSlice t u v).run P w = .ok x w'/\Rl w0 N af ρ' aa (a.put (some d) x) w':=by
 unfold sG at h
 split at h
 ·rename_i e tc kl n kc c dS
  split at h
  ·cases h
  ·rename_i z hz
   split at h
   ·rename_i U
    obtain⟨hd,h⟩:=ja h
    refine⟨_,h,fun lab ρ a w hR u v hu hv=>?_⟩
    obtain rfl:=hu.2.eE
    obtain rfl:=hv.2.eE
    obtain⟨cK,ht,i,hi,hsz,dI⟩:=sH dS
    unfold J4 at hz
    split at hz
    ·cases hz
    ·rename_i zv Bc
     split at hz
     ·cases hz
     ·rename_i vs cN
      have kM:i.zero=some zv:=by unfold zeroOf at Bc;simpa [hi]using Bc
      obtain⟨oE,ez⟩:=J5 _ _ cN
      have hk:=gS tc (full tc) vs z hz
      have dy:zv.cells.size=aj tc:=by rw[<-iF tc (full tc) z,<-hk.1,oE];simp
      have wI:(i.bytes:Int)*c<=281474976710656:=by
       have h1:(i.bytes:Int)<=65536:=by omega
       have h2:(i.bytes:Int)*c<=65536*c:=Int.mul_le_mul_of_nonneg_right h1 (by omega)
       omega
      have aC:=run_make (P:=P) w t e i zv cK hi kM kl kc n c U.1 U.2.1 wI (by omega)
      rw[hsz,<-dy]at aC
      refine⟨_,aH lab w.heap.size (some [d]),aH ρ d (.bS (.slice (some ⟨w.heap.size,0,none⟩) n.toNat c.toNat)),_,aC,(hR.vh (hR.cB d (.inl hd)) (fun r hr=>aQ _ _ _ hr) ?_).set ⟨rfl,?_⟩ hd⟩
      ·refine .sl _ _ (aJ _ _ _) ?_
       have hlen:(List.replicate n.toNat z).length=n.toNat:=by simp
       have:=RV.own (w:=w.alloc (.cells (madeCells zv.cells (c.toNat*zv.cells.size)) e)) (B:=w0.heap.size) (lab:=aH lab w.heap.size (some [d])) [d] tc (full tc) false (List.replicate n.toNat z) w.heap.size c.toNat (madeCells zv.cells (c.toNat*zv.cells.size)) (fun _ j=>zv.cells.getD j undef)
        (aJ _ _ _) (by rw[ht];exact heap_alloc_new w _) (by rw[size_madeCells,dy]) (by rw[hlen];omega) ⟨by unfold maxLen;omega,fun h=>by cases h⟩ (fun i' h' j x hx=>?_) (fun i' h' j x hx=>?_)
       ·rw[hlen]at this
        exact this
       ·rw[List.getElem_replicate]at hx
        have hj:j<aj tc:=by have:=(List.getElem?_eq_some_iff.1 hx).1;rwa [iF]at this
        rw[hlen]at h'
        rw[<-dy]at hj
        rw[<-dy,Sm zv.cells _ i' j hj (by
         have:(i'+1)*zv.cells.size<=c.toNat*zv.cells.size:=Nat.mul_le_mul_right _ (by omega)
         rw[Nat.succ_mul]at this
         omega)]
        simp[Array.getD_eq_getD_getElem?,hj]
       ·rw[List.getElem_replicate]at hx
        have hj:j<(enc tc (full tc) z).length:=(List.getElem?_eq_some_iff.1 hx).1
        rw[<-hk.1]at hj
        have hy:=List.getElem?_eq_getElem hj
        generalize vs[j]=y at hy
        obtain⟨v,hv,So⟩:=ez j y hy
        have bT:zv.cells[j]?=some v:=by simpa using hv
        have hg:zv.cells.getD j undef=v:=by rw[Array.getD_eq_getD_getElem?,bT];rfl
        rw[hg]
        exact(Si So _).wk (hk.2 j y x hy hx)
      ·simp[aP,aJ]
   ·cases h
 ·cases h
end
end Go.Proofs.YtjldnlbiefpekaaDoor
namespace Go.Proofs.YtjldnlbiefpekaaDoor
open Go.RowKit
set_option linter.unusedVariables false
section
variable {P:Program} {w w':World} {w0:Wd} {B N:Nat} {lab af:aG} {ρ ρ':Nat->Loc} {σ:S} {a:Act} {X:Type} {d:Nat} {r:X}
theorem EV(t:TC)(h:full t=0)(o o':Nat)(x:T t):enc t o x=enc t o' x:=by
 have key:∀ o,enc t o x=enc t 0 x:=by
  intro o
  rw[JM t o x]
  have:=xV t o x h
  conv=>lhs;rw[<-List.map_id (enc t o x)]
  apply List.map_congr_left
  intro y hy
  have hp:=this y hy
  cases y <;>first | rfl | cases hp
 rw[key o,key o']
def oF(u:Nat->Nat->Value)(n s:Nat):List Value:=(List.range (n*s)).map fun k=>u (k / s) (k % s)
theorem J7(u:Nat->Nat->Value)(n s i j:Nat)(hi:i<n)(hj:j<s):(oF u n s)[i*s+j]?=some (u i j):=by
 have aV:i*s+j<n*s:=by
  have:(i+1)*s<=n*s:=Nat.mul_le_mul_right _ hi
  rw[Nat.succ_mul]at this
  omega
 have hd:(i*s+j) / s=i:=by rw[Nat.add_comm,Nat.add_mul_div_right _ _ (by omega),Nat.div_eq_of_lt hj,Nat.zero_add]
 have hm:(i*s+j) % s=j:=by rw[Nat.add_comm,Nat.add_mul_mod_self_right,Nat.mod_eq_of_lt hj]
 simp[oF,aV,hd,hm]
theorem Bd(u:Nat->Nat->Value)(n s k:Nat)(v:Value)(hs:0<s)(h:(oF u n s)[k]?=some v):∃ i j,k=i*s+j/\i<n/\j<s/\v=u i j:=by
 have hk:k<n*s:=by
  have:=(List.getElem?_eq_some_iff.1 h).1
  simpa [oF]using this
 refine⟨k / s,k % s,by rw[Nat.mul_comm];exact(Nat.div_add_mod k s).symm,Nat.div_lt_of_lt_mul (by rw[Nat.mul_comm];exact hk),Nat.mod_lt _ hs,?_⟩
 simp only[oF,List.getElem?_map,List.getElem?_range hk,Option.map_some,Option.some.injEq]at h
 exact h.symm
theorem Be(t:TC)(o:Nat)(x:T t)(j:Nat)(hj:j<aj t):∃ y,(enc t o x)[j]?=some y:=⟨_,List.getElem?_eq_getElem (by rw[iF];exact hj)⟩
def oG(t:TC)(l:List (T t))(vs:List Value):Prop:=
 ∀ i (hi:i<l.length) (o j:Nat) x,(enc t o l[i])[j]?=some x->∃ v,vs[i*aj t+j]?=some v/\v.oneCell'=true/\∀ (w':World) (B':Nat) (af:aG) (q':List Nat),RV w' B' af q' x v
theorem RV.reads{q:List Nat}{t:TC}{g:Nat}{qn:Bool}{l:List (T t)}{u:Value}(h:RV w B lab q (.sl t g qn l) u)(hf:full t=0):
  ∃ A c news,u = .slice A l.length c/\Reads w w.heap.size (aj t) A l.length news/\(∀ v∈news,v.oneCell'=true)/\oG t l news:=by
 cases h with
 | aY=>exact⟨none,0,[],rfl,Reads.none_,by simp,fun i hi=>by simp at hi⟩
 | bn=>exact⟨_,_,[],rfl,⟨by simp,fun h=>by simp at h⟩,by simp,fun i hi=>by simp at hi⟩
 | bF=>exact⟨_,_,[],rfl,⟨by simp,fun h=>by simp at h⟩,by simp,fun i hi=>by simp at hi⟩
 | av _ _ _ _ _ b off cap us ho hl U h1 hcap hc hr=>
  have gB:∀ i (hi:i<l.length) j,j<aj t->(us i j).oneCell'=true:=by
   intro i hi j hj
   obtain⟨y,hy⟩:=Be t g l[i] j hj
   exact(hr i hi j y hy).one
  refine⟨_,cap,oF us l.length (aj t),rfl,⟨by simp[oF],fun hn=>⟨b,off,rfl,U,fun k v hv=>?_⟩⟩,fun v hv=>?_,fun i hi o j x hx=>?_⟩
  ·obtain⟨i,j,rfl,hi,hj,rfl⟩:=Bd us _ _ k v (lF t) hv
   obtain⟨y,hy⟩:=Be t g l[i] j hj
   exact hc i hi j y hy
  ·obtain⟨k,hk⟩:=List.mem_iff_getElem?.1 hv
   obtain⟨i,j,rfl,hi,hj,rfl⟩:=Bd us _ _ k v (lF t) hk
   exact gB i hi j hj
  ·have hj:j<aj t:=by have:=(List.getElem?_eq_some_iff.1 hx).1;rwa [iF]at this
   rw[EV t hf o g]at hx
   refine⟨us i j,J7 us _ _ i j hi hj,gB i hi j hj,fun w' B' af q'=>(hr i hi j x hx).qQ (xV t g l[i] hf x (List.mem_of_getElem? hx))⟩
 | own _ _ o _ _ b cap cs us hl hh hs hn hm hc hr=>
  have gB:∀ i (hi:i<l.length) j,j<aj t->(us i j).oneCell'=true:=by
   intro i hi j hj
   obtain⟨y,hy⟩:=Be t o l[i] j hj
   exact(hr i hi j y hy).one
  refine⟨_,cap,oF us l.length (aj t),rfl,⟨by simp[oF],fun hn=>⟨b,0,rfl,(Array.getElem?_eq_some_iff.1 hh).1,fun k v hv=>?_⟩⟩,fun v hv=>?_,fun i hi o' j x hx=>?_⟩
  ·obtain⟨i,j,rfl,hi,hj,rfl⟩:=Bd us _ _ k v (lF t) hv
   obtain⟨y,hy⟩:=Be t o l[i] j hj
   rw[Nat.zero_add,cell_of_row w b _ cs _ _ hh]
   exact hc i hi j y hy
  ·obtain⟨k,hk⟩:=List.mem_iff_getElem?.1 hv
   obtain⟨i,j,rfl,hi,hj,rfl⟩:=Bd us _ _ k v (lF t) hk
   exact gB i hi j hj
  ·have hj:j<aj t:=by have:=(List.getElem?_eq_some_iff.1 hx).1;rwa [iF]at this
   rw[EV t hf o' o]at hx
   refine⟨us i j,J7 us _ _ i j hi hj,gB i hi j hj,fun w' B' af q'=>(hr i hi j x hx).qQ (xV t o l[i] hf x (List.mem_of_getElem? hx))⟩
theorem RV.owns{q:List Nat}{t:TC}{o:Nat}{qn:Bool}{l:List (T t)}{u:Value}(h:RV w B lab q (.sl t (o+2) qn l) u)(hf:full t=0){B':Nat}(hB:∀ b,lab b=some q->B'<=b):
  ∃ xs,w.ownsRow B' (tid t) (aj t) u l.length xs/\(∀ b,u.ownBlock=some b->lab b=some q)/\(qn=true->u.ownBlock≠none)/\oG t l xs:=by
 cases h with
 | bn=>omega
 | bF=>omega
 | aY=>exact⟨[],⟨by simp,.inl ⟨rfl,rfl⟩⟩,by simp[Value.ownBlock],by simp,fun i hi=>by simp at hi⟩
 | av _ _ _ _ _ _ _ _ _ ho=>omega
 | own _ _ _ _ _ b cap cs us hl hh hs hn hm hc hr=>
  refine⟨cs.toList.take (l.length*aj t),⟨?_,.inr ⟨b,cap,cs,rfl,hB b hl,hh,hn,hm.1,hs,rfl⟩⟩,fun b' gV=>?_,fun _=>by simp[Value.ownBlock],fun i hi o' j x hx=>?_⟩
  ·have bV:cs.toList.length=cap*aj t:=by rw[<-hs];simp
   rw[List.length_take,bV]
   have:=Nat.mul_le_mul_right (aj t) hn
   omega
  ·have:b=b':=by simpa [Value.ownBlock]using gV
   subst this
   exact hl
  ·have hj:j<aj t:=by have:=(List.getElem?_eq_some_iff.1 hx).1;rwa [iF]at this
   have aV:i*aj t+j<l.length*aj t:=by
    have:(i+1)*aj t<=l.length*aj t:=Nat.mul_le_mul_right _ hi
    rw[Nat.succ_mul]at this
    omega
   rw[EV t hf o' o]at hx
   refine⟨us i j,?_,(hr i hi j x hx).one,fun w' B' af q'=>(hr i hi j x hx).qQ (xV t o l[i] hf x (List.mem_of_getElem? hx))⟩
   rw[List.getElem?_take,if_pos aV,Array.getElem?_toList]
   exact hc i hi j x hx
theorem oG.append{t:TC}{l l2:List (T t)}{xs ys:List Value}(h:oG t l xs)(h2:oG t l2 ys)(hl:xs.length=l.length*aj t):oG t (l++l2) (xs++ys):=by
 intro i hi o j x hx
 have hj:j<aj t:=by have:=(List.getElem?_eq_some_iff.1 hx).1;rwa [iF]at this
 by_cases aV:i<l.length
 ·rw[List.getElem_append_left aV]at hx
  obtain⟨v,hv,r⟩:=h i aV o j x hx
  refine⟨v,?_,r⟩
  rw[List.getElem?_append_left (List.getElem?_eq_some_iff.1 hv).1]
  exact hv
 ·rw[List.getElem_append_right (by omega)]at hx
  have EW:i-l.length<l2.length:=by rw[List.length_append]at hi;omega
  obtain⟨v,hv,r⟩:=h2 (i-l.length) EW o j x hx
  refine⟨v,?_,r⟩
  have e:i*aj t+j=xs.length+((i-l.length)*aj t+j):=by
   rw[hl,Nat.sub_mul]
   have:l.length*aj t<=i*aj t:=Nat.mul_le_mul_right _ (by omega)
   omega
  rw[e,List.getElem?_append_right (by omega),Nat.add_sub_cancel_left]
  exact hv
theorem yj{q:List Nat}{t:TC}{o:Nat}{l:List (T t)}{u:Value}{xs:List Value}{B':Nat}(h:w.ownsRow B' (tid t) (aj t) u l.length xs)(he:oG t l xs)(hl:∀ b,u.ownBlock=some b->lab b=some q):
  RV w B lab q (.sl t (o+2) false l) u:=by
 rcases h.2 with ⟨rfl,h0⟩ | ⟨b,cap,cs,rfl,hB,hh,hn,hm,hs,ht⟩
 ·have:l=[]:=List.eq_nil_of_length_eq_zero h0
  subst this
  exact .aY _ _ _
 ·have gA:∀ i (hi:i<l.length) j x,(enc t o l[i])[j]?=some x->∃ v,cs[i*aj t+j]?=some v/\∀ (w':World) (B':Nat) (af:aG) (q':List Nat),RV w' B' af q' x v:=by
   intro i hi j x hx
   obtain⟨v,hv,_,r⟩:=he i hi o j x hx
   refine⟨v,?_,r⟩
   rw[<-ht,List.getElem?_take]at hv
   split at hv
   ·rw[Array.getElem?_toList]at hv;exact hv
   ·cases hv
  refine .own q t o false l b cap cs (fun i j=>(cs[i*aj t+j]?).getD undef) (hl b rfl) hh hs hn ⟨hm,fun h=>by cases h⟩ (fun i hi j x hx=>?_) (fun i hi j x hx=>?_)
  ·obtain⟨v,hv,_⟩:=gA i hi j x hx
   rw[hv];rfl
  ·obtain⟨v,hv,r⟩:=gA i hi j x hx
   rw[hv];exact r _ _ _ _
theorem Rl.append{t e ty:TypeId}{tc:TC}{i:TypeInfo}{z:Value}{rr o g:Nat}{q qn:Bool}{l l2:List (T tc)}{u v:Value}{q':List Nat}{Bx:Nat}{EX:aG}(h:Rl w0 N lab ρ σ a w)(hF:w0.F rr=none)(cK:P.underlying t=some (.slice e))(ht:tid tc=e)(hi:P.info? e=some i)(hz:i.zero=some z)
  (hsz:i.size=aj tc) (dI:i.bytes<=65536) (dy:z.cells.size=aj tc) (hf:full tc=0) (hd:RV w w0.heap.size lab [rr] (.sl tc (o+2) q l) u) (hs:RV w Bx EX q' (.sl tc g qn l2) v) (hlen:l.length+l2.length<1073741824):
  ∃ v' w' af,(Builtin.append_ #[t,t] ty #[u,v]).run P w = .ok v' w'/\Rl w0 N af (aH ρ rr (.bS v')) ((σ.drop rr).root rr (.sl (.sl tc (o+2) false (l++l2)))) a w'/\gT v'=true:=by
 subst ht
 obtain⟨xs,er,jX,vi,iN⟩:=hd.owns hf (B':=0) (fun b _=>Nat.zero_le b)
 obtain⟨A,c,news,rfl,oH,gB,sI⟩:=hs.reads hf
 have ew:(l.length+l2.length)*i.bytes<=140737488355328:=by
  have h1:(l.length+l2.length)*i.bytes<=1073741824*65536:=Nat.mul_le_mul (by omega) dI
  omega
 obtain⟨v',w',aC,ga,eV,eA⟩:=Da (P:=P) w 0 t ty (tid tc) i z (aj tc) i.bytes cK hi hz hsz rfl dy (lF tc) u l.length xs er _ A l2.length c news oH gB (by unfold maxLen;omega) ew (Nat.zero_le _)
 have oI:(l++l2).length=l.length+l2.length:=List.length_append
 rw[<-oI]at ga
 have nj:=iN.append sI er.1
 have dJ:gT v'=true:=by rcases ga.2 with ⟨rfl,_⟩ | ⟨_,_,_,rfl,_⟩ <;>rfl
 have gD:Below 0 w w':=(Below.refl 0 w).grown eV (Nat.zero_le _) (fun _ _=>Nat.zero_le _)
 have c8:eD w0 w w':=⟨gD.os,gD.tape,gD.output,gD.size,fun k hk hL=>eV.block k (Nat.lt_of_lt_of_le hk h.below.size) (fun e'=>by
  rcases(h.bf k _ (jX k e'.symm)).1 with h1 | h1
  ·exact absurd hk (Nat.not_lt.2 h1)
  ·exact h1 hL)⟩
 by_cases jb:v'.ownBlock=some w.heap.size
 ·have aV:w.heap.size<w'.heap.size:=by
   rcases ga.2 with ⟨rfl,_⟩ | ⟨b,cap,cs,rfl,_,hh,_⟩
   ·cases jb
   ·have:b=w.heap.size:=by simpa [Value.ownBlock]using jb
    subst this
    exact(Array.getElem?_eq_some_iff.1 hh).1
  refine⟨v',w',aH lab w.heap.size (some [rr]),aC,h.oB hF c8 ⟨eV.size,fun b U az=>eV.block b U (fun e'=>az (jX b e'.symm)),fun b U=>aQ _ _ _ (by omega),fun b U=>(h.bf b [] U).2.2 rfl⟩ (fun b k U hk=>?_) (fun r hr=>aQ _ _ _ hr) (.sl v' _ (aJ _ _ _) (yj ga nj (fun b U=>?_))),dJ⟩
  ·by_cases e:b=w.heap.size
   ·subst e
    rw[aJ]at hk
    injection hk with hk
    subst hk
    exact⟨aV,by simp⟩
   ·rw[aQ _ _ _ e]at hk
    have:=(h.bf b k hk).2.1
    omega
  ·rw[jb]at U
   injection U with U
   subst U
   exact aJ _ _ _
 ·have yl:v'.ownBlock=u.ownBlock:=by
   rcases eA with eA | eA
   ·exact eA
   ·exact absurd eA jb
  refine⟨v',w',lab,aC,h.oB hF c8 ⟨eV.size,fun b U az=>eV.block b U (fun e'=>az (jX b e'.symm)),fun _ _=>rfl,fun b U=>(h.bf b [] U).2.2 rfl⟩ (fun b k U hk=>?_) (fun r hr=>aQ _ _ _ hr) (.sl v' _ (aJ _ _ _) (yj ga nj (fun b U=>jX b (by rw[<-yl];exact U)))),dJ⟩
  have:=(h.bf b k hk).2.1
  omega
theorem EY{t:TC}{x:V}{l:List (T t)}(h:x.Ba t=some l){q:List Nat}{u:Value}(hu:RV w B lab q x u):∃ g qn,RV w B lab q (.sl t g qn l) u:=by
 unfold V.Ba at h
 split at h
 ·rename_i t' g qn l'
  split at h
  ·rename_i ht
   subst ht
   injection h with h
   subst h
   exact⟨g,qn,hu⟩
  ·cases h
 ·injection h with h
  subst h
  cases hu
  exact⟨0,false,.aY _ _ _⟩
 ·cases h
theorem EZ{x:Lf}{k:V->Option X}(h:dP σ x k=some r):∃ y,(∀ lab ρ a w,Rl w0 N lab ρ σ a w->∀ u,bw w w0.heap.size lab ρ x u->∃ q,RV w w0.heap.size lab q y u)/\k y=some r:=by
 cases x with
 | v z=>exact⟨z,fun lab ρ a w _ u hu=>⟨[],hu.2⟩,h⟩
 | dead=>cases h
 | own q=>
  obtain⟨z,hz,h⟩:=l6 q _ h
  refine⟨z,fun lab ρ a w hR u hu=>?_,h⟩
  obtain⟨v,hv,hr⟩:=hz.ok hR.root
  have h3:=hu.2
  rw[hv]at h3
  injection h3 with h3
  subst h3
  exact⟨q,hr⟩
theorem J8{y:A}{k:V->Option X}(h:jT σ y k=some r):∃ z,(∀ lab ρ a w,Rl w0 N lab ρ σ a w->∀ u,RA w w0.heap.size lab ρ y u->∃ q B' af,RV w B' af q z u)/\k z=some r:=by
 unfold jT at h
 split at h
 ·obtain⟨z,hz,h2⟩:=EZ (w0:=w0) (N:=N) h
  exact⟨z,fun lab ρ a w hR u hu=>let ⟨q,hq⟩:=hz lab ρ a w hR u hu;⟨q,_,_,hq⟩,h2⟩
 ·obtain⟨z,h2,_,hz⟩:=JT h
  exact⟨z,fun lab ρ a w hR u hu=>⟨[],0,_,hz _ _ _ _ _ _ hR u hu 0⟩,h2⟩
 ·cases h
theorem Sp{t ty:TypeId}{x y:A}{k:S->Option X}(h:jW P N σ d t x y k=some r):∃ aa,k aa=some r/\∀ lab ρ a w,Rl w0 N lab ρ σ a w->∀ u v,RA w w0.heap.size lab ρ x u->RA w w0.heap.size lab ρ y v->
  ∃ w' af ρ' z,(Builtin.append_ #[t,t] ty #[u,v]).run P w = .ok z w'/\Rl w0 N af ρ' aa (a.put (some d) z) w':=by
 unfold jW at h
 split at h
 ·rename_i e tc dS
  obtain⟨cK,ht,i,hi,hsz,dI⟩:=sH dS
  cases hc:(Nat.beq (full tc) 0&&(zeroOf P e).any (fun z=>Nat.beq z.cells.size (aj tc)))with
  | false=>rw[hc]at h;cases h
  | true=>
   rw[hc,cond_true]at h
   rw[Bool.and_eq_true]at hc
   have hf:=Nat.eq_of_beq_eq_true hc.1
   obtain⟨z,hz,dy⟩:=(Option.any_eq_true _ _).1 hc.2
   have dy:=Nat.eq_of_beq_eq_true dy
   have kM:i.zero=some z:=by unfold zeroOf at hz;simpa [hi]using hz
   obtain⟨yv,Bf,h2⟩:=J8 (w0:=w0) (N:=N) h
   clear h
   split at h2
   ·cases h2
   ·rename_i l2 ez
    split at h2
    ·cases hL:bz l2.length with
     | false=>rw[hL]at h2;cases h2
     | true=>
      rw[hL,cond_true]at h2
      have hL:l2.length<1073741824:=by simpa [bz]using hL
      obtain⟨hd,h3⟩:=ja h2
      refine⟨_,h3,fun lab ρ a w hR u v hu hv=>?_⟩
      have hu:u = .slice none 0 0:=by cases hu.2;rfl
      subst hu
      obtain⟨q',_,_,bT⟩:=Bf lab ρ a w hR v hv
      obtain⟨g,qn,bT⟩:=EY ez bT
      obtain⟨v',w',af,aC,aA,dJ⟩:=hR.append (ty:=ty) (rr:=d) (o:=0) (q:=false) (l:=[]) (hR.cB d (.inl hd)) cK ht hi kM hsz dI dy hf (.aY _ _ _) bT (by simpa using hL)
      exact⟨w',af,_,v',aC,aA.set ⟨dJ,by simp[aP,aJ]⟩ hd⟩
    ·rename_i rr
     split at h2
     ·rename_i t' o q l hm
      split at h2
      ·rename_i di
       subst di
       cases hL:(Nat.blt d N&&(Nat.blt rr N || Nat.ble 60000 rr)&&bz (l.length+l2.length))with
       | false=>rw[hL]at h2;cases h2
       | true=>
        rw[hL,cond_true]at h2
        rw[Bool.and_eq_true,Bool.and_eq_true,Bool.or_eq_true]at hL
        have qU:l.length+l2.length<1073741824:=by simpa [bz]using hL.2
        have hd:d<N:=by have:=Nat.le_of_ble_eq_true hL.1.1;omega
        have gW:rr<N\/60000<=rr:=hL.1.2.imp (fun h=>by have:=Nat.le_of_ble_eq_true h;omega) (fun h=>Nat.le_of_ble_eq_true h)
        refine⟨_,h2,fun lab ρ a w hR u v hu hv=>?_⟩
        obtain⟨q',_,_,bT⟩:=Bf lab ρ a w hR v hv
        obtain⟨g,qn,bT⟩:=EY ez bT
        have bB:=hR.root rr _ hm
        generalize he:au.sl (.sl t' (o+2) q l)=x at bB
        cases bB with
        | blk=>cases he
        | mp=>cases he
        | gh=>cases he
        | sl uu y aq hr=>
         injection he with he
         subst he
         have sF:uu=u:=by
          have h4:=hu.2
          simp only[aP,aq]at h4
          injection h4
         subst sF
         obtain⟨v',w',af,aC,aA,dJ⟩:=hR.append (ty:=ty) (hR.cB rr gW) cK ht hi kM hsz dI dy hf hr bT qU
         exact⟨w',af,_,v',aC,aA.set ⟨dJ,by simp[aP,aJ]⟩ hd⟩
      ·cases h2
     ·cases h2
    ·cases h2
 ·cases h
end
end Go.Proofs.YtjldnlbiefpekaaDoor
namespace Go.Proofs.YtjldnlbiefpekaaDoor
open Go.RowKit
set_option linter.unusedVariables false
def qV(place:Nat->Option (Nat×Nat))(cells:List Lf):List (Nat×A)->Option (List Lf)
 | []=>some cells
 | (i,x) :: rest=>match place i,x.qS with
  | some (off,n),some xs=>if xs.length=n/\off+n<=cells.length then (bif xs.all Lf.live then qV place (cL cells off xs) rest else none)else none
  | _,_=>none
def places(P:Program)(t:TypeId):Option (Nat->Option (Nat×Nat)):=
 match P.underlying t with
 | some (.array _ e)=>(P.info? e).map fun ie=>fun i=>some (i*ie.size,ie.size)
 | some (.struct fields)=>(fields.toList.mapM (fun f=>(P.info? f.type).map fun i=>(f.offset,i.size))).map fun ps=>(ps.toArray[·]?)
 | _=>none
def nq{X:Type}(P:Program)(σ:S)(t:TypeId)(parts:List (Nat×Operand))(k:A->Option X):Option X:=
 match zeroOf P t,places P t with
 | some z,some pl=>match qV pl (z.cells.toList.map ey) (parts.map fun p=>(p.1,ah σ p.2))with
  | some cs=>k (.agg cs)
  | none=>none
 | _,_=>none
def Lf.Sq:Lf->Option V
 | .v x=>some x
 | _=>none
def nt:List Lf->Option (List V)
 | []=>some []
 | x :: xs=>match x.Sq,nt xs with
  | some y,some ys=>some (y :: ys)
  | _,_=>none
def ym(t:TC)(g:Nat):Nat->List V->Option (List (T t))
 | 0,[]=>some []
 | 0,_=>none
 | n+1,vs=>match dec t g (vs.take (aj t)),ym t g n (vs.drop (aj t))with
  | some x,some xs=>some (x :: xs)
  | _,_=>none
def sJ{X:Type}(P:Program)(N:Nat)(σ:S)(d:Nat)(t:TypeId)(len:Nat)(parts:List (Nat×Operand))(k:S->Option X):Option X:=
 match oD P t with
 | some (e,tc)=>match zeroOf P e with
  | some z=>bif Nat.beq (full tc) 0&&Nat.beq z.cells.size (aj tc)&&Nat.blt (len*aj tc) 16777217 then (match qV (fun i=>some (i*aj tc,aj tc)) (List.replicate len (z.cells.toList.map ey)).flatten (parts.map fun p=>(p.1,ah σ p.2))with
   | some cs=>(match nt cs with
    | some vs=>(match ym tc 0 len vs with
     | some l=>dR N σ d (.sl (.sl tc 2 true l)) (.lf (.own [d])) k
     | none=>none)
    | none=>none)
   | none=>none)else none
  | none=>none
 | none=>none
section
variable {P:Program} {w w':World} {w0:Wd} {B N:Nat} {lab af:aG} {ρ ρ':Nat->Loc} {σ:S} {a:Act} {X:Type} {d:Nat} {r:X}
theorem J9(off:Nat):∀ (l:List Value) (n:Nat) (cs:Array Value),off+n+l.length<=cs.size->
  ((l.zipIdx n).foldl (fun(cs:Array Value) (p:Value×Nat)=>cs.setIfInBounds (off+p.2) p.1) cs).toList=cL cs.toList (off+n) l
 | [],n,cs,_=>by simp[cL]
 | v :: l,n,cs,h=>by
  simp only[List.length_cons]at h
  rw[List.zipIdx_cons,List.foldl_cons,J9 off l (n+1) (cs.setIfInBounds (off+n) v) (by simp;omega)]
  have aV:off+n<cs.toList.length:=by simp;omega
  simp only[cL,Array.toList_setIfInBounds,List.length_cons]
  have e1:(cs.toList.set (off+n) v).take (off+(n+1))=cs.toList.take (off+n)++[v]:=by
   rw[show off+(n+1)=off+n+1 by omega,List.take_succ_eq_append_getElem (by simpa using aV),List.getElem_set_self,List.take_set_of_le (Nat.le_refl _)]
  have e2:(cs.toList.set (off+n) v).drop (off+(n+1)+l.length)=cs.toList.drop (off+(n+1)+l.length):=by
   rw[List.drop_set_of_lt (by omega)]
  rw[e1,e2,show off+n+(l.length+1)=off+(n+1)+l.length by omega]
  simp
theorem bH.cL{cs xs:List Lf}{cv xv:Array Value}(h:bH w B lab ρ cs cv)(hx:bH w B lab ρ xs xv){off:Nat}(hf:off+xs.length<=cs.length){cW:Array Value}(hc:cW.toList=Proofs.YtjldnlbiefpekaaDoor.cL cv.toList off xv.toList):bH w B lab ρ (Proofs.YtjldnlbiefpekaaDoor.cL cs off xs) cW:=by
 have Ka:off+xv.toList.length<=cv.toList.length:=by rw[Array.length_toList,Array.length_toList,hx.1,h.1];exact hf
 refine⟨?_,fun j x hj=>?_⟩
 ·rw[sx _ _ _ hf,<-Array.length_toList,hc,sx _ _ _ Ka,Array.length_toList,h.1]
 ·have e:cW[j]?=(Proofs.YtjldnlbiefpekaaDoor.cL cv.toList off xv.toList)[j]?:=by rw[<-hc,Array.getElem?_toList]
  rw[e,sy _ _ _ Ka,Array.length_toList,hx.1]
  rw[sy _ _ _ hf]at hj
  by_cases h1:j<off
  ·simp only[h1,if_true,Array.getElem?_toList]at hj ⊢
   exact h.2 j x hj
  ·by_cases h2:j<off+xs.length
   ·simp only[h1,h2,if_true,if_false,Array.getElem?_toList]at hj ⊢
    exact hx.2 _ x hj
   ·simp only[h1,h2,if_false,Array.getElem?_toList]at hj ⊢
    exact h.2 j x hj
theorem Bg{place:Nat->Option (Nat×Nat)}:∀ (parts:List (Nat×A)) (cells:List Lf) (cv:Array Value) (vs:List (Nat×Value)) (out:List Lf),qV place cells parts=some out->bH w B lab ρ cells cv->vs.length=parts.length->
  (∀ (j:Nat) p q,parts[j]?=some p->vs[j]?=some q->p.1=q.1/\RA w B lab ρ p.2 q.2)->∃ cW,Instr.fill place cv vs=some cW/\bH w B lab ρ out cW
 | [],cells,cv,vs,out,h,hR,hl,hp=>by
  have:vs=[]:=List.eq_nil_of_length_eq_zero hl
  subst this
  injection h with h
  subst h
  exact⟨cv,rfl,hR⟩
 | (i,x) :: rest,cells,cv,vs,out,h,hR,hl,hp=>by
  cases vs with
  | nil=>simp at hl
  | cons v vs=>
   obtain⟨i',v⟩:=v
   obtain⟨e,hx⟩:=hp 0 _ _ rfl rfl
   simp only at e hx
   subst e
   unfold qV at h
   split at h
   ·rename_i off n xs eT dB
    split at h
    ·rename_i U
     cases eL:xs.all Lf.live with
     | false=>rw[eL]at h;cases h
     | true=>
      rw[eL,cond_true]at h
      obtain⟨Kb,_⟩:=ye dB eL hx
      have l8:v.cells.size=n:=by rw[Kb.1];exact U.1
      have fD:¬ (off+v.cells.size > cv.size):=by rw[l8,hR.1];omega
      have Sr:(v.cells.zipIdx.foldl (fun(cs:Array Value) (p:Value×Nat)=>cs.setIfInBounds (off+p.2) p.1) cv).toList=Proofs.YtjldnlbiefpekaaDoor.cL cv.toList off v.cells.toList:=by
       have:=J9 off v.cells.toList 0 cv (by rw[Array.length_toList];omega)
       rw[<-Array.foldl_toList,Array.toList_zipIdx]
       exact this
      have gy:=hR.cL Kb (off:=off) (by rw[U.1];exact U.2) Sr
      obtain⟨cW,bO,aA⟩:=Bg rest _ _ vs out h gy (by simpa using hl) (fun j p q hp' gx=>hp (j+1) p q (by simpa using hp') (by simpa using gx))
      refine⟨cW,?_,aA⟩
      have az:(v.cells.size≠n || off+v.cells.size > cv.size)=false:=by
       simp only[l8,ne_eq,not_true_eq_false,decide_false,Bool.false_or,decide_eq_false_iff_not]
       rw[<-l8]
       exact fD
      simp only[Instr.fill,eT]
      rw[if_neg (by rw[az];simp)]
      exact bO
    ·cases h
   ·cases h
theorem Ss(z:Value):bH w B lab ρ (z.cells.toList.map ey) z.cells:=by
 refine⟨by simp,fun j x hx=>?_⟩
 rw[List.getElem?_map]at hx
 cases hv:z.cells.toList[j]? with
 | none=>rw[hv]at hx;cases hx
 | some v=>
  rw[hv]at hx
  injection hx with hx
  subst hx
  exact⟨v,by simpa using hv,Bb v⟩
theorem Su{t:TypeId}{parts:Array (Nat×Operand)}{k:A->Option X}(h:nq P σ t parts.toList k=some r):∃ y,k y=some r/\∀ lab ρ a w,Rl w0 N lab ρ σ a w->
  ∃ v,(Instr.build t (parts.map fun(i,x)=>(i,a.eval x))).run P w = .ok v w/\RA w w0.heap.size lab ρ y v:=by
 unfold nq at h
 split at h
 ·rename_i z pl hz eT
  split at h
  ·rename_i cs bU
   refine⟨_,h,fun lab ρ a w hR=>?_⟩
   obtain⟨cW,hf,aA⟩:=Bg (w:=w) (B:=w0.heap.size) (lab:=lab) (ρ:=ρ) _ _ z.cells (parts.toList.map fun p=>(p.1,a.eval p.2)) cs bU (Ss z) (by simp) (fun j p q hp hq=>by
    rw[List.getElem?_map]at hp hq
    cases hx:parts.toList[j]? with
    | none=>rw[hx]at hp;cases hp
    | some x=>
     rw[hx]at hp hq
     injection hp with hp
     injection hq with hq
     subst hp hq
     exact⟨rfl,hR.ah x.2⟩)
   refine⟨_,run_build (P:=P) w t _ cW ?_,cW,rfl,aA⟩
   have yp:(parts.map fun(i,x)=>(i,a.eval x)).toList=parts.toList.map fun p=>(p.1,a.eval p.2):=by simp
   rw[yp]
   unfold zeroOf at hz
   unfold Program.built
   cases hi:P.info? t with
   | none=>simp[hi]at hz
   | some i=>
    have hz:i.zero=some z:=by simpa [hi]using hz
    unfold places at eT
    split at eT
    ·rename_i n e hu
     cases E0:P.info? e with
     | none=>simp[E0]at eT
     | some ie=>
      rw[E0]at eT
      injection eT with eT
      subst eT
      simp only[hu,hz,E0]
      exact hf
    ·rename_i fields hu
     cases hp:fields.toList.mapM (fun f=>(P.info? f.type).map fun i=>(f.offset,i.size))with
     | none=>rw[hp]at eT;cases eT
     | some ps=>
      rw[hp]at eT
      injection eT with eT
      subst eT
      simp only[hu,hz,hp]
      exact hf
    ·cases eT
  ·cases h
 ·cases h
theorem Bh:∀ (cs:List Lf) (vs:List V),nt cs=some vs->cs=vs.map .v
 | [],vs,h=>by injection h with h;subst h;rfl
 | x :: xs,vs,h=>by
  unfold nt at h
  split at h
  ·rename_i y ys hy iM
   injection h with h
   subst h
   rw[Bh xs ys iM,List.map_cons]
   cases x <;>first | (injection hy with hy;rw[hy]) | cases hy
  ·cases h
theorem E1(t:TC)(g:Nat):∀ (n:Nat) (vs:List V) (l:List (T t)),ym t g n vs=some l->l.length=n/\vs.length=n*aj t/\∀ i (hi:i<l.length) (j:Nat) x,(enc t g l[i])[j]?=some x->∃ y,vs[i*aj t+j]?=some y/\Wk y x
 | 0,[],l,h=>by
  injection h with h
  subst h
  exact⟨rfl,by simp,fun i hi=>by simp at hi⟩
 | 0,_ :: _,l,h=>by cases h
 | n+1,vs,l,h=>by
  unfold ym at h
  split at h
  ·rename_i x xs hx dB
   injection h with h
   subst h
   obtain⟨h1,h2,h3⟩:=E1 t g n _ xs dB
   have hk:=gS t g _ x hx
   have hlen:(vs.take (aj t)).length=aj t:=by rw[hk.1,iF]
   have jt:aj t<=vs.length:=by rw[List.length_take]at hlen;omega
   refine⟨by simp[h1],?_,fun i hi j y hy=>?_⟩
   ·rw[List.length_drop]at h2
    rw[Nat.succ_mul]
    omega
   ·cases i with
    | zero=>
     simp only[List.getElem_cons_zero]at hy
     have hj:j<aj t:=by have:=(List.getElem?_eq_some_iff.1 hy).1;rwa [iF]at this
     have cA:=List.getElem?_eq_getElem (l:=vs.take (aj t)) (i:=j) (by rw[hlen];exact hj)
     refine⟨_,?_,hk.2 j _ y cA hy⟩
     rw[List.getElem?_take,if_pos hj]at cA
     rw[Nat.zero_mul,Nat.zero_add]
     exact cA
    | succ i=>
     simp only[List.getElem_cons_succ]at hy
     obtain⟨z,hz,hw⟩:=h3 i (by simpa using hi) j y hy
     refine⟨z,?_,hw⟩
     rw[List.getElem?_drop]at hz
     rw[Nat.succ_mul,show i*aj t+aj t+j=aj t+(i*aj t+j) by omega]
     exact hz
  ·cases h
end
end Go.Proofs.YtjldnlbiefpekaaDoor
namespace Go.Proofs.YtjldnlbiefpekaaDoor
open Go.RowKit
set_option linter.unusedVariables false
section
variable {P:Program} {w w':World} {w0:Wd} {B N:Nat} {lab af:aG} {ρ ρ':Nat->Loc} {σ:S} {a:Act} {X:Type} {d:Nat} {r:X}
theorem RV.under{k:List Nat}{x:V}{v:Value}{n:Nat}(h:RV w B lab k x v)(hk:1<k.length\/x.av=true)(hz:w.heap.size<=w'.heap.size)(U:∀ b,b<w.heap.size->lab b≠some [n]->w'.heap[b]?=w.heap[b]?)(hl:∀ b,b<w.heap.size->af b=lab b):RV w' B af k x v:=by
 induction h with
 | int=>exact .int _ _ _
 | bool=>exact .bool _ _
 | str=>exact .str _ _
 | nil=>exact .nil _
 | aY=>exact .aY _ _ _
 | bn=>exact .bn _ _ _ _ _ (by first | assumption | omega)
 | bF=>exact .bF _ _ _ _ _ (by first | assumption | omega)
 | av q t o qn l b off cap u ho bI eA h1 hcap hc hr ih=>
  have az:lab b≠some [n]:=by rw[bI];simp
  exact .av _ _ _ _ _ _ _ _ u ho ((hl b eA).trans bI) (Nat.lt_of_lt_of_le eA hz) h1 hcap (fun i h j x hx=>(World.cell?_of_block (a:=⟨b,_,none⟩) (U b eA az)).trans (hc i h j x hx)) (fun i h j x hx=>ih i h j x hx (.inr (fP t o l[i] ho j x hx)))
 | own q t o qn l b cap cs u bI hh hs hn hm hc hr ih=>
  have eA:b<w.heap.size:=(Array.getElem?_eq_some_iff.1 hh).1
  have hq:1<q.length:=by
   rcases hk with hk | hk
   ·exact hk
   ·simp[V.av]at hk;omega
  have az:lab b≠some [n]:=by
   rw[bI]
   intro e
   injection e with e
   rw[e]at hq
   simp at hq
  exact .own _ _ _ _ _ _ _ cs u ((hl b eA).trans bI) ((U b eA az).trans hh) hs hn hm hc (fun i h j x hx=>ih i h j x hx (.inl (by simp)))
def l9(w:World)(B:Nat)(lab:aG)(n t0:Nat)(t:TC)(o:Nat)(l:List (T t))(vs:List Value):Prop:=
 ∀ i (hi:i<l.length) j x,(enc t o l[i])[j]?=some x->∃ v,vs[i*aj t+j]?=some v/\RV w B lab (j :: (t0+i) :: aj t :: [n]) x v
theorem RV.Sv{n:Nat}{t:TC}{o:Nat}{qn:Bool}{l:List (T t)}{u:Value}(h:RV w B lab [n] (.sl t (o+2) qn l) u){B':Nat}(hB:∀ b,lab b=some [n]->B'<=b):
  ∃ xs,w.ownsRow B' (tid t) (aj t) u l.length xs/\(∀ b,u.ownBlock=some b->lab b=some [n])/\(qn=true->u.ownBlock≠none)/\l9 w B lab n 0 t o l xs:=by
 cases h with
 | bn=>omega
 | bF=>omega
 | aY=>exact⟨[],⟨by simp,.inl ⟨rfl,rfl⟩⟩,by simp[Value.ownBlock],by simp,fun i hi=>by simp at hi⟩
 | av _ _ _ _ _ _ _ _ _ ho=>omega
 | own _ _ _ _ _ b cap cs us hl hh hs hn hm hc hr=>
  refine⟨cs.toList.take (l.length*aj t),⟨?_,.inr ⟨b,cap,cs,rfl,hB b hl,hh,hn,hm.1,hs,rfl⟩⟩,fun b' gV=>?_,fun _=>by simp[Value.ownBlock],fun i hi j x hx=>?_⟩
  ·have bV:cs.toList.length=cap*aj t:=by rw[<-hs];simp
   rw[List.length_take,bV]
   have:=Nat.mul_le_mul_right (aj t) hn
   omega
  ·have:b=b':=by simpa [Value.ownBlock]using gV
   subst this
   exact hl
  ·have hj:j<aj t:=by have:=(List.getElem?_eq_some_iff.1 hx).1;rwa [iF]at this
   have aV:i*aj t+j<l.length*aj t:=by
    have:(i+1)*aj t<=l.length*aj t:=Nat.mul_le_mul_right _ hi
    rw[Nat.succ_mul]at this
    omega
   refine⟨us i j,?_,by rw[Nat.zero_add];exact hr i hi j x hx⟩
   rw[List.getElem?_take,if_pos aV,Array.getElem?_toList]
   exact hc i hi j x hx
theorem l9.append{n:Nat}{t:TC}{o:Nat}{l l2:List (T t)}{xs ys:List Value}(h:l9 w B lab n 0 t o l xs)(h2:l9 w B lab n l.length t o l2 ys)(hl:xs.length=l.length*aj t):l9 w B lab n 0 t o (l++l2) (xs++ys):=by
 intro i hi j x hx
 have hj:j<aj t:=by have:=(List.getElem?_eq_some_iff.1 hx).1;rwa [iF]at this
 by_cases aV:i<l.length
 ·rw[List.getElem_append_left aV]at hx
  obtain⟨v,hv,r⟩:=h i aV j x hx
  refine⟨v,?_,r⟩
  rw[List.getElem?_append_left (List.getElem?_eq_some_iff.1 hv).1]
  exact hv
 ·rw[List.getElem_append_right (by omega)]at hx
  have EW:i-l.length<l2.length:=by rw[List.length_append]at hi;omega
  obtain⟨v,hv,r⟩:=h2 (i-l.length) EW j x hx
  refine⟨v,?_,?_⟩
  ·have e:i*aj t+j=xs.length+((i-l.length)*aj t+j):=by
    rw[hl,Nat.sub_mul]
    have:l.length*aj t<=i*aj t:=Nat.mul_le_mul_right _ (by omega)
    omega
   rw[e,List.getElem?_append_right (by omega),Nat.add_sub_cancel_left]
   exact hv
  ·have e:0+i=l.length+(i-l.length):=by omega
   rw[e]
   exact r
theorem l9.under{n t0:Nat}{t:TC}{o:Nat}{l:List (T t)}{vs:List Value}(h:l9 w B lab n t0 t o l vs)(hz:w.heap.size<=w'.heap.size)(U:∀ b,b<w.heap.size->lab b≠some [n]->w'.heap[b]?=w.heap[b]?)(hl:∀ b,b<w.heap.size->af b=lab b):l9 w' B af n t0 t o l vs:=
 fun i hi j x hx=>let ⟨v,hv,r⟩:=h i hi j x hx;⟨v,hv,r.under (.inl (by simp)) hz U hl⟩
theorem Kc{n:Nat}{t:TC}{o:Nat}{l:List (T t)}{u:Value}{xs:List Value}{B':Nat}(h:w.ownsRow B' (tid t) (aj t) u l.length xs)(he:l9 w B lab n 0 t o l xs)(hl:∀ b,u.ownBlock=some b->lab b=some [n]):
  RV w B lab [n] (.sl t (o+2) false l) u:=by
 rcases h.2 with ⟨rfl,h0⟩ | ⟨b,cap,cs,rfl,hB,hh,hn,hm,hs,ht⟩
 ·have:l=[]:=List.eq_nil_of_length_eq_zero h0
  subst this
  exact .aY _ _ _
 ·have gA:∀ i (hi:i<l.length) j x,(enc t o l[i])[j]?=some x->∃ v,cs[i*aj t+j]?=some v/\RV w B lab (j :: i :: aj t :: [n]) x v:=by
   intro i hi j x hx
   obtain⟨v,hv,r⟩:=he i hi j x hx
   rw[Nat.zero_add]at r
   refine⟨v,?_,r⟩
   rw[<-ht,List.getElem?_take]at hv
   split at hv
   ·rw[Array.getElem?_toList]at hv;exact hv
   ·cases hv
  refine .own [n] t o false l b cap cs (fun i j=>(cs[i*aj t+j]?).getD undef) (hl b rfl) hh hs hn ⟨hm,fun h=>by cases h⟩ (fun i hi j x hx=>?_) (fun i hi j x hx=>?_)
  ·obtain⟨v,hv,_⟩:=gA i hi j x hx
   rw[hv];rfl
  ·obtain⟨v,hv,r⟩:=gA i hi j x hx
   rw[hv];exact r
theorem Rl.Sw{t e ty:TypeId}{tc:TC}{i:TypeInfo}{z:Value}{rr o m c:Nat}{q:Bool}{l l2:List (T tc)}{u:Value}{ad:Option Addr}{news:List Value}(h:Rl w0 N lab ρ σ a w)(hF:w0.F rr=none)(cK:P.underlying t=some (.slice e))(ht:tid tc=e)(hi:P.info? e=some i)(hz:i.zero=some z)
  (hsz:i.size=aj tc) (dI:i.bytes<=65536) (dy:z.cells.size=aj tc) (hd:RV w w0.heap.size lab [rr] (.sl tc (o+2) q l) u) (oH:Reads w w.heap.size (aj tc) ad m news) (gB:∀ v∈news,v.oneCell'=true) (hm:m=l2.length)
  (sI:l9 w w0.heap.size lab rr l.length tc o l2 news) (hlen:l.length+l2.length<1073741824):
  ∃ v' w' af,(Builtin.append_ #[t,t] ty #[u,.slice ad m c]).run P w = .ok v' w'/\Rl w0 N af (aH ρ rr (.bS v')) ((σ.drop rr).root rr (.sl (.sl tc (o+2) false (l++l2)))) a w'/\gT v'=true:=by
 subst ht hm
 obtain⟨xs,er,jX,vi,iN⟩:=hd.Sv (B':=0) (fun b _=>Nat.zero_le b)
 have ew:(l.length+l2.length)*i.bytes<=140737488355328:=by
  have h1:(l.length+l2.length)*i.bytes<=1073741824*65536:=Nat.mul_le_mul (by omega) dI
  omega
 obtain⟨v',w',aC,ga,eV,eA⟩:=Da (P:=P) w 0 t ty (tid tc) i z (aj tc) i.bytes cK hi hz hsz rfl dy (lF tc) u l.length xs er _ ad l2.length c news oH gB (by unfold maxLen;omega) ew (Nat.zero_le _)
 have oI:(l++l2).length=l.length+l2.length:=List.length_append
 rw[<-oI]at ga
 have nj:=iN.append sI er.1
 have dJ:gT v'=true:=by rcases ga.2 with ⟨rfl,_⟩ | ⟨_,_,_,rfl,_⟩ <;>rfl
 have gD:Below 0 w w':=(Below.refl 0 w).grown eV (Nat.zero_le _) (fun _ _=>Nat.zero_le _)
 have c8:eD w0 w w':=⟨gD.os,gD.tape,gD.output,gD.size,fun k hk hL=>eV.block k (Nat.lt_of_lt_of_le hk h.below.size) (fun e'=>by
  rcases(h.bf k _ (jX k e'.symm)).1 with h1 | h1
  ·exact absurd hk (Nat.not_lt.2 h1)
  ·exact h1 hL)⟩
 have oJ:∀ b,b<w.heap.size->lab b≠some [rr]->w'.heap[b]?=w.heap[b]?:=fun b U az=>eV.block b U (fun e'=>az (jX b e'.symm))
 by_cases jb:v'.ownBlock=some w.heap.size
 ·have aV:w.heap.size<w'.heap.size:=by
   rcases ga.2 with ⟨rfl,_⟩ | ⟨b,cap,cs,rfl,_,hh,_⟩
   ·cases jb
   ·have:b=w.heap.size:=by simpa [Value.ownBlock]using jb
    subst this
    exact(Array.getElem?_eq_some_iff.1 hh).1
  have cY:∀ b,b<w.heap.size->aH lab w.heap.size (some [rr]) b=lab b:=fun b U=>aQ _ _ _ (by omega)
  refine⟨v',w',aH lab w.heap.size (some [rr]),aC,h.oB hF c8 ⟨eV.size,oJ,cY,fun b U=>(h.bf b [] U).2.2 rfl⟩ (fun b k U hk=>?_) (fun r hr=>aQ _ _ _ hr) (.sl v' _ (aJ _ _ _) (Kc ga (nj.under eV.size oJ cY) (fun b U=>?_))),dJ⟩
  ·by_cases e:b=w.heap.size
   ·subst e
    rw[aJ]at hk
    injection hk with hk
    subst hk
    exact⟨aV,by simp⟩
   ·rw[aQ _ _ _ e]at hk
    have:=(h.bf b k hk).2.1
    omega
  ·rw[jb]at U
   injection U with U
   subst U
   exact aJ _ _ _
 ·have yl:v'.ownBlock=u.ownBlock:=by
   rcases eA with eA | eA
   ·exact eA
   ·exact absurd eA jb
  refine⟨v',w',lab,aC,h.oB hF c8 ⟨eV.size,oJ,fun _ _=>rfl,fun b U=>(h.bf b [] U).2.2 rfl⟩ (fun b k U hk=>?_) (fun r hr=>aQ _ _ _ hr) (.sl v' _ (aJ _ _ _) (Kc ga (nj.under eV.size oJ (fun _ _=>rfl)) (fun b U=>jX b (by rw[<-yl];exact U)))),dJ⟩
  have:=(h.bf b k hk).2.1
  omega
end
end Go.Proofs.YtjldnlbiefpekaaDoor
