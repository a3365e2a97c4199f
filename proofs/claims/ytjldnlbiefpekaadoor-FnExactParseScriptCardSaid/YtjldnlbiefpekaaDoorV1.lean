/-
  Running the program over pure contents, and that it follows (part 1). Nothing here is a claim.
-/
import Derived.Test.YtjldnlbiefpekaaDoorAppend
import Derived.Test.YtjldnlbiefpekaaDoorLaws
import Derived.Handy
import Derived.Great.BuildSlice
set_option linter.unusedSimpArgs false
namespace Go.Proofs.YtjldnlbiefpekaaDoor
open Go.RowKit
set_option linter.unusedVariables false
set_option linter.unusedSimpArgs false
structure xU where
 Ex:Int
 vo:Int
 rows:Int
 Ey:Int
structure mE where
 cO:Int
 row:Int
 dZ:Int
structure xV where
 order:Int
 hash:Bool
structure BL where
 owner:List Int
structure s7 where
 kind:Int
 cO:Int
 row:Int
 dZ:Int
structure xW where
 Ez:Int
 rp:Int
 EA:Int
 EB:Int
 EC:Int
 ED:Int
 EE:Int
 EF:Int
 EG:Int
 wr:Int
 EH:Int
 EI:Int
 EJ:Int
 EK:Int
 EL:Int
 xp:Int
 xs:Int
structure xX where
 open_:Bool
 row:Int
structure xY where
 vo:List xX
 vp:Int
structure xZ where
 at_:Int
 cmd:s7
structure ya where
 last:List Int
 bq:List Int
structure s8 where
 symbols:List Int
 EM:Bool
structure yb where
 cells:List s8
 vr:List Int
 vt:List Int
structure yc where
 vr:Int
 vt:Int
structure yd where
 rows:List Int
 counts:List Int
 R1:Int
structure ye where
 yf:Int
 map:List Int
structure yg where
 J8:List Int
 wait:Int
 qS:Bool
structure lT where
 id:Int
 de:Int
 line:Int
 write:Bool
 data:Int
 at_:Int
structure yh where
 weight:Int
 R2:Int
structure yj where
 on:Bool
 low:Int
 high:Int
structure BM where
 owner:List Int
 length:Int
structure BN where
 id:Int
 at_:Int
structure yl where
 state:Int
 since:Int
 idle:Int
structure oM where
 down:Int
 sleep:Int
structure ym where
 line:Int
 code:Int
 times:Int
structure BO where
 R3:List ByteArray
structure BP where
 R4:List Int
 next:Int
structure BQ where
 count:Int
 commands:List s7
structure vu where
 count:Int
 tag:Int
structure yp where
 root:Int
 mid:List vu
 leaf:List vu
structure BR where
 key:Int
 tree:yp
 data:List Int
 tags:List Int
structure yu where
 next:Int
 every:Int
 wait:Int
structure BS where
 index:Int
 before:s8
 after:s8
 code:Int
structure BT where
 cO:Int
 from_:Int
 to:Int
 next:Int
structure gZ where
 dr:Int
 cap:Int
 dw:Int
 low:Int
 high:Int
 weights:List Int
 bP:oM
structure yw where
 jm:gZ
 next:gZ
 waits:Bool
structure yx where
 qT:xU
 dx:xW
 mapping:xV
 yf:Int
 interval:Int
 J9:Int
 BU:yc
structure yz where
 id:Int
 at_:Int
 data:Int
 code:Int
structure yA where
 config:yx
 box:yw
 now:Int
 Ka:xY
 ready:ya
 array:yb
 spare:ye
 EN:yg
 R5:List yd
 guard:List Int
 pending:List mE
 queue:List lT
 shares:List yh
 drain:yj
 vp:yl
 EO:yu
 errors:List ym
 trace:List xZ
 R6:List yz
structure aC where
 kind:Int
 request:lT
 n:Int
 cz:Int
 addr:mE
 ak:gZ
structure BV where
 line:Int
 data:Int
 code:Int
structure BW where
 b:List Int
 i:Int
 h:Int
inductive TC where
 | int | u8 | bool | str
 | qU
 | Addr
 | qV
 | qW
 | Command
 | qX
 | lU
 | qY
 | Event
 | qZ
 | Cell
 | Array
 | q7
 | nP
 | q8
 | q9
 | lV
 | nQ
 | rm
 | rq
 | ru
 | Power
 | nR
 | nS
 | rz
 | rA
 | Receiver
 | Node
 | Tree
 | rB
 | rC
 | rD
 | Move
 | lW
 | rE
 | Config
 | nT
 | oN
 | Act
 | Fact
 | rF
 | sl (t:TC)
 | vw
 | vz (g:Nat)
 | vA (g:Nat)
 | vB (g:Nat)
 | fnCommand (g:Nat)
deriving DecidableEq
def T:TC->Type
 | .int=>Int
 | .u8=>Int
 | .bool=>Bool
 | .str=>ByteArray
 | .qU=>xU
 | .Addr=>mE
 | .qV=>xV
 | .qW=>BL
 | .Command=>s7
 | .qX=>xW
 | .lU=>xX
 | .qY=>xY
 | .Event=>xZ
 | .qZ=>ya
 | .Cell=>s8
 | .Array=>yb
 | .q7=>yc
 | .nP=>yd
 | .q8=>ye
 | .q9=>yg
 | .lV=>lT
 | .nQ=>yh
 | .rm=>yj
 | .rq=>BM
 | .ru=>BN
 | .Power=>yl
 | .nR=>oM
 | .nS=>ym
 | .rz=>BO
 | .rA=>BP
 | .Receiver=>BQ
 | .Node=>vu
 | .Tree=>yp
 | .rB=>BR
 | .rC=>yu
 | .rD=>BS
 | .Move=>BT
 | .lW=>gZ
 | .rE=>yw
 | .Config=>yx
 | .nT=>yz
 | .oN=>yA
 | .Act=>aC
 | .Fact=>BV
 | .rF=>BW
 | .sl t=>List (T t)
 | .vw=>yA
 | .vz _=>Int
 | .vA _=>lT
 | .vB _=>mE
 | .fnCommand _=>s7
def aj:TC->Nat
 | .vw=>76
 | .vz _=>3
 | .vA _=>8
 | .vB _=>5
 | .fnCommand _=>6
 | .qU=>4
 | .Addr=>3
 | .qV=>2
 | .qW=>1
 | .Command=>4
 | .qX=>17
 | .lU=>2
 | .qY=>2
 | .Event=>5
 | .qZ=>2
 | .Cell=>2
 | .Array=>3
 | .q7=>2
 | .nP=>3
 | .q8=>2
 | .q9=>3
 | .lV=>6
 | .nQ=>2
 | .rm=>3
 | .rq=>2
 | .ru=>2
 | .Power=>3
 | .nR=>2
 | .nS=>3
 | .rz=>1
 | .rA=>2
 | .Receiver=>2
 | .Node=>2
 | .Tree=>3
 | .rB=>6
 | .rC=>3
 | .rD=>6
 | .Move=>4
 | .lW=>8
 | .rE=>17
 | .Config=>28
 | .nT=>4
 | .oN=>75
 | .Act=>20
 | .Fact=>3
 | .rF=>3
 | _=>1
def full:TC->Nat
 | .int | .u8 | .bool | .str=>0
 | .qU=>0
 | .Addr=>0
 | .qV=>0
 | .qW=>2
 | .Command=>0
 | .qX=>0
 | .lU=>0
 | .qY=>2
 | .Event=>0
 | .qZ=>2
 | .Cell=>2
 | .Array=>4
 | .q7=>0
 | .nP=>2
 | .q8=>2
 | .q9=>2
 | .lV=>0
 | .nQ=>0
 | .rm=>0
 | .rq=>2
 | .ru=>0
 | .Power=>0
 | .nR=>0
 | .nS=>0
 | .rz=>2
 | .rA=>2
 | .Receiver=>2
 | .Node=>0
 | .Tree=>2
 | .rB=>2
 | .rC=>0
 | .rD=>2
 | .Move=>0
 | .lW=>2
 | .rE=>2
 | .Config=>0
 | .nT=>0
 | .oN=>4
 | .Act=>2
 | .Fact=>0
 | .rF=>2
 | .sl t=>full t+2
 | .vw=>4
 | .vz _=>0
 | .vA _=>0
 | .vB _=>0
 | .fnCommand _=>0
def tid:TC->TypeId
 | .int=>3
 | .u8=>5
 | .bool=>4
 | .str=>9
 | .qU=>0
 | .Addr=>25
 | .qV=>0
 | .qW=>0
 | .Command=>0
 | .qX=>0
 | .lU=>0
 | .qY=>0
 | .Event=>0
 | .qZ=>0
 | .Cell=>0
 | .Array=>0
 | .q7=>0
 | .nP=>0
 | .q8=>0
 | .q9=>0
 | .lV=>23
 | .nQ=>0
 | .rm=>0
 | .rq=>0
 | .ru=>0
 | .Power=>0
 | .nR=>28
 | .nS=>0
 | .rz=>0
 | .rA=>0
 | .Receiver=>0
 | .Node=>0
 | .Tree=>0
 | .rB=>0
 | .rC=>0
 | .rD=>0
 | .Move=>0
 | .lW=>30
 | .rE=>0
 | .Config=>0
 | .nT=>0
 | .oN=>0
 | .Act=>32
 | .Fact=>0
 | .rF=>0
 | .sl .int=>26
 | .sl .bool=>0
 | .sl .str=>43
 | _=>0
inductive V where
 | int (k:IntKind) (n:Int)
 | bool (b:Bool)
 | str (s:ByteArray)
 | nil
 | sl (t:TC) (o:Nat) (q:Bool) (l:List (T t))
def V.ay:V->Option Int | .int .i64 n=>some n | _=>none
def V.EP:V->Option Int | .int .u8 n=>some n | _=>none
def V.hG:V->Option Bool | .bool b=>some b | _=>none
def V.ER:V->Option ByteArray | .str s=>some s | _=>none
def V.bS(t:TC)(o:Nat):V->Option (List (T t))
 | .sl t' o' _ l=>bif Nat.beq o' o || (Nat.ble (full t+2) o'&&Nat.ble (full t+2) o)then (if h:t'=t then some (h ▸ l)else none)else none
 | .nil=>some []
 | _=>none
inductive Wk:V->V->Prop
 | same (x:V):Wk x x
 | nil (t:TC) (o:Nat):Wk .nil (.sl t o false [])
 | q (t:TC) (o:Nat) (l:List (T t)):Wk (.sl t o true l) (.sl t o false l)
 | gr (t:TC) (o o':Nat) (qn:Bool) (l:List (T t)) (h:full t+2<=o) (h':full t+2<=o'):Wk (.sl t o' qn l) (.sl t o false l)
def aL(xs ys:List V):Prop:=xs.length=ys.length/\∀ (j:Nat) (x y:V),xs[j]?=some x->ys[j]?=some y->Wk x y
theorem aL.nil:aL [] []:=⟨rfl,by simp⟩
theorem aL.cons{x y:V}{xs ys:List V}(h:Wk x y)(k:aL xs ys):aL (x :: xs) (y :: ys):=by
 refine⟨by simp[k.1],fun j a b ha U=>?_⟩
 cases j with
 | zero=>simp at ha U;subst ha;subst U;exact h
 | succ j=>simp at ha U;exact k.2 j a b ha U
theorem V.az{x:V}{n:Int}(h:x.ay=some n):Wk x (.int .i64 n):=by
 unfold V.ay at h;split at h <;>first | (injection h with h;subst h;exact .same _) | cases h
theorem V.R7{x:V}{n:Int}(h:x.EP=some n):Wk x (.int .u8 n):=by
 unfold V.EP at h;split at h <;>first | (injection h with h;subst h;exact .same _) | cases h
theorem V.jo{x:V}{n:Bool}(h:x.hG=some n):Wk x (.bool n):=by
 unfold V.hG at h;split at h <;>first | (injection h with h;subst h;exact .same _) | cases h
theorem V.R8{x:V}{n:ByteArray}(h:x.ER=some n):Wk x (.str n):=by
 unfold V.ER at h;split at h <;>first | (injection h with h;subst h;exact .same _) | cases h
theorem V.bW{x:V}{t:TC}{o:Nat}{l:List (T t)}(h:x.bS t o=some l):Wk x (.sl t o false l):=by
 unfold V.bS at h
 split at h
 ·rename_i t' o' q l'
  cases hc:(Nat.beq o' o || (Nat.ble (full t+2) o'&&Nat.ble (full t+2) o))with
  | false=>rw[hc]at h;cases h
  | true=>
   rw[hc,cond_true]at h
   split at h
   ·rename_i ht
    subst ht
    injection h with h
    subst h
    rw[Bool.or_eq_true,Bool.and_eq_true]at hc
    rcases hc with hc | hc
    ·obtain rfl:=Nat.eq_of_beq_eq_true hc
     cases q
     ·exact .same _
     ·exact .q _ _ _
    ·exact .gr _ _ _ _ _ (Nat.le_of_ble_eq_true hc.2) (Nat.le_of_ble_eq_true hc.1)
   ·cases h
 ·injection h with h;subst h;exact .nil _ _
 ·cases h
def vC(o:Nat)(x:xU):List V:=[.int .i64 x.Ex,.int .i64 x.vo,.int .i64 x.rows,.int .i64 x.Ey]
def rG(o:Nat)(x:mE):List V:=[.int .i64 x.cO,.int .i64 x.row,.int .i64 x.dZ]
def vD(o:Nat)(x:xV):List V:=[.int .i64 x.order,.bool x.hash]
def yB(o:Nat)(x:BL):List V:=[.sl .int o false x.owner]
def rH(o:Nat)(x:s7):List V:=[.int .i64 x.kind,.int .i64 x.cO,.int .i64 x.row,.int .i64 x.dZ]
def vE(o:Nat)(x:xW):List V:=[.int .i64 x.Ez,.int .i64 x.rp,.int .i64 x.EA,.int .i64 x.EB,.int .i64 x.EC,.int .i64 x.ED,.int .i64 x.EE,.int .i64 x.EF,.int .i64 x.EG,.int .i64 x.wr,.int .i64 x.EH,.int .i64 x.EI,.int .i64 x.EJ,.int .i64 x.EK,.int .i64 x.EL,.int .i64 x.xp,.int .i64 x.xs]
def vF(o:Nat)(x:xX):List V:=[.bool x.open_,.int .i64 x.row]
def yC(o:Nat)(x:xY):List V:=[.sl .lU o false x.vo,.int .i64 x.vp]
def vG(o:Nat)(x:xZ):List V:=[.int .i64 x.at_,.int .i64 x.cmd.kind,.int .i64 x.cmd.cO,.int .i64 x.cmd.row,.int .i64 x.cmd.dZ]
def yD(o:Nat)(x:ya):List V:=[.sl .int o false x.last,.sl .int o false x.bq]
def yE(o:Nat)(x:s8):List V:=[.sl .int o false x.symbols,.bool x.EM]
def yF(o:Nat)(x:yb):List V:=[.sl .Cell o false x.cells,.sl .int o false x.vr,.sl .int o false x.vt]
def vH(o:Nat)(x:yc):List V:=[.int .i64 x.vr,.int .i64 x.vt]
def yG(o:Nat)(x:yd):List V:=[.sl .int o false x.rows,.sl .int o false x.counts,.int .i64 x.R1]
def yH(o:Nat)(x:ye):List V:=[.int .i64 x.yf,.sl .int o false x.map]
def yI(o:Nat)(x:yg):List V:=[.sl .int o false x.J8,.int .i64 x.wait,.bool x.qS]
def rI(o:Nat)(x:lT):List V:=[.int .i64 x.id,.int .i64 x.de,.int .i64 x.line,.bool x.write,.int .i64 x.data,.int .i64 x.at_]
def vI(o:Nat)(x:yh):List V:=[.int .i64 x.weight,.int .i64 x.R2]
def vJ(o:Nat)(x:yj):List V:=[.bool x.on,.int .i64 x.low,.int .i64 x.high]
def yJ(o:Nat)(x:BM):List V:=[.sl .int o false x.owner,.int .i64 x.length]
def vL(o:Nat)(x:BN):List V:=[.int .i64 x.id,.int .i64 x.at_]
def vM(o:Nat)(x:yl):List V:=[.int .i64 x.state,.int .i64 x.since,.int .i64 x.idle]
def vN(o:Nat)(x:oM):List V:=[.int .i64 x.down,.int .i64 x.sleep]
def vO(o:Nat)(x:ym):List V:=[.int .i64 x.line,.int .i64 x.code,.int .i64 x.times]
def yK(o:Nat)(x:BO):List V:=[.sl .str o false x.R3]
def yL(o:Nat)(x:BP):List V:=[.sl .int o false x.R4,.int .i64 x.next]
def yM(o:Nat)(x:BQ):List V:=[.int .i64 x.count,.sl .Command o false x.commands]
def vP(o:Nat)(x:vu):List V:=[.int .i64 x.count,.int .i64 x.tag]
def yN(o:Nat)(x:yp):List V:=[.int .i64 x.root,.sl .Node o false x.mid,.sl .Node o false x.leaf]
def yO(o:Nat)(x:BR):List V:=[.int .i64 x.key,.int .i64 x.tree.root,.sl .Node o false x.tree.mid,.sl .Node o false x.tree.leaf,.sl .int o false x.data,.sl .int o false x.tags]
def vQ(o:Nat)(x:yu):List V:=[.int .i64 x.next,.int .i64 x.every,.int .i64 x.wait]
def yP(o:Nat)(x:BS):List V:=[.int .i64 x.index,.sl .int o false x.before.symbols,.bool x.before.EM,.sl .int o false x.after.symbols,.bool x.after.EM,.int .i64 x.code]
def vR(o:Nat)(x:BT):List V:=[.int .i64 x.cO,.int .i64 x.from_,.int .i64 x.to,.int .i64 x.next]
def yQ(o:Nat)(x:gZ):List V:=[.int .i64 x.dr,.int .i64 x.cap,.int .i64 x.dw,.int .i64 x.low,.int .i64 x.high,.sl .int o false x.weights,.int .i64 x.bP.down,.int .i64 x.bP.sleep]
def yR(o:Nat)(x:yw):List V:=[.int .i64 x.jm.dr,.int .i64 x.jm.cap,.int .i64 x.jm.dw,.int .i64 x.jm.low,.int .i64 x.jm.high,.sl .int o false x.jm.weights,.int .i64 x.jm.bP.down,.int .i64 x.jm.bP.sleep,.int .i64 x.next.dr,.int .i64 x.next.cap,.int .i64 x.next.dw,.int .i64 x.next.low,.int .i64 x.next.high,.sl .int o false x.next.weights,.int .i64 x.next.bP.down,.int .i64 x.next.bP.sleep,.bool x.waits]
def vS(o:Nat)(x:yx):List V:=[.int .i64 x.qT.Ex,.int .i64 x.qT.vo,.int .i64 x.qT.rows,.int .i64 x.qT.Ey,.int .i64 x.dx.Ez,.int .i64 x.dx.rp,.int .i64 x.dx.EA,.int .i64 x.dx.EB,.int .i64 x.dx.EC,.int .i64 x.dx.ED,.int .i64 x.dx.EE,.int .i64 x.dx.EF,.int .i64 x.dx.EG,.int .i64 x.dx.wr,.int .i64 x.dx.EH,.int .i64 x.dx.EI,.int .i64 x.dx.EJ,.int .i64 x.dx.EK,.int .i64 x.dx.EL,.int .i64 x.dx.xp,.int .i64 x.dx.xs,.int .i64 x.mapping.order,.bool x.mapping.hash,.int .i64 x.yf,.int .i64 x.interval,.int .i64 x.J9,.int .i64 x.BU.vr,.int .i64 x.BU.vt]
def vT(o:Nat)(x:yz):List V:=[.int .i64 x.id,.int .i64 x.at_,.int .i64 x.data,.int .i64 x.code]
def rJ(o:Nat)(x:yA):List V:=[.int .i64 x.config.qT.Ex,.int .i64 x.config.qT.vo,.int .i64 x.config.qT.rows,.int .i64 x.config.qT.Ey,.int .i64 x.config.dx.Ez,.int .i64 x.config.dx.rp,.int .i64 x.config.dx.EA,.int .i64 x.config.dx.EB,.int .i64 x.config.dx.EC,.int .i64 x.config.dx.ED,.int .i64 x.config.dx.EE,.int .i64 x.config.dx.EF,.int .i64 x.config.dx.EG,.int .i64 x.config.dx.wr,.int .i64 x.config.dx.EH,.int .i64 x.config.dx.EI,.int .i64 x.config.dx.EJ,.int .i64 x.config.dx.EK,.int .i64 x.config.dx.EL,.int .i64 x.config.dx.xp,.int .i64 x.config.dx.xs,.int .i64 x.config.mapping.order,.bool x.config.mapping.hash,.int .i64 x.config.yf,.int .i64 x.config.interval,.int .i64 x.config.J9,.int .i64 x.config.BU.vr,.int .i64 x.config.BU.vt,.int .i64 x.box.jm.dr,.int .i64 x.box.jm.cap,.int .i64 x.box.jm.dw,.int .i64 x.box.jm.low,.int .i64 x.box.jm.high,.sl .int o false x.box.jm.weights,.int .i64 x.box.jm.bP.down,.int .i64 x.box.jm.bP.sleep,.int .i64 x.box.next.dr,.int .i64 x.box.next.cap,.int .i64 x.box.next.dw,.int .i64 x.box.next.low,.int .i64 x.box.next.high,.sl .int o false x.box.next.weights,.int .i64 x.box.next.bP.down,.int .i64 x.box.next.bP.sleep,.bool x.box.waits,.int .i64 x.now,.sl .lU o false x.Ka.vo,.int .i64 x.Ka.vp,.sl .int o false x.ready.last,.sl .int o false x.ready.bq,.sl .Cell o false x.array.cells,.sl .int o false x.array.vr,.sl .int o false x.array.vt,.int .i64 x.spare.yf,.sl .int o false x.spare.map,.sl .int o false x.EN.J8,.int .i64 x.EN.wait,.bool x.EN.qS,.sl .nP o false x.R5,.sl .int o false x.guard,.sl .Addr o false x.pending,.sl .lV o false x.queue,.sl .nQ o false x.shares,.bool x.drain.on,.int .i64 x.drain.low,.int .i64 x.drain.high,.int .i64 x.vp.state,.int .i64 x.vp.since,.int .i64 x.vp.idle,.int .i64 x.EO.next,.int .i64 x.EO.every,.int .i64 x.EO.wait,.sl .nS o false x.errors,.sl .Event o false x.trace,.sl .nT o false x.R6]
def yS(o:Nat)(x:aC):List V:=[.int .i64 x.kind,.int .i64 x.request.id,.int .i64 x.request.de,.int .i64 x.request.line,.bool x.request.write,.int .i64 x.request.data,.int .i64 x.request.at_,.int .i64 x.n,.int .i64 x.cz,.int .i64 x.addr.cO,.int .i64 x.addr.row,.int .i64 x.addr.dZ,.int .i64 x.ak.dr,.int .i64 x.ak.cap,.int .i64 x.ak.dw,.int .i64 x.ak.low,.int .i64 x.ak.high,.sl .int o false x.ak.weights,.int .i64 x.ak.bP.down,.int .i64 x.ak.bP.sleep]
def vU(o:Nat)(x:BV):List V:=[.int .i64 x.line,.int .i64 x.data,.int .i64 x.code]
def yT(o:Nat)(x:BW):List V:=[.sl .u8 o false x.b,.int .i64 x.i,.int .i64 x.h]
def enc:(t:TC)->(o:Nat)->T t->List V
 | .int,_,x=>[.int .i64 x]
 | .u8,_,x=>[.int .u8 x]
 | .bool,_,x=>[.bool x]
 | .str,_,x=>[.str x]
 | .qU,o,x=>vC o x
 | .Addr,o,x=>rG o x
 | .qV,o,x=>vD o x
 | .qW,o,x=>yB o x
 | .Command,o,x=>rH o x
 | .qX,o,x=>vE o x
 | .lU,o,x=>vF o x
 | .qY,o,x=>yC o x
 | .Event,o,x=>vG o x
 | .qZ,o,x=>yD o x
 | .Cell,o,x=>yE o x
 | .Array,o,x=>yF o x
 | .q7,o,x=>vH o x
 | .nP,o,x=>yG o x
 | .q8,o,x=>yH o x
 | .q9,o,x=>yI o x
 | .lV,o,x=>rI o x
 | .nQ,o,x=>vI o x
 | .rm,o,x=>vJ o x
 | .rq,o,x=>yJ o x
 | .ru,o,x=>vL o x
 | .Power,o,x=>vM o x
 | .nR,o,x=>vN o x
 | .nS,o,x=>vO o x
 | .rz,o,x=>yK o x
 | .rA,o,x=>yL o x
 | .Receiver,o,x=>yM o x
 | .Node,o,x=>vP o x
 | .Tree,o,x=>yN o x
 | .rB,o,x=>yO o x
 | .rC,o,x=>vQ o x
 | .rD,o,x=>yP o x
 | .Move,o,x=>vR o x
 | .lW,o,x=>yQ o x
 | .rE,o,x=>yR o x
 | .Config,o,x=>vS o x
 | .nT,o,x=>vT o x
 | .oN,o,x=>rJ o x
 | .Act,o,x=>yS o x
 | .Fact,o,x=>vU o x
 | .rF,o,x=>yT o x
 | .sl t,o,x=>[.sl t o false x]
 | .vw,o,x=>.bool true :: rJ o x
 | .vz g,o,x=>.bool false :: .int .i64 (g:Int) :: [.int .i64 x]
 | .vA g,o,x=>.bool false :: .int .i64 (g:Int) :: rI o x
 | .vB g,o,x=>.bool false :: .int .i64 (g:Int) :: rG o x
 | .fnCommand g,o,x=>.bool false :: .int .i64 (g:Int) :: rH o x
def ES(o:Nat)(cs:List V):Option xU:=match cs with
 | a0 :: a1 :: a2 :: a3 :: []=>(a0.ay).bind fun x0=>(a1.ay).bind fun x1=>(a2.ay).bind fun x2=>(a3.ay).bind fun x3=>some ⟨x0,x1,x2,x3⟩
 | _=>none
def BX(o:Nat)(cs:List V):Option mE:=match cs with
 | a0 :: a1 :: a2 :: []=>(a0.ay).bind fun x0=>(a1.ay).bind fun x1=>(a2.ay).bind fun x2=>some ⟨x0,x1,x2⟩
 | _=>none
def ET(o:Nat)(cs:List V):Option xV:=match cs with
 | a0 :: a1 :: []=>(a0.ay).bind fun x0=>(a1.hG).bind fun x1=>some ⟨x0,x1⟩
 | _=>none
def EU(o:Nat)(cs:List V):Option BL:=match cs with
 | a0 :: []=>(a0.bS .int o).bind fun x0=>some ⟨x0⟩
 | _=>none
def BY(o:Nat)(cs:List V):Option s7:=match cs with
 | a0 :: a1 :: a2 :: a3 :: []=>(a0.ay).bind fun x0=>(a1.ay).bind fun x1=>(a2.ay).bind fun x2=>(a3.ay).bind fun x3=>some ⟨x0,x1,x2,x3⟩
 | _=>none
def EV(o:Nat)(cs:List V):Option xW:=match cs with
 | a0 :: a1 :: a2 :: a3 :: a4 :: a5 :: a6 :: a7 :: a8 :: a9 :: oO :: oP :: a12 :: oQ :: oR :: lX :: oS :: []=>(a0.ay).bind fun x0=>(a1.ay).bind fun x1=>(a2.ay).bind fun x2=>(a3.ay).bind fun x3=>(a4.ay).bind fun x4=>(a5.ay).bind fun x5=>(a6.ay).bind fun x6=>(a7.ay).bind fun x7=>(a8.ay).bind fun x8=>(a9.ay).bind fun x9=>(oO.ay).bind fun kg=>(oP.ay).bind fun ki=>(a12.ay).bind fun kj=>(oQ.ay).bind fun ko=>(oR.ay).bind fun kq=>(lX.ay).bind fun kr=>(oS.ay).bind fun ku=>some ⟨x0,x1,x2,x3,x4,x5,x6,x7,x8,x9,kg,ki,kj,ko,kq,kr,ku⟩
 | _=>none
def EW(o:Nat)(cs:List V):Option xX:=match cs with
 | a0 :: a1 :: []=>(a0.hG).bind fun x0=>(a1.ay).bind fun x1=>some ⟨x0,x1⟩
 | _=>none
def EX(o:Nat)(cs:List V):Option xY:=match cs with
 | a0 :: a1 :: []=>(a0.bS .lU o).bind fun x0=>(a1.ay).bind fun x1=>some ⟨x0,x1⟩
 | _=>none
def EY(o:Nat)(cs:List V):Option xZ:=match cs with
 | a0 :: a1 :: a2 :: a3 :: a4 :: []=>(a0.ay).bind fun x0=>(a1.ay).bind fun x1=>(a2.ay).bind fun x2=>(a3.ay).bind fun x3=>(a4.ay).bind fun x4=>some ⟨x0,⟨x1,x2,x3,x4⟩⟩
 | _=>none
def EZ(o:Nat)(cs:List V):Option ya:=match cs with
 | a0 :: a1 :: []=>(a0.bS .int o).bind fun x0=>(a1.bS .int o).bind fun x1=>some ⟨x0,x1⟩
 | _=>none
def E0(o:Nat)(cs:List V):Option s8:=match cs with
 | a0 :: a1 :: []=>(a0.bS .int o).bind fun x0=>(a1.hG).bind fun x1=>some ⟨x0,x1⟩
 | _=>none
def E1(o:Nat)(cs:List V):Option yb:=match cs with
 | a0 :: a1 :: a2 :: []=>(a0.bS .Cell o).bind fun x0=>(a1.bS .int o).bind fun x1=>(a2.bS .int o).bind fun x2=>some ⟨x0,x1,x2⟩
 | _=>none
def E2(o:Nat)(cs:List V):Option yc:=match cs with
 | a0 :: a1 :: []=>(a0.ay).bind fun x0=>(a1.ay).bind fun x1=>some ⟨x0,x1⟩
 | _=>none
def E3(o:Nat)(cs:List V):Option yd:=match cs with
 | a0 :: a1 :: a2 :: []=>(a0.bS .int o).bind fun x0=>(a1.bS .int o).bind fun x1=>(a2.ay).bind fun x2=>some ⟨x0,x1,x2⟩
 | _=>none
def E4(o:Nat)(cs:List V):Option ye:=match cs with
 | a0 :: a1 :: []=>(a0.ay).bind fun x0=>(a1.bS .int o).bind fun x1=>some ⟨x0,x1⟩
 | _=>none
def E5(o:Nat)(cs:List V):Option yg:=match cs with
 | a0 :: a1 :: a2 :: []=>(a0.bS .int o).bind fun x0=>(a1.ay).bind fun x1=>(a2.hG).bind fun x2=>some ⟨x0,x1,x2⟩
 | _=>none
def BZ(o:Nat)(cs:List V):Option lT:=match cs with
 | a0 :: a1 :: a2 :: a3 :: a4 :: a5 :: []=>(a0.ay).bind fun x0=>(a1.ay).bind fun x1=>(a2.ay).bind fun x2=>(a3.hG).bind fun x3=>(a4.ay).bind fun x4=>(a5.ay).bind fun x5=>some ⟨x0,x1,x2,x3,x4,x5⟩
 | _=>none
def E6(o:Nat)(cs:List V):Option yh:=match cs with
 | a0 :: a1 :: []=>(a0.ay).bind fun x0=>(a1.ay).bind fun x1=>some ⟨x0,x1⟩
 | _=>none
def E7(o:Nat)(cs:List V):Option yj:=match cs with
 | a0 :: a1 :: a2 :: []=>(a0.hG).bind fun x0=>(a1.ay).bind fun x1=>(a2.ay).bind fun x2=>some ⟨x0,x1,x2⟩
 | _=>none
def E8(o:Nat)(cs:List V):Option BM:=match cs with
 | a0 :: a1 :: []=>(a0.bS .int o).bind fun x0=>(a1.ay).bind fun x1=>some ⟨x0,x1⟩
 | _=>none
def E9(o:Nat)(cs:List V):Option BN:=match cs with
 | a0 :: a1 :: []=>(a0.ay).bind fun x0=>(a1.ay).bind fun x1=>some ⟨x0,x1⟩
 | _=>none
def Fa(o:Nat)(cs:List V):Option yl:=match cs with
 | a0 :: a1 :: a2 :: []=>(a0.ay).bind fun x0=>(a1.ay).bind fun x1=>(a2.ay).bind fun x2=>some ⟨x0,x1,x2⟩
 | _=>none
def Fb(o:Nat)(cs:List V):Option oM:=match cs with
 | a0 :: a1 :: []=>(a0.ay).bind fun x0=>(a1.ay).bind fun x1=>some ⟨x0,x1⟩
 | _=>none
def Fc(o:Nat)(cs:List V):Option ym:=match cs with
 | a0 :: a1 :: a2 :: []=>(a0.ay).bind fun x0=>(a1.ay).bind fun x1=>(a2.ay).bind fun x2=>some ⟨x0,x1,x2⟩
 | _=>none
def Fe(o:Nat)(cs:List V):Option BO:=match cs with
 | a0 :: []=>(a0.bS .str o).bind fun x0=>some ⟨x0⟩
 | _=>none
def Ff(o:Nat)(cs:List V):Option BP:=match cs with
 | a0 :: a1 :: []=>(a0.bS .int o).bind fun x0=>(a1.ay).bind fun x1=>some ⟨x0,x1⟩
 | _=>none
def Fg(o:Nat)(cs:List V):Option BQ:=match cs with
 | a0 :: a1 :: []=>(a0.ay).bind fun x0=>(a1.bS .Command o).bind fun x1=>some ⟨x0,x1⟩
 | _=>none
def Fh(o:Nat)(cs:List V):Option vu:=match cs with
 | a0 :: a1 :: []=>(a0.ay).bind fun x0=>(a1.ay).bind fun x1=>some ⟨x0,x1⟩
 | _=>none
def Fi(o:Nat)(cs:List V):Option yp:=match cs with
 | a0 :: a1 :: a2 :: []=>(a0.ay).bind fun x0=>(a1.bS .Node o).bind fun x1=>(a2.bS .Node o).bind fun x2=>some ⟨x0,x1,x2⟩
 | _=>none
def Fj(o:Nat)(cs:List V):Option BR:=match cs with
 | a0 :: a1 :: a2 :: a3 :: a4 :: a5 :: []=>(a0.ay).bind fun x0=>(a1.ay).bind fun x1=>(a2.bS .Node o).bind fun x2=>(a3.bS .Node o).bind fun x3=>(a4.bS .int o).bind fun x4=>(a5.bS .int o).bind fun x5=>some ⟨x0,⟨x1,x2,x3⟩,x4,x5⟩
 | _=>none
def Fk(o:Nat)(cs:List V):Option yu:=match cs with
 | a0 :: a1 :: a2 :: []=>(a0.ay).bind fun x0=>(a1.ay).bind fun x1=>(a2.ay).bind fun x2=>some ⟨x0,x1,x2⟩
 | _=>none
def Fl(o:Nat)(cs:List V):Option BS:=match cs with
 | a0 :: a1 :: a2 :: a3 :: a4 :: a5 :: []=>(a0.ay).bind fun x0=>(a1.bS .int o).bind fun x1=>(a2.hG).bind fun x2=>(a3.bS .int o).bind fun x3=>(a4.hG).bind fun x4=>(a5.ay).bind fun x5=>some ⟨x0,⟨x1,x2⟩,⟨x3,x4⟩,x5⟩
 | _=>none
def Fm(o:Nat)(cs:List V):Option BT:=match cs with
 | a0 :: a1 :: a2 :: a3 :: []=>(a0.ay).bind fun x0=>(a1.ay).bind fun x1=>(a2.ay).bind fun x2=>(a3.ay).bind fun x3=>some ⟨x0,x1,x2,x3⟩
 | _=>none
def Fo(o:Nat)(cs:List V):Option gZ:=match cs with
 | a0 :: a1 :: a2 :: a3 :: a4 :: a5 :: a6 :: a7 :: []=>(a0.ay).bind fun x0=>(a1.ay).bind fun x1=>(a2.ay).bind fun x2=>(a3.ay).bind fun x3=>(a4.ay).bind fun x4=>(a5.bS .int o).bind fun x5=>(a6.ay).bind fun x6=>(a7.ay).bind fun x7=>some ⟨x0,x1,x2,x3,x4,x5,⟨x6,x7⟩⟩
 | _=>none
def Fp(o:Nat)(cs:List V):Option yw:=match cs with
 | a0 :: a1 :: a2 :: a3 :: a4 :: a5 :: a6 :: a7 :: a8 :: a9 :: oO :: oP :: a12 :: oQ :: oR :: lX :: oS :: []=>(a0.ay).bind fun x0=>(a1.ay).bind fun x1=>(a2.ay).bind fun x2=>(a3.ay).bind fun x3=>(a4.ay).bind fun x4=>(a5.bS .int o).bind fun x5=>(a6.ay).bind fun x6=>(a7.ay).bind fun x7=>(a8.ay).bind fun x8=>(a9.ay).bind fun x9=>(oO.ay).bind fun kg=>(oP.ay).bind fun ki=>(a12.ay).bind fun kj=>(oQ.bS .int o).bind fun ko=>(oR.ay).bind fun kq=>(lX.ay).bind fun kr=>(oS.hG).bind fun ku=>some ⟨⟨x0,x1,x2,x3,x4,x5,⟨x6,x7⟩⟩,⟨x8,x9,kg,ki,kj,ko,⟨kq,kr⟩⟩,ku⟩
 | _=>none
def Fq(o:Nat)(cs:List V):Option yx:=match cs with
 | a0 :: a1 :: a2 :: a3 :: a4 :: a5 :: a6 :: a7 :: a8 :: a9 :: oO :: oP :: a12 :: oQ :: oR :: lX :: oS :: yU :: yV :: yW :: a20 :: a21 :: Fs :: Ft :: a24 :: Fu :: Fv :: Fw :: []=>(a0.ay).bind fun x0=>(a1.ay).bind fun x1=>(a2.ay).bind fun x2=>(a3.ay).bind fun x3=>(a4.ay).bind fun x4=>(a5.ay).bind fun x5=>(a6.ay).bind fun x6=>(a7.ay).bind fun x7=>(a8.ay).bind fun x8=>(a9.ay).bind fun x9=>(oO.ay).bind fun kg=>(oP.ay).bind fun ki=>(a12.ay).bind fun kj=>(oQ.ay).bind fun ko=>(oR.ay).bind fun kq=>(lX.ay).bind fun kr=>(oS.ay).bind fun ku=>(yU.ay).bind fun rK=>(yV.ay).bind fun rL=>(yW.ay).bind fun rM=>(a20.ay).bind fun yX=>(a21.ay).bind fun yY=>(Fs.hG).bind fun yZ=>(Ft.ay).bind fun za=>(a24.ay).bind fun zb=>(Fu.ay).bind fun zc=>(Fv.ay).bind fun ze=>(Fw.ay).bind fun zg=>some ⟨⟨x0,x1,x2,x3⟩,⟨x4,x5,x6,x7,x8,x9,kg,ki,kj,ko,kq,kr,ku,rK,rL,rM,yX⟩,⟨yY,yZ⟩,za,zb,zc,⟨ze,zg⟩⟩
 | _=>none
def Fx(o:Nat)(cs:List V):Option yz:=match cs with
 | a0 :: a1 :: a2 :: a3 :: []=>(a0.ay).bind fun x0=>(a1.ay).bind fun x1=>(a2.ay).bind fun x2=>(a3.ay).bind fun x3=>some ⟨x0,x1,x2,x3⟩
 | _=>none
def B0(o:Nat)(cs:List V):Option yA:=match cs with
 | a0 :: a1 :: a2 :: a3 :: a4 :: a5 :: a6 :: a7 :: a8 :: a9 :: oO :: oP :: a12 :: oQ :: oR :: lX :: oS :: yU :: yV :: yW :: a20 :: a21 :: Fs :: Ft :: a24 :: Fu :: Fv :: Fw :: a28 :: R9 :: Sa :: a31 :: Sb :: Sc :: Sd :: Se :: Sf :: a37 :: Sg :: Sh :: a40 :: Si :: Sj :: Sk :: Sl :: Sm :: a46 :: Sn :: So :: a49 :: Sp :: a51 :: Sq :: a53 :: Sr :: Ss :: Su :: Sv :: Sw :: a59 :: Sx :: Sy :: Sz :: SA :: SB :: SC :: SD :: SE :: SF :: SG :: a70 :: SH :: a72 :: SI :: SJ :: []=>(a0.ay).bind fun x0=>(a1.ay).bind fun x1=>(a2.ay).bind fun x2=>(a3.ay).bind fun x3=>(a4.ay).bind fun x4=>(a5.ay).bind fun x5=>(a6.ay).bind fun x6=>(a7.ay).bind fun x7=>(a8.ay).bind fun x8=>(a9.ay).bind fun x9=>(oO.ay).bind fun kg=>(oP.ay).bind fun ki=>(a12.ay).bind fun kj=>(oQ.ay).bind fun ko=>(oR.ay).bind fun kq=>(lX.ay).bind fun kr=>(oS.ay).bind fun ku=>(yU.ay).bind fun rK=>(yV.ay).bind fun rL=>(yW.ay).bind fun rM=>(a20.ay).bind fun yX=>(a21.ay).bind fun yY=>(Fs.hG).bind fun yZ=>(Ft.ay).bind fun za=>(a24.ay).bind fun zb=>(Fu.ay).bind fun zc=>(Fv.ay).bind fun ze=>(Fw.ay).bind fun zg=>(a28.ay).bind fun Kb=>(R9.ay).bind fun Kc=>(Sa.ay).bind fun Ke=>(a31.ay).bind fun Kf=>(Sb.ay).bind fun Kg=>(Sc.bS .int o).bind fun Kh=>(Sd.ay).bind fun Ki=>(Se.ay).bind fun Kj=>(Sf.ay).bind fun Kk=>(a37.ay).bind fun Kl=>(Sg.ay).bind fun Km=>(Sh.ay).bind fun Kn=>(a40.ay).bind fun Ko=>(Si.bS .int o).bind fun Kp=>(Sj.ay).bind fun Kq=>(Sk.ay).bind fun Kr=>(Sl.hG).bind fun Ks=>(Sm.ay).bind fun Kt=>(a46.bS .lU o).bind fun Ku=>(Sn.ay).bind fun Kv=>(So.bS .int o).bind fun Kw=>(a49.bS .int o).bind fun Kx=>(Sp.bS .Cell o).bind fun Ky=>(a51.bS .int o).bind fun Kz=>(Sq.bS .int o).bind fun KB=>(a53.ay).bind fun KC=>(Sr.bS .int o).bind fun KD=>(Ss.bS .int o).bind fun KE=>(Su.ay).bind fun KF=>(Sv.hG).bind fun KG=>(Sw.bS .nP o).bind fun KH=>(a59.bS .int o).bind fun KI=>(Sx.bS .Addr o).bind fun KJ=>(Sy.bS .lV o).bind fun KL=>(Sz.bS .nQ o).bind fun KM=>(SA.hG).bind fun KN=>(SB.ay).bind fun KO=>(SC.ay).bind fun KP=>(SD.ay).bind fun KQ=>(SE.ay).bind fun KR=>(SF.ay).bind fun KS=>(SG.ay).bind fun KT=>(a70.ay).bind fun KU=>(SH.ay).bind fun KV=>(a72.bS .nS o).bind fun KW=>(SI.bS .Event o).bind fun KX=>(SJ.bS .nT o).bind fun KY=>some ⟨⟨⟨x0,x1,x2,x3⟩,⟨x4,x5,x6,x7,x8,x9,kg,ki,kj,ko,kq,kr,ku,rK,rL,rM,yX⟩,⟨yY,yZ⟩,za,zb,zc,⟨ze,zg⟩⟩,⟨⟨Kb,Kc,Ke,Kf,Kg,Kh,⟨Ki,Kj⟩⟩,⟨Kk,Kl,Km,Kn,Ko,Kp,⟨Kq,Kr⟩⟩,Ks⟩,Kt,⟨Ku,Kv⟩,⟨Kw,Kx⟩,⟨Ky,Kz,KB⟩,⟨KC,KD⟩,⟨KE,KF,KG⟩,KH,KI,KJ,KL,KM,⟨KN,KO,KP⟩,⟨KQ,KR,KS⟩,⟨KT,KU,KV⟩,KW,KX,KY⟩
 | _=>none
def Fy(o:Nat)(cs:List V):Option aC:=match cs with
 | a0 :: a1 :: a2 :: a3 :: a4 :: a5 :: a6 :: a7 :: a8 :: a9 :: oO :: oP :: a12 :: oQ :: oR :: lX :: oS :: yU :: yV :: yW :: []=>(a0.ay).bind fun x0=>(a1.ay).bind fun x1=>(a2.ay).bind fun x2=>(a3.ay).bind fun x3=>(a4.hG).bind fun x4=>(a5.ay).bind fun x5=>(a6.ay).bind fun x6=>(a7.ay).bind fun x7=>(a8.ay).bind fun x8=>(a9.ay).bind fun x9=>(oO.ay).bind fun kg=>(oP.ay).bind fun ki=>(a12.ay).bind fun kj=>(oQ.ay).bind fun ko=>(oR.ay).bind fun kq=>(lX.ay).bind fun kr=>(oS.ay).bind fun ku=>(yU.bS .int o).bind fun rK=>(yV.ay).bind fun rL=>(yW.ay).bind fun rM=>some ⟨x0,⟨x1,x2,x3,x4,x5,x6⟩,x7,x8,⟨x9,kg,ki⟩,⟨kj,ko,kq,kr,ku,rK,⟨rL,rM⟩⟩⟩
 | _=>none
def Fz(o:Nat)(cs:List V):Option BV:=match cs with
 | a0 :: a1 :: a2 :: []=>(a0.ay).bind fun x0=>(a1.ay).bind fun x1=>(a2.ay).bind fun x2=>some ⟨x0,x1,x2⟩
 | _=>none
def FA(o:Nat)(cs:List V):Option BW:=match cs with
 | a0 :: a1 :: a2 :: []=>(a0.bS .u8 o).bind fun x0=>(a1.ay).bind fun x1=>(a2.ay).bind fun x2=>some ⟨x0,x1,x2⟩
 | _=>none
def rN{α:Type}(f:V->Option α):List V->Option α
 | [a]=>f a
 | _=>none
def FB{α:Type}(f:List V->Option α):List V->Option α
 | .bool true :: cs=>f cs
 | _=>none
def vV{α:Type}(g:Nat)(f:List V->Option α):List V->Option α
 | .bool false :: .int .i64 n :: cs=>if n=(g:Int)then f cs else none
 | _=>none
def dec:(t:TC)->(o:Nat)->List V->Option (T t)
 | .int,_,cs=>rN V.ay cs
 | .u8,_,cs=>rN V.EP cs
 | .bool,_,cs=>rN V.hG cs
 | .str,_,cs=>rN V.ER cs
 | .qU,o,cs=>ES o cs
 | .Addr,o,cs=>BX o cs
 | .qV,o,cs=>ET o cs
 | .qW,o,cs=>EU o cs
 | .Command,o,cs=>BY o cs
 | .qX,o,cs=>EV o cs
 | .lU,o,cs=>EW o cs
 | .qY,o,cs=>EX o cs
 | .Event,o,cs=>EY o cs
 | .qZ,o,cs=>EZ o cs
 | .Cell,o,cs=>E0 o cs
 | .Array,o,cs=>E1 o cs
 | .q7,o,cs=>E2 o cs
 | .nP,o,cs=>E3 o cs
 | .q8,o,cs=>E4 o cs
 | .q9,o,cs=>E5 o cs
 | .lV,o,cs=>BZ o cs
 | .nQ,o,cs=>E6 o cs
 | .rm,o,cs=>E7 o cs
 | .rq,o,cs=>E8 o cs
 | .ru,o,cs=>E9 o cs
 | .Power,o,cs=>Fa o cs
 | .nR,o,cs=>Fb o cs
 | .nS,o,cs=>Fc o cs
 | .rz,o,cs=>Fe o cs
 | .rA,o,cs=>Ff o cs
 | .Receiver,o,cs=>Fg o cs
 | .Node,o,cs=>Fh o cs
 | .Tree,o,cs=>Fi o cs
 | .rB,o,cs=>Fj o cs
 | .rC,o,cs=>Fk o cs
 | .rD,o,cs=>Fl o cs
 | .Move,o,cs=>Fm o cs
 | .lW,o,cs=>Fo o cs
 | .rE,o,cs=>Fp o cs
 | .Config,o,cs=>Fq o cs
 | .nT,o,cs=>Fx o cs
 | .oN,o,cs=>B0 o cs
 | .Act,o,cs=>Fy o cs
 | .Fact,o,cs=>Fz o cs
 | .rF,o,cs=>FA o cs
 | .sl t,o,cs=>rN (V.bS t o) cs
 | .vw,o,cs=>FB (B0 o) cs
 | .vz g,o,cs=>vV g (rN V.ay) cs
 | .vA g,o,cs=>vV g (BZ o) cs
 | .vB g,o,cs=>vV g (BX o) cs
 | .fnCommand g,o,cs=>vV g (BY o) cs
def KZ:TC->Nat->List V
 | .oN,o=>rJ o ⟨⟨⟨0,0,0,0⟩,⟨0,0,0,0,0,0,0,0,0,0,0,0,0,0,0,0,0⟩,⟨0,false⟩,0,0,0,⟨0,0⟩⟩,⟨⟨0,0,0,0,0,[],⟨0,0⟩⟩,⟨0,0,0,0,0,[],⟨0,0⟩⟩,false⟩,0,⟨[],0⟩,⟨[],[]⟩,⟨[],[],[]⟩,⟨0,[]⟩,⟨[],0,false⟩,[],[],[],[],[],⟨false,0,0⟩,⟨0,0,0⟩,⟨0,0,0⟩,[],[],[]⟩
 | _,_=>[]
theorem iP(t:TC)(o:Nat)(x:T t):(enc t o x).length=aj t:=by cases t <;>rfl
theorem lY(t:TC):0<aj t:=by cases t <;>simp[aj]
theorem bind_some{α β:Type}{a:Option α}{f:α->Option β}{b:β}(h:a.bind f=some b):∃ x,a=some x/\f x=some b:=by
 cases a with
 | none=>cases h
 | some x=>exact⟨x,rfl,h⟩
theorem SK(o:Nat)(cs:List V)(x:xU)(h:ES o cs=some x):aL cs (vC o x):=by
 unfold ES at h
 split at h
 ·obtain⟨x0,h0,h⟩:=bind_some h
  obtain⟨x1,h1,h⟩:=bind_some h
  obtain⟨x2,h2,h⟩:=bind_some h
  obtain⟨x3,h3,h⟩:=bind_some h
  injection h with h
  subst h
  exact(.cons (V.az h0) (.cons (V.az h1) (.cons (V.az h2) (.cons (V.az h3) aL.nil))))
 ·cases h
theorem K0(o:Nat)(cs:List V)(x:mE)(h:BX o cs=some x):aL cs (rG o x):=by
 unfold BX at h
 split at h
 ·obtain⟨x0,h0,h⟩:=bind_some h
  obtain⟨x1,h1,h⟩:=bind_some h
  obtain⟨x2,h2,h⟩:=bind_some h
  injection h with h
  subst h
  exact(.cons (V.az h0) (.cons (V.az h1) (.cons (V.az h2) aL.nil)))
 ·cases h
theorem SL(o:Nat)(cs:List V)(x:xV)(h:ET o cs=some x):aL cs (vD o x):=by
 unfold ET at h
 split at h
 ·obtain⟨x0,h0,h⟩:=bind_some h
  obtain⟨x1,h1,h⟩:=bind_some h
  injection h with h
  subst h
  exact(.cons (V.az h0) (.cons (V.jo h1) aL.nil))
 ·cases h
theorem SM(o:Nat)(cs:List V)(x:BL)(h:EU o cs=some x):aL cs (yB o x):=by
 unfold EU at h
 split at h
 ·obtain⟨x0,h0,h⟩:=bind_some h
  injection h with h
  subst h
  exact(.cons (V.bW h0) aL.nil)
 ·cases h
theorem K1(o:Nat)(cs:List V)(x:s7)(h:BY o cs=some x):aL cs (rH o x):=by
 unfold BY at h
 split at h
 ·obtain⟨x0,h0,h⟩:=bind_some h
  obtain⟨x1,h1,h⟩:=bind_some h
  obtain⟨x2,h2,h⟩:=bind_some h
  obtain⟨x3,h3,h⟩:=bind_some h
  injection h with h
  subst h
  exact(.cons (V.az h0) (.cons (V.az h1) (.cons (V.az h2) (.cons (V.az h3) aL.nil))))
 ·cases h
theorem SN(o:Nat)(cs:List V)(x:xW)(h:EV o cs=some x):aL cs (vE o x):=by
 unfold EV at h
 split at h
 ·obtain⟨x0,h0,h⟩:=bind_some h
  obtain⟨x1,h1,h⟩:=bind_some h
  obtain⟨x2,h2,h⟩:=bind_some h
  obtain⟨x3,h3,h⟩:=bind_some h
  obtain⟨x4,h4,h⟩:=bind_some h
  obtain⟨x5,h5,h⟩:=bind_some h
  obtain⟨x6,h6,h⟩:=bind_some h
  obtain⟨x7,h7,h⟩:=bind_some h
  obtain⟨x8,h8,h⟩:=bind_some h
  obtain⟨x9,h9,h⟩:=bind_some h
  obtain⟨kg,hJ,h⟩:=bind_some h
  obtain⟨ki,bT,h⟩:=bind_some h
  obtain⟨kj,jq,h⟩:=bind_some h
  obtain⟨ko,gF,h⟩:=bind_some h
  obtain⟨kq,lZ,h⟩:=bind_some h
  obtain⟨kr,iQ,h⟩:=bind_some h
  obtain⟨ku,jr,h⟩:=bind_some h
  injection h with h
  subst h
  exact(.cons (V.az h0) (.cons (V.az h1) (.cons (V.az h2) (.cons (V.az h3) (.cons (V.az h4) (.cons (V.az h5) (.cons (V.az h6) (.cons (V.az h7) (.cons (V.az h8) (.cons (V.az h9) (.cons (V.az hJ) (.cons (V.az bT) (.cons (V.az jq) (.cons (V.az gF) (.cons (V.az lZ) (.cons (V.az iQ) (.cons (V.az jr) aL.nil)))))))))))))))))
 ·cases h
theorem SO(o:Nat)(cs:List V)(x:xX)(h:EW o cs=some x):aL cs (vF o x):=by
 unfold EW at h
 split at h
 ·obtain⟨x0,h0,h⟩:=bind_some h
  obtain⟨x1,h1,h⟩:=bind_some h
  injection h with h
  subst h
  exact(.cons (V.jo h0) (.cons (V.az h1) aL.nil))
 ·cases h
theorem SP(o:Nat)(cs:List V)(x:xY)(h:EX o cs=some x):aL cs (yC o x):=by
 unfold EX at h
 split at h
 ·obtain⟨x0,h0,h⟩:=bind_some h
  obtain⟨x1,h1,h⟩:=bind_some h
  injection h with h
  subst h
  exact(.cons (V.bW h0) (.cons (V.az h1) aL.nil))
 ·cases h
theorem SQ(o:Nat)(cs:List V)(x:xZ)(h:EY o cs=some x):aL cs (vG o x):=by
 unfold EY at h
 split at h
 ·obtain⟨x0,h0,h⟩:=bind_some h
  obtain⟨x1,h1,h⟩:=bind_some h
  obtain⟨x2,h2,h⟩:=bind_some h
  obtain⟨x3,h3,h⟩:=bind_some h
  obtain⟨x4,h4,h⟩:=bind_some h
  injection h with h
  subst h
  exact(.cons (V.az h0) (.cons (V.az h1) (.cons (V.az h2) (.cons (V.az h3) (.cons (V.az h4) aL.nil)))))
 ·cases h
theorem SR(o:Nat)(cs:List V)(x:ya)(h:EZ o cs=some x):aL cs (yD o x):=by
 unfold EZ at h
 split at h
 ·obtain⟨x0,h0,h⟩:=bind_some h
  obtain⟨x1,h1,h⟩:=bind_some h
  injection h with h
  subst h
  exact(.cons (V.bW h0) (.cons (V.bW h1) aL.nil))
 ·cases h
theorem SS(o:Nat)(cs:List V)(x:s8)(h:E0 o cs=some x):aL cs (yE o x):=by
 unfold E0 at h
 split at h
 ·obtain⟨x0,h0,h⟩:=bind_some h
  obtain⟨x1,h1,h⟩:=bind_some h
  injection h with h
  subst h
  exact(.cons (V.bW h0) (.cons (V.jo h1) aL.nil))
 ·cases h
theorem SU(o:Nat)(cs:List V)(x:yb)(h:E1 o cs=some x):aL cs (yF o x):=by
 unfold E1 at h
 split at h
 ·obtain⟨x0,h0,h⟩:=bind_some h
  obtain⟨x1,h1,h⟩:=bind_some h
  obtain⟨x2,h2,h⟩:=bind_some h
  injection h with h
  subst h
  exact(.cons (V.bW h0) (.cons (V.bW h1) (.cons (V.bW h2) aL.nil)))
 ·cases h
theorem SV(o:Nat)(cs:List V)(x:yc)(h:E2 o cs=some x):aL cs (vH o x):=by
 unfold E2 at h
 split at h
 ·obtain⟨x0,h0,h⟩:=bind_some h
  obtain⟨x1,h1,h⟩:=bind_some h
  injection h with h
  subst h
  exact(.cons (V.az h0) (.cons (V.az h1) aL.nil))
 ·cases h
theorem SW(o:Nat)(cs:List V)(x:yd)(h:E3 o cs=some x):aL cs (yG o x):=by
 unfold E3 at h
 split at h
 ·obtain⟨x0,h0,h⟩:=bind_some h
  obtain⟨x1,h1,h⟩:=bind_some h
  obtain⟨x2,h2,h⟩:=bind_some h
  injection h with h
  subst h
  exact(.cons (V.bW h0) (.cons (V.bW h1) (.cons (V.az h2) aL.nil)))
 ·cases h
theorem SX(o:Nat)(cs:List V)(x:ye)(h:E4 o cs=some x):aL cs (yH o x):=by
 unfold E4 at h
 split at h
 ·obtain⟨x0,h0,h⟩:=bind_some h
  obtain⟨x1,h1,h⟩:=bind_some h
  injection h with h
  subst h
  exact(.cons (V.az h0) (.cons (V.bW h1) aL.nil))
 ·cases h
theorem SY(o:Nat)(cs:List V)(x:yg)(h:E5 o cs=some x):aL cs (yI o x):=by
 unfold E5 at h
 split at h
 ·obtain⟨x0,h0,h⟩:=bind_some h
  obtain⟨x1,h1,h⟩:=bind_some h
  obtain⟨x2,h2,h⟩:=bind_some h
  injection h with h
  subst h
  exact(.cons (V.bW h0) (.cons (V.az h1) (.cons (V.jo h2) aL.nil)))
 ·cases h
theorem K2(o:Nat)(cs:List V)(x:lT)(h:BZ o cs=some x):aL cs (rI o x):=by
 unfold BZ at h
 split at h
 ·obtain⟨x0,h0,h⟩:=bind_some h
  obtain⟨x1,h1,h⟩:=bind_some h
  obtain⟨x2,h2,h⟩:=bind_some h
  obtain⟨x3,h3,h⟩:=bind_some h
  obtain⟨x4,h4,h⟩:=bind_some h
  obtain⟨x5,h5,h⟩:=bind_some h
  injection h with h
  subst h
  exact(.cons (V.az h0) (.cons (V.az h1) (.cons (V.az h2) (.cons (V.jo h3) (.cons (V.az h4) (.cons (V.az h5) aL.nil))))))
 ·cases h
theorem SZ(o:Nat)(cs:List V)(x:yh)(h:E6 o cs=some x):aL cs (vI o x):=by
 unfold E6 at h
 split at h
 ·obtain⟨x0,h0,h⟩:=bind_some h
  obtain⟨x1,h1,h⟩:=bind_some h
  injection h with h
  subst h
  exact(.cons (V.az h0) (.cons (V.az h1) aL.nil))
 ·cases h
theorem S0(o:Nat)(cs:List V)(x:yj)(h:E7 o cs=some x):aL cs (vJ o x):=by
 unfold E7 at h
 split at h
 ·obtain⟨x0,h0,h⟩:=bind_some h
  obtain⟨x1,h1,h⟩:=bind_some h
  obtain⟨x2,h2,h⟩:=bind_some h
  injection h with h
  subst h
  exact(.cons (V.jo h0) (.cons (V.az h1) (.cons (V.az h2) aL.nil)))
 ·cases h
theorem S1(o:Nat)(cs:List V)(x:BM)(h:E8 o cs=some x):aL cs (yJ o x):=by
 unfold E8 at h
 split at h
 ·obtain⟨x0,h0,h⟩:=bind_some h
  obtain⟨x1,h1,h⟩:=bind_some h
  injection h with h
  subst h
  exact(.cons (V.bW h0) (.cons (V.az h1) aL.nil))
 ·cases h
theorem S2(o:Nat)(cs:List V)(x:BN)(h:E9 o cs=some x):aL cs (vL o x):=by
 unfold E9 at h
 split at h
 ·obtain⟨x0,h0,h⟩:=bind_some h
  obtain⟨x1,h1,h⟩:=bind_some h
  injection h with h
  subst h
  exact(.cons (V.az h0) (.cons (V.az h1) aL.nil))
 ·cases h
theorem S3(o:Nat)(cs:List V)(x:yl)(h:Fa o cs=some x):aL cs (vM o x):=by
 unfold Fa at h
 split at h
 ·obtain⟨x0,h0,h⟩:=bind_some h
  obtain⟨x1,h1,h⟩:=bind_some h
  obtain⟨x2,h2,h⟩:=bind_some h
  injection h with h
  subst h
  exact(.cons (V.az h0) (.cons (V.az h1) (.cons (V.az h2) aL.nil)))
 ·cases h
theorem S4(o:Nat)(cs:List V)(x:oM)(h:Fb o cs=some x):aL cs (vN o x):=by
 unfold Fb at h
 split at h
 ·obtain⟨x0,h0,h⟩:=bind_some h
  obtain⟨x1,h1,h⟩:=bind_some h
  injection h with h
  subst h
  exact(.cons (V.az h0) (.cons (V.az h1) aL.nil))
 ·cases h
theorem S5(o:Nat)(cs:List V)(x:ym)(h:Fc o cs=some x):aL cs (vO o x):=by
 unfold Fc at h
 split at h
 ·obtain⟨x0,h0,h⟩:=bind_some h
  obtain⟨x1,h1,h⟩:=bind_some h
  obtain⟨x2,h2,h⟩:=bind_some h
  injection h with h
  subst h
  exact(.cons (V.az h0) (.cons (V.az h1) (.cons (V.az h2) aL.nil)))
 ·cases h
theorem S6(o:Nat)(cs:List V)(x:BO)(h:Fe o cs=some x):aL cs (yK o x):=by
 unfold Fe at h
 split at h
 ·obtain⟨x0,h0,h⟩:=bind_some h
  injection h with h
  subst h
  exact(.cons (V.bW h0) aL.nil)
 ·cases h
theorem S7(o:Nat)(cs:List V)(x:BP)(h:Ff o cs=some x):aL cs (yL o x):=by
 unfold Ff at h
 split at h
 ·obtain⟨x0,h0,h⟩:=bind_some h
  obtain⟨x1,h1,h⟩:=bind_some h
  injection h with h
  subst h
  exact(.cons (V.bW h0) (.cons (V.az h1) aL.nil))
 ·cases h
theorem S8(o:Nat)(cs:List V)(x:BQ)(h:Fg o cs=some x):aL cs (yM o x):=by
 unfold Fg at h
 split at h
 ·obtain⟨x0,h0,h⟩:=bind_some h
  obtain⟨x1,h1,h⟩:=bind_some h
  injection h with h
  subst h
  exact(.cons (V.az h0) (.cons (V.bW h1) aL.nil))
 ·cases h
theorem S9(o:Nat)(cs:List V)(x:vu)(h:Fh o cs=some x):aL cs (vP o x):=by
 unfold Fh at h
 split at h
 ·obtain⟨x0,h0,h⟩:=bind_some h
  obtain⟨x1,h1,h⟩:=bind_some h
  injection h with h
  subst h
  exact(.cons (V.az h0) (.cons (V.az h1) aL.nil))
 ·cases h
theorem Ta(o:Nat)(cs:List V)(x:yp)(h:Fi o cs=some x):aL cs (yN o x):=by
 unfold Fi at h
 split at h
 ·obtain⟨x0,h0,h⟩:=bind_some h
  obtain⟨x1,h1,h⟩:=bind_some h
  obtain⟨x2,h2,h⟩:=bind_some h
  injection h with h
  subst h
  exact(.cons (V.az h0) (.cons (V.bW h1) (.cons (V.bW h2) aL.nil)))
 ·cases h
theorem Tb(o:Nat)(cs:List V)(x:BR)(h:Fj o cs=some x):aL cs (yO o x):=by
 unfold Fj at h
 split at h
 ·obtain⟨x0,h0,h⟩:=bind_some h
  obtain⟨x1,h1,h⟩:=bind_some h
  obtain⟨x2,h2,h⟩:=bind_some h
  obtain⟨x3,h3,h⟩:=bind_some h
  obtain⟨x4,h4,h⟩:=bind_some h
  obtain⟨x5,h5,h⟩:=bind_some h
  injection h with h
  subst h
  exact(.cons (V.az h0) (.cons (V.az h1) (.cons (V.bW h2) (.cons (V.bW h3) (.cons (V.bW h4) (.cons (V.bW h5) aL.nil))))))
 ·cases h
theorem Tc(o:Nat)(cs:List V)(x:yu)(h:Fk o cs=some x):aL cs (vQ o x):=by
 unfold Fk at h
 split at h
 ·obtain⟨x0,h0,h⟩:=bind_some h
  obtain⟨x1,h1,h⟩:=bind_some h
  obtain⟨x2,h2,h⟩:=bind_some h
  injection h with h
  subst h
  exact(.cons (V.az h0) (.cons (V.az h1) (.cons (V.az h2) aL.nil)))
 ·cases h
theorem Td(o:Nat)(cs:List V)(x:BS)(h:Fl o cs=some x):aL cs (yP o x):=by
 unfold Fl at h
 split at h
 ·obtain⟨x0,h0,h⟩:=bind_some h
  obtain⟨x1,h1,h⟩:=bind_some h
  obtain⟨x2,h2,h⟩:=bind_some h
  obtain⟨x3,h3,h⟩:=bind_some h
  obtain⟨x4,h4,h⟩:=bind_some h
  obtain⟨x5,h5,h⟩:=bind_some h
  injection h with h
  subst h
  exact(.cons (V.az h0) (.cons (V.bW h1) (.cons (V.jo h2) (.cons (V.bW h3) (.cons (V.jo h4) (.cons (V.az h5) aL.nil))))))
 ·cases h
theorem Te(o:Nat)(cs:List V)(x:BT)(h:Fm o cs=some x):aL cs (vR o x):=by
 unfold Fm at h
 split at h
 ·obtain⟨x0,h0,h⟩:=bind_some h
  obtain⟨x1,h1,h⟩:=bind_some h
  obtain⟨x2,h2,h⟩:=bind_some h
  obtain⟨x3,h3,h⟩:=bind_some h
  injection h with h
  subst h
  exact(.cons (V.az h0) (.cons (V.az h1) (.cons (V.az h2) (.cons (V.az h3) aL.nil))))
 ·cases h
theorem Tf(o:Nat)(cs:List V)(x:gZ)(h:Fo o cs=some x):aL cs (yQ o x):=by
 unfold Fo at h
 split at h
 ·obtain⟨x0,h0,h⟩:=bind_some h
  obtain⟨x1,h1,h⟩:=bind_some h
  obtain⟨x2,h2,h⟩:=bind_some h
  obtain⟨x3,h3,h⟩:=bind_some h
  obtain⟨x4,h4,h⟩:=bind_some h
  obtain⟨x5,h5,h⟩:=bind_some h
  obtain⟨x6,h6,h⟩:=bind_some h
  obtain⟨x7,h7,h⟩:=bind_some h
  injection h with h
  subst h
  exact(.cons (V.az h0) (.cons (V.az h1) (.cons (V.az h2) (.cons (V.az h3) (.cons (V.az h4) (.cons (V.bW h5) (.cons (V.az h6) (.cons (V.az h7) aL.nil))))))))
 ·cases h
theorem Tg(o:Nat)(cs:List V)(x:yw)(h:Fp o cs=some x):aL cs (yR o x):=by
 unfold Fp at h
 split at h
 ·obtain⟨x0,h0,h⟩:=bind_some h
  obtain⟨x1,h1,h⟩:=bind_some h
  obtain⟨x2,h2,h⟩:=bind_some h
  obtain⟨x3,h3,h⟩:=bind_some h
  obtain⟨x4,h4,h⟩:=bind_some h
  obtain⟨x5,h5,h⟩:=bind_some h
  obtain⟨x6,h6,h⟩:=bind_some h
  obtain⟨x7,h7,h⟩:=bind_some h
  obtain⟨x8,h8,h⟩:=bind_some h
  obtain⟨x9,h9,h⟩:=bind_some h
  obtain⟨kg,hJ,h⟩:=bind_some h
  obtain⟨ki,bT,h⟩:=bind_some h
  obtain⟨kj,jq,h⟩:=bind_some h
  obtain⟨ko,gF,h⟩:=bind_some h
  obtain⟨kq,lZ,h⟩:=bind_some h
  obtain⟨kr,iQ,h⟩:=bind_some h
  obtain⟨ku,jr,h⟩:=bind_some h
  injection h with h
  subst h
  exact(.cons (V.az h0) (.cons (V.az h1) (.cons (V.az h2) (.cons (V.az h3) (.cons (V.az h4) (.cons (V.bW h5) (.cons (V.az h6) (.cons (V.az h7) (.cons (V.az h8) (.cons (V.az h9) (.cons (V.az hJ) (.cons (V.az bT) (.cons (V.az jq) (.cons (V.bW gF) (.cons (V.az lZ) (.cons (V.az iQ) (.cons (V.jo jr) aL.nil)))))))))))))))))
 ·cases h
theorem Th(o:Nat)(cs:List V)(x:yx)(h:Fq o cs=some x):aL cs (vS o x):=by
 unfold Fq at h
 split at h
 ·obtain⟨x0,h0,h⟩:=bind_some h
  obtain⟨x1,h1,h⟩:=bind_some h
  obtain⟨x2,h2,h⟩:=bind_some h
  obtain⟨x3,h3,h⟩:=bind_some h
  obtain⟨x4,h4,h⟩:=bind_some h
  obtain⟨x5,h5,h⟩:=bind_some h
  obtain⟨x6,h6,h⟩:=bind_some h
  obtain⟨x7,h7,h⟩:=bind_some h
  obtain⟨x8,h8,h⟩:=bind_some h
  obtain⟨x9,h9,h⟩:=bind_some h
  obtain⟨kg,hJ,h⟩:=bind_some h
  obtain⟨ki,bT,h⟩:=bind_some h
  obtain⟨kj,jq,h⟩:=bind_some h
  obtain⟨ko,gF,h⟩:=bind_some h
  obtain⟨kq,lZ,h⟩:=bind_some h
  obtain⟨kr,iQ,h⟩:=bind_some h
  obtain⟨ku,jr,h⟩:=bind_some h
  obtain⟨rK,l5,h⟩:=bind_some h
  obtain⟨rL,oT,h⟩:=bind_some h
  obtain⟨rM,rO,h⟩:=bind_some h
  obtain⟨yX,kZ,h⟩:=bind_some h
  obtain⟨yY,oU,h⟩:=bind_some h
  obtain⟨yZ,zh,h⟩:=bind_some h
  obtain⟨za,vW,h⟩:=bind_some h
  obtain⟨zb,kz,h⟩:=bind_some h
  obtain⟨zc,s9,h⟩:=bind_some h
  obtain⟨ze,vX,h⟩:=bind_some h
  obtain⟨zg,td,h⟩:=bind_some h
  injection h with h
  subst h
  exact(.cons (V.az h0) (.cons (V.az h1) (.cons (V.az h2) (.cons (V.az h3) (.cons (V.az h4) (.cons (V.az h5) (.cons (V.az h6) (.cons (V.az h7) (.cons (V.az h8) (.cons (V.az h9) (.cons (V.az hJ) (.cons (V.az bT) (.cons (V.az jq) (.cons (V.az gF) (.cons (V.az lZ) (.cons (V.az iQ) (.cons (V.az jr) (.cons (V.az l5) (.cons (V.az oT) (.cons (V.az rO) (.cons (V.az kZ) (.cons (V.az oU) (.cons (V.jo zh) (.cons (V.az vW) (.cons (V.az kz) (.cons (V.az s9) (.cons (V.az vX) (.cons (V.az td) aL.nil))))))))))))))))))))))))))))
 ·cases h
theorem Ti(o:Nat)(cs:List V)(x:yz)(h:Fx o cs=some x):aL cs (vT o x):=by
 unfold Fx at h
 split at h
 ·obtain⟨x0,h0,h⟩:=bind_some h
  obtain⟨x1,h1,h⟩:=bind_some h
  obtain⟨x2,h2,h⟩:=bind_some h
  obtain⟨x3,h3,h⟩:=bind_some h
  injection h with h
  subst h
  exact(.cons (V.az h0) (.cons (V.az h1) (.cons (V.az h2) (.cons (V.az h3) aL.nil))))
 ·cases h
theorem K3(o:Nat)(cs:List V)(x:yA)(h:B0 o cs=some x):aL cs (rJ o x):=by
 unfold B0 at h
 split at h
 ·obtain⟨x0,h0,h⟩:=bind_some h
  obtain⟨x1,h1,h⟩:=bind_some h
  obtain⟨x2,h2,h⟩:=bind_some h
  obtain⟨x3,h3,h⟩:=bind_some h
  obtain⟨x4,h4,h⟩:=bind_some h
  obtain⟨x5,h5,h⟩:=bind_some h
  obtain⟨x6,h6,h⟩:=bind_some h
  obtain⟨x7,h7,h⟩:=bind_some h
  obtain⟨x8,h8,h⟩:=bind_some h
  obtain⟨x9,h9,h⟩:=bind_some h
  obtain⟨kg,hJ,h⟩:=bind_some h
  obtain⟨ki,bT,h⟩:=bind_some h
  obtain⟨kj,jq,h⟩:=bind_some h
  obtain⟨ko,gF,h⟩:=bind_some h
  obtain⟨kq,lZ,h⟩:=bind_some h
  obtain⟨kr,iQ,h⟩:=bind_some h
  obtain⟨ku,jr,h⟩:=bind_some h
  obtain⟨rK,l5,h⟩:=bind_some h
  obtain⟨rL,oT,h⟩:=bind_some h
  obtain⟨rM,rO,h⟩:=bind_some h
  obtain⟨yX,kZ,h⟩:=bind_some h
  obtain⟨yY,oU,h⟩:=bind_some h
  obtain⟨yZ,zh,h⟩:=bind_some h
  obtain⟨za,vW,h⟩:=bind_some h
  obtain⟨zb,kz,h⟩:=bind_some h
  obtain⟨zc,s9,h⟩:=bind_some h
  obtain⟨ze,vX,h⟩:=bind_some h
  obtain⟨zg,td,h⟩:=bind_some h
  obtain⟨Kb,B1,h⟩:=bind_some h
  obtain⟨Kc,vY,h⟩:=bind_some h
  obtain⟨Ke,zi,h⟩:=bind_some h
  obtain⟨Kf,FC,h⟩:=bind_some h
  obtain⟨Kg,oV,h⟩:=bind_some h
  obtain⟨Kh,tf,h⟩:=bind_some h
  obtain⟨Ki,FD,h⟩:=bind_some h
  obtain⟨Kj,B2,h⟩:=bind_some h
  obtain⟨Kk,vZ,h⟩:=bind_some h
  obtain⟨Kl,FE,h⟩:=bind_some h
  obtain⟨Km,v8,h⟩:=bind_some h
  obtain⟨Kn,FF,h⟩:=bind_some h
  obtain⟨Ko,B3,h⟩:=bind_some h
  obtain⟨Kp,B4,h⟩:=bind_some h
  obtain⟨Kq,FG,h⟩:=bind_some h
  obtain⟨Kr,Tj,h⟩:=bind_some h
  obtain⟨Ks,FH,h⟩:=bind_some h
  obtain⟨Kt,zj,h⟩:=bind_some h
  obtain⟨Ku,Tk,h⟩:=bind_some h
  obtain⟨Kv,K4,h⟩:=bind_some h
  obtain⟨Kw,mF,h⟩:=bind_some h
  obtain⟨Kx,FI,h⟩:=bind_some h
  obtain⟨Ky,K5,h⟩:=bind_some h
  obtain⟨Kz,FJ,h⟩:=bind_some h
  obtain⟨KB,K6,h⟩:=bind_some h
  obtain⟨KC,B5,h⟩:=bind_some h
  obtain⟨KD,FK,h⟩:=bind_some h
  obtain⟨KE,Tl,h⟩:=bind_some h
  obtain⟨KF,FL,h⟩:=bind_some h
  obtain⟨KG,zk,h⟩:=bind_some h
  obtain⟨KH,Tn,h⟩:=bind_some h
  obtain⟨KI,K7,h⟩:=bind_some h
  obtain⟨KJ,B6,h⟩:=bind_some h
  obtain⟨KL,FM,h⟩:=bind_some h
  obtain⟨KM,K8,h⟩:=bind_some h
  obtain⟨KN,qR,h⟩:=bind_some h
  obtain⟨KO,K9,h⟩:=bind_some h
  obtain⟨KP,B7,h⟩:=bind_some h
  obtain⟨KQ,FN,h⟩:=bind_some h
  obtain⟨KR,To,h⟩:=bind_some h
  obtain⟨KS,FO,h⟩:=bind_some h
  obtain⟨KT,zl,h⟩:=bind_some h
  obtain⟨KU,Tp,h⟩:=bind_some h
  obtain⟨KV,FP,h⟩:=bind_some h
  obtain⟨KW,Tq,h⟩:=bind_some h
  obtain⟨KX,Tr,h⟩:=bind_some h
  obtain⟨KY,La,h⟩:=bind_some h
  injection h with h
  subst h
  exact(.cons (V.az h0) (.cons (V.az h1) (.cons (V.az h2) (.cons (V.az h3) (.cons (V.az h4) (.cons (V.az h5) (.cons (V.az h6) (.cons (V.az h7) (.cons (V.az h8) (.cons (V.az h9) (.cons (V.az hJ) (.cons (V.az bT) (.cons (V.az jq) (.cons (V.az gF) (.cons (V.az lZ) (.cons (V.az iQ) (.cons (V.az jr) (.cons (V.az l5) (.cons (V.az oT) (.cons (V.az rO) (.cons (V.az kZ) (.cons (V.az oU) (.cons (V.jo zh) (.cons (V.az vW) (.cons (V.az kz) (.cons (V.az s9) (.cons (V.az vX) (.cons (V.az td) (.cons (V.az B1) (.cons (V.az vY) (.cons (V.az zi) (.cons (V.az FC) (.cons (V.az oV) (.cons (V.bW tf) (.cons (V.az FD) (.cons (V.az B2) (.cons (V.az vZ) (.cons (V.az FE) (.cons (V.az v8) (.cons (V.az FF) (.cons (V.az B3) (.cons (V.bW B4) (.cons (V.az FG) (.cons (V.az Tj) (.cons (V.jo FH) (.cons (V.az zj) (.cons (V.bW Tk) (.cons (V.az K4) (.cons (V.bW mF) (.cons (V.bW FI) (.cons (V.bW K5) (.cons (V.bW FJ) (.cons (V.bW K6) (.cons (V.az B5) (.cons (V.bW FK) (.cons (V.bW Tl) (.cons (V.az FL) (.cons (V.jo zk) (.cons (V.bW Tn) (.cons (V.bW K7) (.cons (V.bW B6) (.cons (V.bW FM) (.cons (V.bW K8) (.cons (V.jo qR) (.cons (V.az K9) (.cons (V.az B7) (.cons (V.az FN) (.cons (V.az To) (.cons (V.az FO) (.cons (V.az zl) (.cons (V.az Tp) (.cons (V.az FP) (.cons (V.bW Tq) (.cons (V.bW Tr) (.cons (V.bW La) aL.nil)))))))))))))))))))))))))))))))))))))))))))))))))))))))))))))))))))))))))))
 ·cases h
theorem Ts(o:Nat)(cs:List V)(x:aC)(h:Fy o cs=some x):aL cs (yS o x):=by
 unfold Fy at h
 split at h
 ·obtain⟨x0,h0,h⟩:=bind_some h
  obtain⟨x1,h1,h⟩:=bind_some h
  obtain⟨x2,h2,h⟩:=bind_some h
  obtain⟨x3,h3,h⟩:=bind_some h
  obtain⟨x4,h4,h⟩:=bind_some h
  obtain⟨x5,h5,h⟩:=bind_some h
  obtain⟨x6,h6,h⟩:=bind_some h
  obtain⟨x7,h7,h⟩:=bind_some h
  obtain⟨x8,h8,h⟩:=bind_some h
  obtain⟨x9,h9,h⟩:=bind_some h
  obtain⟨kg,hJ,h⟩:=bind_some h
  obtain⟨ki,bT,h⟩:=bind_some h
  obtain⟨kj,jq,h⟩:=bind_some h
  obtain⟨ko,gF,h⟩:=bind_some h
  obtain⟨kq,lZ,h⟩:=bind_some h
  obtain⟨kr,iQ,h⟩:=bind_some h
  obtain⟨ku,jr,h⟩:=bind_some h
  obtain⟨rK,l5,h⟩:=bind_some h
  obtain⟨rL,oT,h⟩:=bind_some h
  obtain⟨rM,rO,h⟩:=bind_some h
  injection h with h
  subst h
  exact(.cons (V.az h0) (.cons (V.az h1) (.cons (V.az h2) (.cons (V.az h3) (.cons (V.jo h4) (.cons (V.az h5) (.cons (V.az h6) (.cons (V.az h7) (.cons (V.az h8) (.cons (V.az h9) (.cons (V.az hJ) (.cons (V.az bT) (.cons (V.az jq) (.cons (V.az gF) (.cons (V.az lZ) (.cons (V.az iQ) (.cons (V.az jr) (.cons (V.bW l5) (.cons (V.az oT) (.cons (V.az rO) aL.nil))))))))))))))))))))
 ·cases h
theorem Tt(o:Nat)(cs:List V)(x:BV)(h:Fz o cs=some x):aL cs (vU o x):=by
 unfold Fz at h
 split at h
 ·obtain⟨x0,h0,h⟩:=bind_some h
  obtain⟨x1,h1,h⟩:=bind_some h
  obtain⟨x2,h2,h⟩:=bind_some h
  injection h with h
  subst h
  exact(.cons (V.az h0) (.cons (V.az h1) (.cons (V.az h2) aL.nil)))
 ·cases h
theorem Tu(o:Nat)(cs:List V)(x:BW)(h:FA o cs=some x):aL cs (yT o x):=by
 unfold FA at h
 split at h
 ·obtain⟨x0,h0,h⟩:=bind_some h
  obtain⟨x1,h1,h⟩:=bind_some h
  obtain⟨x2,h2,h⟩:=bind_some h
  injection h with h
  subst h
  exact(.cons (V.bW h0) (.cons (V.az h1) (.cons (V.az h2) aL.nil)))
 ·cases h
theorem we{α:Type}{f:V->Option α}{g:α->V}(hf:∀ x a,f x=some a->Wk x (g a)){cs:List V}{x:α}(h:rN f cs=some x):aL cs [g x]:=by
 unfold rN at h
 split at h
 ·exact .cons (hf _ _ h) .nil
 ·cases h
theorem Tv{α:Type}{f:List V->Option α}{g:α->List V}(hf:∀ x a,f x=some a->aL x (g a)){cs:List V}{x:α}(h:FB f cs=some x):aL cs (.bool true :: g x):=by
 unfold FB at h
 split at h
 ·exact .cons (.same _) (hf _ _ h)
 ·cases h
theorem B8{α:Type}{n:Nat}{f:List V->Option α}{g:α->List V}(hf:∀ x a,f x=some a->aL x (g a)){cs:List V}{x:α}(h:vV n f cs=some x):aL cs (.bool false :: .int .i64 (n:Int) :: g x):=by
 unfold vV at h
 split at h
 ·split at h
  ·rename_i hn
   subst hn
   exact .cons (.same _) (.cons (.same _) (hf _ _ h))
  ·cases h
 ·cases h
theorem hU:(t:TC)->(o:Nat)->(cs:List V)->(x:T t)->dec t o cs=some x->aL cs (enc t o x)
 | .int,_,_,_,h=>we (g:=fun n=>.int .i64 n) (fun _ _=>V.az) h
 | .u8,_,_,_,h=>we (g:=fun n=>.int .u8 n) (fun _ _=>V.R7) h
 | .bool,_,_,_,h=>we (g:=fun n=>.bool n) (fun _ _=>V.jo) h
 | .str,_,_,_,h=>we (g:=fun n=>.str n) (fun _ _=>V.R8) h
 | .qU,o,cs,x,h=>SK o cs x h
 | .Addr,o,cs,x,h=>K0 o cs x h
 | .qV,o,cs,x,h=>SL o cs x h
 | .qW,o,cs,x,h=>SM o cs x h
 | .Command,o,cs,x,h=>K1 o cs x h
 | .qX,o,cs,x,h=>SN o cs x h
 | .lU,o,cs,x,h=>SO o cs x h
 | .qY,o,cs,x,h=>SP o cs x h
 | .Event,o,cs,x,h=>SQ o cs x h
 | .qZ,o,cs,x,h=>SR o cs x h
 | .Cell,o,cs,x,h=>SS o cs x h
 | .Array,o,cs,x,h=>SU o cs x h
 | .q7,o,cs,x,h=>SV o cs x h
 | .nP,o,cs,x,h=>SW o cs x h
 | .q8,o,cs,x,h=>SX o cs x h
 | .q9,o,cs,x,h=>SY o cs x h
 | .lV,o,cs,x,h=>K2 o cs x h
 | .nQ,o,cs,x,h=>SZ o cs x h
 | .rm,o,cs,x,h=>S0 o cs x h
 | .rq,o,cs,x,h=>S1 o cs x h
 | .ru,o,cs,x,h=>S2 o cs x h
 | .Power,o,cs,x,h=>S3 o cs x h
 | .nR,o,cs,x,h=>S4 o cs x h
 | .nS,o,cs,x,h=>S5 o cs x h
 | .rz,o,cs,x,h=>S6 o cs x h
 | .rA,o,cs,x,h=>S7 o cs x h
 | .Receiver,o,cs,x,h=>S8 o cs x h
 | .Node,o,cs,x,h=>S9 o cs x h
 | .Tree,o,cs,x,h=>Ta o cs x h
 | .rB,o,cs,x,h=>Tb o cs x h
 | .rC,o,cs,x,h=>Tc o cs x h
 | .rD,o,cs,x,h=>Td o cs x h
 | .Move,o,cs,x,h=>Te o cs x h
 | .lW,o,cs,x,h=>Tf o cs x h
 | .rE,o,cs,x,h=>Tg o cs x h
 | .Config,o,cs,x,h=>Th o cs x h
 | .nT,o,cs,x,h=>Ti o cs x h
 | .oN,o,cs,x,h=>K3 o cs x h
 | .Act,o,cs,x,h=>Ts o cs x h
 | .Fact,o,cs,x,h=>Tt o cs x h
 | .rF,o,cs,x,h=>Tu o cs x h
 | .sl t,o,_,_,h=>we (g:=fun n=>.sl t o false n) (fun _ _=>V.bW) h
 | .vw,o,_,_,h=>Tv (g:=rJ o) (K3 o) h
 | .vz g,o,_,_,h=>B8 (g:=fun n=>[.int .i64 n]) (fun _ _ h=>we (g:=fun n=>.int .i64 n) (fun _ _=>V.az) h) h
 | .vA g,o,_,_,h=>B8 (g:=rI o) (K2 o) h
 | .vB g,o,_,_,h=>B8 (g:=rG o) (K0 o) h
 | .fnCommand g,o,_,_,h=>B8 (g:=rH o) (K1 o) h
def V.low(n:Nat):V->Bool
 | .sl t _ _ _=>Nat.ble (full t+2) n
 | _=>true
theorem B9(t:TC)(o:Nat)(x:T t):∀ y∈enc t o x,y.low (full t)=true:=by
 cases t <;>simp[enc,V.low,full,vC,rG,vD,yB,rH,vE,vF,yC,vG,yD,yE,yF,vH,yG,yH,yI,rI,vI,vJ,yJ,vL,vM,vN,vO,yK,yL,yM,vP,yN,yO,vQ,yP,vR,yQ,yR,vS,vT,rJ,yS,vU,yT]
def V.plain:V->Bool
 | .int _ _ | .bool _ | .str _=>true
 | _=>false
theorem zm(t:TC)(o:Nat)(x:T t)(h:full t=0):∀ y∈enc t o x,y.plain=true:=by
 cases t <;>first | (simp[full]at h;done) | simp[enc,V.plain,vC,rG,vD,rH,vE,vF,vG,vH,rI,vI,vJ,vL,vM,vN,vO,vP,vQ,vR,vS,vT,vU]
def V.fK:V->Bool
 | .nil=>false
 | _=>true
theorem FQ(t:TC)(o:Nat)(x:T t):∀ y∈enc t o x,y.fK=true:=by
 cases t <;>simp[enc,V.fK,vC,rG,vD,yB,rH,vE,vF,yC,vG,yD,yE,yF,vH,yG,yH,yI,rI,vI,vJ,yJ,vL,vM,vN,vO,yK,yL,yM,vP,yN,yO,vQ,yP,vR,yQ,yR,vS,vT,rJ,yS,vU,yT]
def Tw:List TC:=[.int,.u8,.bool,.str,.sl .int,.sl .bool,.sl .str,.qU,.Addr,.qV,.qW,.Command,.qX,.lU,.qY,.Event,.qZ,.Cell,.Array,.q7,.nP,.q8,.q9,.lV,.nQ,.rm,.rq,.ru,.Power,.nR,.nS,.rz,.rA,.Receiver,.Node,.Tree,.rB,.rC,.rD,.Move,.lW,.rE,.Config,.nT,.oN,.Act,.Fact,.rF]
def Lb(e:TypeId):Option TC:=Tw.find? fun t=>Nat.beq (tid t) e
theorem Tx{e:TypeId}{t:TC}(h:Lb e=some t):tid t=e:=Nat.eq_of_beq_eq_true (List.find?_some (p:=fun t=>Nat.beq (tid t) e) h)
def V.gr(o:Nat):V->Bool
 | .sl _ o' _ _=>o'==o
 | _=>true
theorem oW(t:TC)(o:Nat)(x:T t):∀ y∈enc t o x,y.gr o=true:=by
 cases t <;>simp[enc,V.gr,vC,rG,vD,yB,rH,vE,vF,yC,vG,yD,yE,yF,vH,yG,yH,yI,rI,vI,vJ,yJ,vL,vM,vN,vO,yK,yL,yM,vP,yN,yO,vQ,yP,vR,yQ,yR,vS,vT,rJ,yS,vU,yT]
def V.av:V->Bool
 | .sl _ o _ _=>decide (o<2)
 | _=>true
def V.fE:V->V
 | .sl t _ q l=>.sl t 0 q l
 | x=>x
theorem Ty(t:TC)(o:Nat)(x y:T t):(enc t o x).map (fun v=>(v.plain,v.av))=(enc t o y).map (fun v=>(v.plain,v.av)):=by cases t <;>rfl
theorem fY(t:TC)(o:Nat)(x:T t)(ho:o<2)(j:Nat)(y:V)(h:(enc t o x)[j]?=some y):y.av=true:=by
 have:=oW t o x y (List.mem_of_getElem? h)
 cases y <;>simp_all [V.gr,V.av]
theorem Lc(t:TC)(o:Nat)(x:T t):enc t 0 x=(enc t o x).map V.fE:=by cases t <;>rfl
theorem oX(t:TC)(o:Nat)(x:T t)(j:Nat)(y:V)(h:(enc t 0 x)[j]?=some y):∃ z,(enc t o x)[j]?=some z/\y=z.fE:=by
 rw[Lc t o x,List.getElem?_map]at h
 cases hz:(enc t o x)[j]? with
 | none=>rw[hz]at h;cases h
 | some z=>rw[hz]at h;injection h with h;exact⟨z,rfl,h.symm⟩
abbrev aH:=Nat->Option (List Nat)
inductive RV (w:World) (B:Nat) (lab:aH):List Nat->V->Value->Prop
 | int (q:List Nat) (k:IntKind) (n:Int):RV w B lab q (.int k n) (.int k n)
 | bool (q:List Nat) (b:Bool):RV w B lab q (.bool b) (.bool b)
 | str (q:List Nat) (s:ByteArray):RV w B lab q (.str s) (.string s)
 | nil (q:List Nat):RV w B lab q .nil (.slice none 0 0)
 | bg (q:List Nat) (t:TC) (o:Nat):RV w B lab q (.sl t o false []) (.slice none 0 0)
 | bw (q:List Nat) (t:TC) (o:Nat) (A:Addr) (c:Nat) (ho:o<2):RV w B lab q (.sl t o false []) (.slice (some A) 0 c)
 | bI (q:List Nat) (t:TC) (o:Nat) (A:Addr) (c:Nat) (ho:o<2):RV w B lab q (.sl t o true []) (.slice (some A) 0 c)
 | av (q:List Nat) (t:TC) (o:Nat) (qn:Bool) (l:List (T t)) (b off cap:Nat) (u:Nat->Nat->Value) (ho:o<2) (hl:lab b=none) (U:b<w.heap.size) (h1:o=1->B<=b) (hcap:l.length<=cap)
   (hc:∀ i (h:i<l.length) j x,(enc t o l[i])[j]?=some x->w.cell? ⟨b,off+(i*aj t+j),none⟩=some (u i j))
   (hr:∀ i (h:i<l.length) j x,(enc t o l[i])[j]?=some x->RV w B lab [] x (u i j)):RV w B lab q (.sl t o qn l) (.slice (some ⟨b,off,none⟩) l.length cap)
 | own (q:List Nat) (t:TC) (o:Nat) (qn:Bool) (l:List (T t)) (b cap:Nat) (cs:Array Value) (u:Nat->Nat->Value) (hl:lab b=some q) (hh:w.heap[b]?=some (.cells cs (tid t) (0,0)))
   (hs:cs.size=cap*aj t) (hn:l.length<=cap) (hm:cap<=maxLen/\(qn=true->cap=l.length))
   (hc:∀ i (h:i<l.length) j x,(enc t o l[i])[j]?=some x->cs[i*aj t+j]?=some (u i j))
   (hr:∀ i (h:i<l.length) j x,(enc t o l[i])[j]?=some x->RV w B lab (j :: i :: aj t :: q) x (u i j)):RV w B lab q (.sl t (o+2) qn l) (.slice (some ⟨b,0,none⟩) l.length cap)
section
variable {w w':World} {B:Nat} {lab af:aH}
def V.zn(n:Nat):V->V
 | .sl t _ q l=>.sl t n q l
 | x=>x
theorem Tz(t:TC)(o n:Nat)(x:T t):enc t n x=(enc t o x).map (V.zn n):=by cases t <;>rfl
def V.fu(n:Nat):V->Prop
 | .sl t o _ _=>full t+2<=o/\full t+2<=n
 | _=>True
theorem RV.zn{q:List Nat}{x:V}{v:Value}(h:RV w B lab q x v):∀ n,x.fu n->RV w B lab q (x.zn n) v:=by
 induction h with
 | int=>exact fun _ _=>.int _ _ _
 | bool=>exact fun _ _=>.bool _ _
 | str=>exact fun _ _=>.str _ _
 | nil=>exact fun _ _=>.nil _
 | bg=>exact fun _ _=>.bg _ _ _
 | bw q t o A c ho=>exact fun n hn=>by have:=hn.1;omega
 | bI q t o A c ho=>exact fun n hn=>by have:=hn.1;omega
 | av q t o qn l b off cap u ho hl U h1 hcap hc hr ih=>exact fun n hn=>by have:=hn.1;omega
 | own q t o qn l b cap cs u hl hh hs hn hm hc hr ih=>
  intro n hf
  obtain⟨h1,h2⟩:=hf
  obtain⟨m,rfl⟩:∃ m,n=m+2:=⟨n-2,by omega⟩
  have key:∀ (i:Nat) (h:i<l.length) (j:Nat) (x:V),(enc t m l[i])[j]?=some x->∃ y:V,(enc t o l[i])[j]?=some y/\y.zn m=x/\y.fu m:=by
   intro i h j x hx
   rw[Tz t o m l[i],List.getElem?_map]at hx
   cases hy:(enc t o l[i])[j]? with
   | none=>rw[hy]at hx;cases hx
   | some y=>
    rw[hy]at hx
    injection hx with hx
    refine⟨y,rfl,hx,?_⟩
    have g1:=oW t o l[i] y (List.mem_of_getElem? hy)
    have g2:=B9 t o l[i] y (List.mem_of_getElem? hy)
    cases y with
    | sl t' o' q' l'=>
     have e:o'=o:=by simpa [V.gr]using g1
     have:=Nat.le_of_ble_eq_true (show Nat.ble (full t'+2) (full t)=true from g2)
     exact⟨by omega,by omega⟩
    | _=>trivial
  refine .own _ _ _ _ _ _ _ cs u hl hh hs hn hm (fun i h j x hx=>?_) (fun i h j x hx=>?_)
  ·obtain⟨y,hy,_⟩:=key i h j x hx
   exact hc i h j y hy
  ·obtain⟨y,hy,rfl,hf⟩:=key i h j x hx
   exact ih i h j y hy m hf
theorem RV.wk{q:List Nat}{x y:V}{v:Value}(h:RV w B lab q x v)(k:Wk x y):RV w B lab q y v:=by
 cases k with
 | same=>exact h
 | nil t o=>cases h;exact .bg _ _ _
 | gr t o o' qn l h1 h2=>
  have h:=h.zn o ⟨h2,h1⟩
  have h:RV w B lab q (.sl t o qn l) v:=h
  cases h with
  | bg=>exact .bg _ _ _
  | bw q t o A c ho=>exact .bw _ _ _ _ _ ho
  | bI q t o A c ho=>exact .bw _ _ _ _ _ ho
  | av q t o qn l b off cap u ho hl U h1 hcap hc hr=>exact .av _ _ _ _ _ _ _ _ u ho hl U h1 hcap hc hr
  | own q t o qn l b cap cs u hl hh hs hn hm hc hr=>exact .own _ _ _ _ _ _ _ cs u hl hh hs hn ⟨hm.1,fun h=>by cases h⟩ hc hr
 | q t o l=>
  cases h with
  | bI q t o A c ho=>exact .bw _ _ _ _ _ ho
  | av q t o qn l b off cap u ho hl U h1 hcap hc hr=>exact .av _ _ _ _ _ _ _ _ u ho hl U h1 hcap hc hr
  | own q t o qn l b cap cs u hl hh hs hn hm hc hr=>exact .own _ _ _ _ _ _ _ cs u hl hh hs hn ⟨hm.1,fun h=>by cases h⟩ hc hr
theorem RV.key{q q':List Nat}{x:V}{v:Value}(h:RV w B lab q x v)(hf:x.av=true):RV w B lab q' x v:=by
 cases h with
 | int=>exact .int _ _ _
 | bool=>exact .bool _ _
 | str=>exact .str _ _
 | nil=>exact .nil _
 | bg=>exact .bg _ _ _
 | bw=>exact .bw _ _ _ _ _ (by first | assumption | omega)
 | bI=>exact .bI _ _ _ _ _ (by first | assumption | omega)
 | av q t o qn l b off cap u ho hl U h1 hcap hc hr=>exact .av _ _ _ _ _ _ _ _ u ho hl U h1 hcap hc hr
 | own q t o qn l b cap cs u hl hh hs hn hm hc hr=>simp[V.av]at hf;omega
def ia:Value->Bool
 | .slice ..=>true
 | _=>false
theorem RV.Ca{q:List Nat}{x:V}{u:Value}(h:RV w B lab q x u)(hf:x.av=false):ia u=true:=by
 cases h <;>first | rfl | cases hf
theorem RV.one{q:List Nat}{x:V}{u:Value}(h:RV w B lab q x u):u.oneCell'=true:=by
 cases h <;>rfl
theorem RV.dh{q:List Nat}{x:V}{v:Value}(h:RV w B lab q x v)(hz:w.heap.size<=w'.heap.size)(hk:∀ b,b<w.heap.size->w'.heap[b]?=w.heap[b]?/\af b=lab b):RV w' B af q x v:=by
 induction h with
 | int=>exact .int _ _ _
 | bool=>exact .bool _ _
 | str=>exact .str _ _
 | nil=>exact .nil _
 | bg=>exact .bg _ _ _
 | bw=>exact .bw _ _ _ _ _ (by first | assumption | omega)
 | bI=>exact .bI _ _ _ _ _ (by first | assumption | omega)
 | av q t o qn l b off cap u ho hl U h1 hcap hc hr ih=>
  exact .av _ _ _ _ _ _ _ _ u ho ((hk b U).2.trans hl) (Nat.lt_of_lt_of_le U hz) h1 hcap (fun i h j x hx=>(World.cell?_of_block (a:=⟨b,_,none⟩) (hk b U).1).trans (hc i h j x hx)) ih
 | own q t o qn l b cap cs u hl hh hs hn hm hc hr ih=>
  have U:b<w.heap.size:=(Array.getElem?_eq_some_iff.1 hh).1
  exact .own _ _ _ _ _ _ _ cs u ((hk b U).2.trans hl) ((hk b U).1.trans hh) hs hn hm hc ih
theorem RV.apart{q kt:List Nat}{x:V}{v:Value}{bt:Nat}(h:RV w B lab q x v)(wg:lab bt=some kt)(hq:¬ q <:+ kt\/x.av=true)(hz:w.heap.size<=w'.heap.size)(hk:∀ b,b≠bt->w'.heap[b]?=w.heap[b]?):RV w' B lab q x v:=by
 induction h with
 | int=>exact .int _ _ _
 | bool=>exact .bool _ _
 | str=>exact .str _ _
 | nil=>exact .nil _
 | bg=>exact .bg _ _ _
 | bw=>exact .bw _ _ _ _ _ (by first | assumption | omega)
 | bI=>exact .bI _ _ _ _ _ (by first | assumption | omega)
 | av q t o qn l b off cap u ho hl U h1 hcap hc hr ih=>
  have aA:b≠bt:=by rintro rfl;rw[hl]at wg;cases wg
  refine .av _ _ _ _ _ _ _ _ u ho hl (Nat.lt_of_lt_of_le U hz) h1 hcap (fun i h j x hx=>(World.cell?_of_block (a:=⟨b,_,none⟩) (hk b aA)).trans (hc i h j x hx)) (fun i h j x hx=>ih i h j x hx (.inr (fY t o l[i] ho j x hx)))
 | own q t o qn l b cap cs u hl hh hs hn hm hc hr ih=>
  have gG:¬ q <:+ kt:=by
   rcases hq with hq | hq
   ·exact hq
   ·simp[V.av]at hq;omega
  have aA:b≠bt:=by rintro rfl;rw[hl]at wg;injection wg with wg;subst wg;exact gG (List.suffix_refl _)
  refine .own _ _ _ _ _ _ _ cs u hl ((hk b aA).trans hh) hs hn hm hc (fun i h j x hx=>ih i h j x hx (.inl fun hs=>gG (List.IsSuffix.trans ⟨[j,i,aj t],rfl⟩ hs)))
theorem RV.fE{q q':List Nat}{x:V}{v:Value}(h:RV w B lab q x v){B':Nat}:RV w B' (fun _=>none) q' x.fE v:=by
 induction h generalizing q' with
 | int=>exact .int _ _ _
 | bool=>exact .bool _ _
 | str=>exact .str _ _
 | nil=>exact .nil _
 | bg=>exact .bg _ _ _
 | bw=>exact .bw _ _ _ _ _ (by first | assumption | omega)
 | bI=>exact .bI _ _ _ _ _ (by first | assumption | omega)
 | av q t o qn l b off cap u ho hl U h1 hcap hc hr ih=>
  refine .av _ _ _ _ _ _ _ _ u (by omega) rfl U (by omega) hcap (fun i h j x hx=>?_) (fun i h j x hx=>?_)
  ·obtain⟨y,hy,_⟩:=oX t o l[i] j x hx
   exact hc i h j y hy
  ·obtain⟨y,hy,rfl⟩:=oX t o l[i] j x hx
   exact ih i h j y hy
 | own q t o qn l b cap cs u hl hh hs hn hm hc hr ih=>
  refine .av _ _ _ _ _ _ _ _ u (by omega) rfl (Array.getElem?_eq_some_iff.1 hh).1 (by omega) hn (fun i h j x hx=>?_) (fun i h j x hx=>?_)
  ·obtain⟨y,hy,_⟩:=oX t o l[i] j x hx
   have:=hc i h j y hy
   rw[Nat.zero_add,cell_of_row w b _ cs _ _ hh]
   exact this
  ·obtain⟨y,hy,rfl⟩:=oX t o l[i] j x hx
   exact ih i h j y hy
end
end Go.Proofs.YtjldnlbiefpekaaDoor
namespace Go.Proofs.YtjldnlbiefpekaaDoor
open Go.RowKit
set_option linter.unusedVariables false
inductive Lf where
 | v (x:V)
 | own (k:List Nat)
 | dead
inductive A where
 | undef
 | skip
 | lf (x:Lf)
 | agg (cs:List Lf)
 | aU (xs:List (Bool×List Lf))
 | ptr (k:List Nat)
 | aF (r j:Nat)
 | ec (cs:List V)
 | ic (f:Nat) (cs:List V)
 | pk (r n:Nat)
 | view (k:List Nat) (s i j:Nat)
 | fn (f:Nat) (cap:List (Nat×Nat))
inductive ax where
 | blk (cs:List Lf)
 | sl (y:V)
 | mp (l:List (Int×Bool))
 | gh (xs:List A)
structure S where
 t:Nat->A
 m:Nat->Option ax
inductive Loc where
 | blk (b off:Nat)
 | bX (v:Value)
 | aM (us:List Value)
def addrAt(w:World)(lab:aH)(ρ:Nat->Loc):List Nat->Option Addr
 | j :: i :: s :: [r]=>match ρ r with
  | .bX (.slice (some ⟨b,0,none⟩) _ _)=>if lab b=some [r]then some ⟨b,i*s+j,none⟩else none
  | _=>none
 | j :: i :: s :: q=>match (addrAt w lab ρ q).bind w.cell? with
  | some (.slice (some ⟨b,0,none⟩) _ _)=>if lab b=some q then some ⟨b,i*s+j,none⟩else none
  | _=>none
 | _=>none
def aP(w:World)(lab:aH)(ρ:Nat->Loc):List Nat->Option Value
 | [r]=>match ρ r with
  | .bX v=>some v
  | _=>none
 | q=>(addrAt w lab ρ q).bind w.cell?
def bB(w:World)(B:Nat)(lab:aH)(ρ:Nat->Loc):Lf->Value->Prop
 | .v x,u=>x.av=true/\RV w B lab [] x u
 | .own k,u=>ia u=true/\aP w lab ρ k=some u
 | .dead,_=>True
def bK(w:World)(B:Nat)(lab:aH)(ρ:Nat->Loc)(cs:List Lf)(us:Array Value):Prop:=
 us.size=cs.length/\∀ (j:Nat) x,cs[j]?=some x->∃ u,us[j]?=some u/\bB w B lab ρ x u
def RP(w:World)(B:Nat)(lab:aH)(ρ:Nat->Loc)(p:Bool×List Lf)(u:Value):Prop:=
 match p with
 | (true,cs)=>∃ us,u = .agg us/\bK w B lab ρ cs us
 | (false,cs)=>bK w B lab ρ cs #[u]
def kA:Nat:=4294967296
def Cb(b n:Nat):Value:=bif Nat.beq n kA then .map (some b)else .slice (some ⟨b,0,none⟩) n n
theorem FR{b n:Nat}(h:n<kA):Cb b n = .slice (some ⟨b,0,none⟩) n n:=by
 unfold Cb
 cases U:Nat.beq n kA with
 | true=>have:=Nat.eq_of_beq_eq_true U;omega
 | false=>rfl
theorem FT(b:Nat):Cb b kA = .map (some b):=rfl
def RF(w:World)(B:Nat)(lab:aH)(cs:List V)(u:Value):Prop:=
 ∃ b off,u = .pointer (some ⟨b,off,none⟩)/\b<w.heap.size/\lab b=none/\∀ (j:Nat) x,cs[j]?=some x->x.av=true/\∃ v,w.cell? ⟨b,off+j,none⟩=some v/\RV w B lab [] x v
def RA(w:World)(B:Nat)(lab:aH)(ρ:Nat->Loc):A->Value->Prop
 | .undef,_=>True
 | .skip,u=>u=Go.undef
 | .lf x,u=>bB w B lab ρ x u
 | .agg cs,u=>RP w B lab ρ (true,cs) u
 | .aU xs,u=>∃ us:Array Value,u = .tuple us/\us.size=xs.length/\∀ (j:Nat) p,xs[j]?=some p->∃ v,us[j]?=some v/\RP w B lab ρ p v
 | .ptr k,u=>∃ ad,u = .pointer (some ad)/\addrAt w lab ρ k=some ad
 | .aF r j,u=>∃ b off,ρ r = .blk b off/\u = .pointer (some ⟨b,off+j,none⟩)
 | .ec cs,u=>RF w B lab cs u
 | .ic f cs,u=>∃ pv,u = .func (.func f) #[] #[pv]/\RF w B lab cs pv
 | .pk r n,u=>∃ b,ρ r = .blk b 0/\u=Cb b n
 | .view k s i j,u=>∃ A n c,aP w lab ρ k=some (.slice A n c)/\i<=j/\j<=n/\u=sliced A i j c s
 | .fn f cap,u=>∃ vs:Array Value,u = .func (.func f) #[] vs/\vs.size=cap.length/\∀ (j:Nat) p,cap[j]?=some p->∃ b off,ρ p.1 = .blk b off/\vs[j]?=some (.pointer (some ⟨b,off+p.2,none⟩))
inductive bU (w:World) (B:Nat) (lab:aH) (ρ:Nat->Loc) (r:Nat):ax->Prop
 | blk (b off:Nat) (cells:Array Value) (e:TypeId) (cs:List Lf) (us:Nat->Value) (au:ρ r = .blk b off) (hl:lab b=some [r]) (hh:w.heap[b]?=some (.cells cells e (0,0))) (hs:off+cs.length<=cells.size)
   (hc:∀ (j:Nat) x,cs[j]?=some x->cells[off+j]?=some (us j)/\bB w B lab ρ x (us j)):bU w B lab ρ r (.blk cs)
 | sl (v:Value) (y:V) (au:ρ r = .bX v) (hr:RV w B lab [r] y v):bU w B lab ρ r (.sl y)
 | mp (b clock:Nat) (es:Array MapEntry) (l:List (Int×Bool)) (au:ρ r = .blk b 0) (hl:lab b=some [r]) (hh:w.heap[b]?=some (.map es clock)) (he:es.toList.map (fun e=>(e.key,e.val))=l.map fun p=>(.int .i64 p.1,.bool p.2)):bU w B lab ρ r (.mp l)
 | gh (us:List Value) (xs:List A) (au:ρ r = .aM us) (hx:∀ (j:Nat) x,xs[j]?=some x->RA w B lab ρ x (us.getD j undef)):bU w B lab ρ r (.gh xs)
def Qw(w:World):Prop:=Lib.TabIs Tryd.prog w "internal/strconv.uint64pow10" .u64 Lib.pow10Tab/\∃ m,w.cell? ⟨0,0,none⟩=some (.int .i64 m)
theorem Qw.TA{w:World}(h:Qw w):Lib.TabIs Tryd.prog w "internal/strconv.uint64pow10" .u64 Lib.pow10Tab:=h.1
structure TB (n:Nat) (L:aH) (w w':World):Prop where
 os:w'.os=w.os
 tape:w'.tape=w.tape
 output:w'.output=w.output
 size:w.heap.size<=w'.heap.size
 block:∀ k,k<n->L k=none->w'.heap[k]?=w.heap[k]?
def Hd(w:World)(L:aH):Prop:=∀ w',TB w.heap.size L w w'->Qw w'
theorem TD{w:World}(h:Qw w):Hd w fun _=>none:=fun w' U=>⟨Lib.tabBelow_of_tabIs h.1 w' ⟨U.os,U.tape,U.output,U.size,fun k hk=>U.block k hk rfl⟩,by
 obtain⟨m,hm⟩:=h.2
 exact⟨m,(World.cell?_of_block (a:=⟨0,0,none⟩) (U.block 0 (block_lt_of_cell hm) rfl)).trans hm⟩⟩
theorem Hd.here{w:World}{L:aH}(h:Hd w L):Qw w:=h w ⟨rfl,rfl,rfl,Nat.le_refl _,fun _ _ _=>rfl⟩
structure Wd where
 w:World
 L:aH
 F:Nat->Option Loc
 held:Hd w L
 low:∀ r,r<20000->F r=none
def Wd.heap(d:Wd):Array Obj:=d.w.heap
def Wd.of(w:World)(h:Hd w fun _=>none):Wd:=⟨w,fun _=>none,fun _=>none,h,fun _ _=>rfl⟩
structure eL (d:Wd) (w w':World):Prop where
 os:w'.os=w.os
 tape:w'.tape=w.tape
 output:w'.output=w.output
 size:w.heap.size<=w'.heap.size
 block:∀ k,k<d.heap.size->d.L k=none->w'.heap[k]?=w.heap[k]?
theorem eL.trans{d:Wd}{a b c:World}(h:eL d a b)(k:eL d b c):eL d a c:=
 ⟨k.os.trans h.os,k.tape.trans h.tape,k.output.trans h.output,Nat.le_trans h.size k.size,fun i hi hl=>(k.block i hi hl).trans (h.block i hi hl)⟩
theorem Wd.on(d:Wd){w:World}(h:eL d d.w w){L:aH}(hL:∀ b k,L b=some k->d.heap.size<=b\/d.L b≠none):Hd w L:=fun w' U=>
 d.held w' ⟨U.os.trans h.os,U.tape.trans h.tape,U.output.trans h.output,Nat.le_trans h.size U.size,fun k hk hl=>by
  have e:L k=none:=by
   cases e:L k with
   | none=>rfl
   | some q=>
    rcases hL k q e with h1 | h1
    ·exact absurd hk (Nat.not_lt.2 h1)
    ·exact absurd hl h1
  exact(U.block k (Nat.lt_of_lt_of_le hk h.size) e).trans (h.block k hk hl)⟩
theorem eL.of{d:Wd}{a b:World}{B:Nat}(h:Below B a b)(hB:d.heap.size<=B):eL d a b:=
 ⟨h.os,h.tape,h.output,h.size,fun i hi _=>h.block i (Nat.lt_of_lt_of_le hi hB)⟩
structure Rl (w0:Wd) (N:Nat) (lab:aH) (ρ:Nat->Loc) (σ:S) (a:Act) (w:World):Prop where
 below:eL w0 w0.w w
 bh:∀ b k,lab b=some k->(w0.heap.size<=b\/w0.L b≠none)/\b<w.heap.size/\k≠[]
 root:∀ r x,σ.m r=some x->bU w w0.heap.size lab ρ r x
 tmp:∀ k,RA w w0.heap.size lab ρ (σ.t k) (a.tmps.getD k undef)
 size:a.tmps.size=N
 defers:a.defers=[]
 fix:∀ r l,w0.F r=some l->ρ r=l
 cF:∀ r,(r<N\/60000<=r)->w0.F r=none
def R(w0:Wd)(N:Nat)(σ:S)(a:Act)(w:World):Prop:=∃ lab ρ,Rl w0 N lab ρ σ a w
/-! Reading along a key. -/
inductive nU (m:Nat->Option ax):List Nat->V->Prop
 | root (r:Nat) (y:V) (h:m r=some (.sl y)):nU m [r] y
 | elem (j i:Nat) (q:List Nat) (t:TC) (o:Nat) (qn:Bool) (l:List (T t)) (y:V) (h:nU m q (.sl t (o+2) qn l)) (hi:i<l.length) (hy:(enc t o l[i])[j]?=some y):nU m (j :: i :: aj t :: q) y
section
variable {w w':World} {w0:Wd} {B N:Nat} {lab af:aH} {ρ ρ':Nat->Loc} {m:Nat->Option ax} {σ:S} {a:Act}
theorem th{q:List Nat}(j i s:Nat){b n c:Nat}(h:aP w lab ρ q=some (.slice (some ⟨b,0,none⟩) n c))(hl:lab b=some q):addrAt w lab ρ (j :: i :: s :: q)=some ⟨b,i*s+j,none⟩:=by
 match q,h,hl with
 | [r],h,hl=>
  simp only[aP]at h
  simp only[addrAt]
  cases hr:ρ r with
  | blk b off=>rw[hr]at h;cases h
  | bX v=>rw[hr]at h;injection h with h;subst h;simp[hl]
  | aM us=>rw[hr]at h;cases h
 | [],h,hl=>simp[aP,addrAt]at h
 | x :: y :: q,h,hl=>
  simp only[aP]at h
  simp only[addrAt,h,hl,if_true]
theorem Cc{j i s:Nat}{q:List Nat}:aP w lab ρ (j :: i :: s :: q)=(addrAt w lab ρ (j :: i :: s :: q)).bind w.cell?:=rfl
theorem nU.ok{k:List Nat}{y:V}(h:nU m k y)(hm:∀ r x,m r=some x->bU w B lab ρ r x):∃ u,aP w lab ρ k=some u/\RV w B lab k y u:=by
 induction h with
 | root r y h=>
  cases hm _ _ h with
  | sl v y au hr=>exact⟨v,by simp[aP,au],hr⟩
 | elem j i q t o qn l y h hi hy ih=>
  obtain⟨u,hu,hr⟩:=ih
  cases hr with
  | bg=>simp at hi
  | bw=>simp at hi
  | bI=>simp at hi
  | av _ _ _ _ _ _ _ _ _ ho=>omega
  | own _ _ _ _ _ b cap cs us hl hh hs hn hm hc hr=>
   refine⟨us i j,?_,hr i hi j y hy⟩
   rw[Cc,th j i (aj t) hu hl]
   show w.cell? _=_
   rw[cell_of_row w b _ cs _ _ hh]
   exact hc i hi j y hy
theorem rP:∀ (k:List Nat) (ad:Addr),addrAt w lab ρ k=some ad->∃ j i s q,k=j :: i :: s :: q/\lab ad.block=some q/\ad.off=i*s+j/\ad.spot=none/\(∀ r,q=[r]->∃ v,ρ r = .bX v)
 | [],_,h=>by simp[addrAt]at h
 | [_],_,h=>by simp[addrAt]at h
 | [_,_],_,h=>by simp[addrAt]at h
 | [_,_,_],_,h=>by simp[addrAt]at h
 | [j,i,s,r],ad,h=>by
  simp only[addrAt]at h
  split at h
  ·rename_i v b n c hr
   split at h
   ·rename_i hl
    injection h with h
    subst h
    exact⟨j,i,s,[r],rfl,hl,rfl,rfl,fun r' e=>by injection e with e;subst e;exact⟨_,hr⟩⟩
   ·cases h
  ·cases h
 | j :: i :: s :: x :: y :: q,ad,h=>by
  simp only[addrAt]at h
  split at h
  ·split at h
   ·rename_i hl
    injection h with h
    subst h
    exact⟨j,i,s,x :: y :: q,rfl,hl,rfl,rfl,fun r' e=>by injection e with _ e;cases e⟩
   ·cases h
  ·cases h
theorem FU(hk:∀ b,b<w.heap.size->w'.heap[b]?=w.heap[b]?/\af b=lab b)(hg:∀ b k,lab b=some k->b<w.heap.size):∀ (k:List Nat) (ad:Addr),addrAt w lab ρ k=some ad->addrAt w' af ρ k=some ad
 | [],_,h=>h
 | [_],_,h=>h
 | [_,_],_,h=>h
 | [_,_,_],_,h=>by simp only[addrAt]at h ⊢;exact h
 | [j,i,s,r],_,h=>by
  simp only[addrAt]at h ⊢
  split at h
  ·rename_i v b n c hr
   split at h
   ·rename_i hl
    rw[if_pos ((hk _ (hg _ _ hl)).2.trans hl)]
    exact h
   ·cases h
  ·cases h
 | j :: i :: s :: x :: y :: q,ad,h=>by
  simp only[addrAt]at h ⊢
  cases ha:addrAt w lab ρ (x :: y :: q)with
  | none=>rw[ha]at h;cases h
  | some jK=>
   rw[FU hk hg _ _ ha]
   rw[ha]at h
   cases hc:w.cell? jK with
   | none=>simp[hc]at h
   | some v=>
    have e:w'.cell? jK=some v:=(World.cell?_of_block (hk _ (block_lt_of_cell hc)).1).trans hc
    simp only[Option.bind_some,hc]at h
    simp only[Option.bind_some,e]
    split at h
    ·split at h
     ·rename_i hl
      rw[if_pos ((hk _ (hg _ _ hl)).2.trans hl)]
      exact h
     ·cases h
    ·cases h
theorem Ld(hk:∀ b,b<w.heap.size->w'.heap[b]?=w.heap[b]?/\af b=lab b)(hg:∀ b k,lab b=some k->b<w.heap.size)(k:List Nat)(u:Value)(h:aP w lab ρ k=some u):aP w' af ρ k=some u:=by
 match k,h with
 | [],h=>simp[aP,addrAt]at h
 | [r],h=>exact h
 | x :: y :: q,h=>
  simp only[aP]at h ⊢
  cases ha:addrAt w lab ρ (x :: y :: q)with
  | none=>rw[ha]at h;cases h
  | some ad=>
   rw[FU hk hg _ _ ha]
   rw[ha]at h
   have h:w.cell? ad=some u:=h
   exact(World.cell?_of_block (hk _ (block_lt_of_cell h)).1).trans h
theorem bB.dh{x:Lf}{u:Value}(h:bB w B lab ρ x u)(hz:w.heap.size<=w'.heap.size)(hk:∀ b,b<w.heap.size->w'.heap[b]?=w.heap[b]?/\af b=lab b)(hg:∀ b k,lab b=some k->b<w.heap.size):bB w' B af ρ x u:=by
 cases x with
 | v x=>exact⟨h.1,h.2.dh hz hk⟩
 | own k=>exact⟨h.1,Ld hk hg _ _ h.2⟩
 | dead=>trivial
theorem bK.dh{cs:List Lf}{us:Array Value}(h:bK w B lab ρ cs us)(hz:w.heap.size<=w'.heap.size)(hk:∀ b,b<w.heap.size->w'.heap[b]?=w.heap[b]?/\af b=lab b)(hg:∀ b k,lab b=some k->b<w.heap.size):bK w' B af ρ cs us:=
 ⟨h.1,fun j x hx=>let ⟨u,hu,r⟩:=h.2 j x hx;⟨u,hu,r.dh hz hk hg⟩⟩
theorem RP.dh{p:Bool×List Lf}{u:Value}(h:RP w B lab ρ p u)(hz:w.heap.size<=w'.heap.size)(hk:∀ b,b<w.heap.size->w'.heap[b]?=w.heap[b]?/\af b=lab b)(hg:∀ b k,lab b=some k->b<w.heap.size):RP w' B af ρ p u:=by
 obtain⟨b,cs⟩:=p
 cases b with
 | true=>obtain⟨us,e,h⟩:=h;exact⟨us,e,h.dh hz hk hg⟩
 | false=>exact bK.dh h hz hk hg
theorem RF.dh{cs:List V}{u:Value}(h:RF w B lab cs u)(hz:w.heap.size<=w'.heap.size)(hk:∀ b,b<w.heap.size->w'.heap[b]?=w.heap[b]?/\af b=lab b):RF w' B af cs u:=by
 obtain⟨b,off,e,U,hl,h⟩:=h
 refine⟨b,off,e,Nat.lt_of_lt_of_le U hz,((hk b U).2).trans hl,fun j x hx=>?_⟩
 obtain⟨hf,v,hv,hr⟩:=h j x hx
 exact⟨hf,v,(World.cell?_of_block (a:=⟨b,_,none⟩) (hk b U).1).trans hv,hr.dh hz hk⟩
theorem RA.dh{x:A}{u:Value}(h:RA w B lab ρ x u)(hz:w.heap.size<=w'.heap.size)(hk:∀ b,b<w.heap.size->w'.heap[b]?=w.heap[b]?/\af b=lab b)(hg:∀ b k,lab b=some k->b<w.heap.size):RA w' B af ρ x u:=by
 cases x with
 | undef=>trivial
 | skip=>exact h
 | lf x=>exact bB.dh h hz hk hg
 | agg cs=>exact RP.dh (p:=(true,cs)) h hz hk hg
 | aU xs=>obtain⟨us,e,hs,h⟩:=h;exact⟨us,e,hs,fun j p hp=>let ⟨v,hv,r⟩:=h j p hp;⟨v,hv,r.dh hz hk hg⟩⟩
 | ptr k=>obtain⟨ad,e,h⟩:=h;exact⟨ad,e,FU hk hg _ _ h⟩
 | view k s i j=>obtain⟨A,n,c,h,g⟩:=h;exact⟨A,n,c,Ld hk hg _ _ h,g⟩
 | pk r n=>exact h
 | aF r j=>exact h
 | ec cs=>exact RF.dh h hz hk
 | ic f cs=>obtain⟨pv,e,h⟩:=h;exact⟨pv,e,h.dh hz hk⟩
 | fn f cap=>exact h
theorem bU.dh{r:Nat}{x:ax}(h:bU w B lab ρ r x)(hz:w.heap.size<=w'.heap.size)(hk:∀ b,b<w.heap.size->w'.heap[b]?=w.heap[b]?/\af b=lab b)(hg:∀ b k,lab b=some k->b<w.heap.size):bU w' B af ρ r x:=by
 cases h with
 | blk b off cells e cs us au hl hh hs hc=>
  have U:b<w.heap.size:=(Array.getElem?_eq_some_iff.1 hh).1
  exact .blk b off cells e cs us au ((hk b U).2.trans hl) ((hk b U).1.trans hh) hs (fun j x hx=>⟨(hc j x hx).1,(hc j x hx).2.dh hz hk hg⟩)
 | sl v y au hr=>exact .sl v y au (hr.dh hz hk)
 | mp b c es l au hl hh he=>
  have U:b<w.heap.size:=(Array.getElem?_eq_some_iff.1 hh).1
  exact .mp b c es l au ((hk b U).2.trans hl) ((hk b U).1.trans hh) he
 | gh us xs au hx=>exact .gh us xs au fun j x hj=>(hx j x hj).dh hz hk hg
/-! A root's name is given anew: what named it before is forgotten. -/
def aE(d:Nat)(k:List Nat):Bool:=k.getLast?==some d
def Lf.drop(d:Nat):Lf->Lf
 | .own k=>bif aE d k then .dead else .own k
 | x=>x
def A.drop(d:Nat):A->A
 | .lf x=>.lf (x.drop d)
 | .agg cs=>.agg (cs.map (Lf.drop d))
 | .aU xs=>.aU (xs.map fun p=>(p.1,p.2.map (Lf.drop d)))
 | .ptr k=>bif aE d k then .undef else .ptr k
 | .aF r j=>bif Nat.beq r d then .undef else .aF r j
 | .pk r n=>bif Nat.beq r d then .undef else .pk r n
 | .view k s i j=>bif aE d k then .undef else .view k s i j
 | .fn f cap=>bif cap.any (fun p=>Nat.beq p.1 d)then .undef else .fn f cap
 | x=>x
def ax.drop(d:Nat):ax->ax
 | .blk cs=>.blk (cs.map (Lf.drop d))
 | .gh xs=>.gh (xs.map (A.drop d))
 | x=>x
theorem FV{d:Nat}(au:∀ r,r≠d->ρ' r=ρ r):∀ (k:List Nat),aE d k=false->addrAt w lab ρ' k=addrAt w lab ρ k
 | [],_=>rfl
 | [_],_=>rfl
 | [_,_],_=>rfl
 | [_,_,_],_=>rfl
 | [j,i,s,r],h=>by
  have hr:r≠d:=by rintro rfl;simp[aE]at h
  simp only[addrAt,au r hr]
 | j :: i :: s :: x :: y :: q,h=>by
  have h':aE d (x :: y :: q)=false:=by simpa [aE]using h
  simp only[addrAt,FV au (x :: y :: q) h']
theorem Le{d:Nat}(au:∀ r,r≠d->ρ' r=ρ r)(k:List Nat)(h:aE d k=false):aP w lab ρ' k=aP w lab ρ k:=by
 match k,h with
 | [],_=>rfl
 | [r],h=>
  have hr:r≠d:=by rintro rfl;simp[aE]at h
  simp only[aP,au r hr]
 | x :: y :: q,h=>simp only[aP,FV au _ h]
theorem bB.b8{d:Nat}(au:∀ r,r≠d->ρ' r=ρ r){x:Lf}{u:Value}(h:bB w B lab ρ x u):bB w B lab ρ' (x.drop d) u:=by
 cases x with
 | v x=>exact h
 | dead=>trivial
 | own k=>
  have e:Lf.drop d (.own k)=(bif aE d k then .dead else .own k):=rfl
  rw[e]
  cases hl:aE d k with
  | true=>trivial
  | false=>exact⟨h.1,(Le au k hl).trans h.2⟩
theorem bK.b8{d:Nat}(au:∀ r,r≠d->ρ' r=ρ r){cs:List Lf}{us:Array Value}(h:bK w B lab ρ cs us):bK w B lab ρ' (cs.map (Lf.drop d)) us:=by
 refine⟨by rw[List.length_map];exact h.1,fun j x hx=>?_⟩
 rw[List.getElem?_map]at hx
 cases hy:cs[j]? with
 | none=>rw[hy]at hx;cases hx
 | some y=>
  rw[hy]at hx
  injection hx with hx
  subst hx
  obtain⟨u,hu,r⟩:=h.2 j y hy
  exact⟨u,hu,r.b8 au⟩
theorem RP.b8{d:Nat}(au:∀ r,r≠d->ρ' r=ρ r){p:Bool×List Lf}{u:Value}(h:RP w B lab ρ p u):RP w B lab ρ' (p.1,p.2.map (Lf.drop d)) u:=by
 obtain⟨b,cs⟩:=p
 cases b with
 | true=>obtain⟨us,e,h⟩:=h;exact⟨us,e,h.b8 au⟩
 | false=>exact bK.b8 au h
theorem RA.b8{d:Nat}(au:∀ r,r≠d->ρ' r=ρ r){x:A}{u:Value}(h:RA w B lab ρ x u):RA w B lab ρ' (x.drop d) u:=by
 cases x with
 | undef=>trivial
 | skip=>exact h
 | lf x=>exact bB.b8 au h
 | agg cs=>exact RP.b8 (p:=(true,cs)) au h
 | aU xs=>
  obtain⟨us,e,hs,h⟩:=h
  refine⟨us,e,by rw[List.length_map];exact hs,fun j p hp=>?_⟩
  rw[List.getElem?_map]at hp
  cases hy:xs[j]? with
  | none=>rw[hy]at hp;cases hp
  | some y=>
   rw[hy]at hp
   injection hp with hp
   subst hp
   obtain⟨v,hv,r⟩:=h j y hy
   exact⟨v,hv,r.b8 au⟩
 | ptr k=>
  have e:A.drop d (.ptr k)=(bif aE d k then .undef else .ptr k):=rfl
  rw[e]
  cases hl:aE d k with
  | true=>trivial
  | false=>obtain⟨ad,e,h⟩:=h;exact⟨ad,e,(FV au k hl).trans h⟩
 | view k s i j=>
  have e:A.drop d (.view k s i j)=(bif aE d k then .undef else .view k s i j):=rfl
  rw[e]
  cases hl:aE d k with
  | true=>trivial
  | false=>obtain⟨A,n,c,h,g⟩:=h;exact⟨A,n,c,(Le au k hl).trans h,g⟩
 | pk r n=>
  have e:A.drop d (.pk r n)=(bif Nat.beq r d then .undef else .pk r n):=rfl
  rw[e]
  cases hl:Nat.beq r d with
  | true=>trivial
  | false=>
   have hr:r≠d:=by rintro rfl;simp at hl
   obtain⟨b,e,h⟩:=h
   exact⟨b,(au r hr).trans e,h⟩
 | aF r j=>
  have e:A.drop d (.aF r j)=(bif Nat.beq r d then .undef else .aF r j):=rfl
  rw[e]
  cases hl:Nat.beq r d with
  | true=>trivial
  | false=>
   have hr:r≠d:=by rintro rfl;simp at hl
   obtain⟨b,off,e,h⟩:=h
   exact⟨b,off,(au r hr).trans e,h⟩
 | ec cs=>exact h
 | ic f cs=>exact h
 | fn f cap=>
  have e:A.drop d (.fn f cap)=(bif cap.any (fun p=>Nat.beq p.1 d)then .undef else .fn f cap):=rfl
  rw[e]
  cases hl:cap.any (fun p=>Nat.beq p.1 d)with
  | true=>trivial
  | false=>
   obtain⟨vs,e,hs,h⟩:=h
   refine⟨vs,e,hs,fun j p hp=>?_⟩
   obtain⟨b,off,e2,h2⟩:=h j p hp
   have hr:p.1≠d:=by
    rintro rfl
    have:=List.any_eq_false.1 hl p (List.mem_of_getElem? hp)
    simp at this
   exact⟨b,off,(au _ hr).trans e2,h2⟩
theorem bU.b8{d r:Nat}(au:∀ r,r≠d->ρ' r=ρ r)(hr:r≠d){x:ax}(h:bU w B lab ρ r x):bU w B lab ρ' r (x.drop d):=by
 cases h with
 | blk b off cells e cs us dN hl hh hs hc=>
  refine .blk b off cells e _ us ((au r hr).trans dN) hl hh (by rw[List.length_map];exact hs) (fun j x hx=>?_)
  rw[List.getElem?_map]at hx
  cases hy:cs[j]? with
  | none=>rw[hy]at hx;cases hx
  | some y=>
   rw[hy]at hx
   injection hx with hx
   subst hx
   exact⟨(hc j y hy).1,(hc j y hy).2.b8 au⟩
 | sl v y dN zo=>exact .sl v y ((au r hr).trans dN) zo
 | mp b c es l dN hl hh he=>exact .mp b c es l ((au r hr).trans dN) hl hh he
 | gh us xs dN hx=>
  refine .gh us _ ((au r hr).trans dN) (fun j x hj=>?_)
  rw[List.getElem?_map]at hj
  cases hy:xs[j]? with
  | none=>rw[hy]at hj;cases hj
  | some y=>
   rw[hy]at hj
   injection hj with hj
   subst hj
   exact(hx j y hy).b8 au
def aI{α:Type}(f:Nat->α)(d:Nat)(x:α):Nat->α:=fun k=>bif Nat.beq k d then x else f k
theorem aK{α:Type}(f:Nat->α)(d:Nat)(x:α):aI f d x d=x:=by simp[aI]
theorem aQ{α:Type}(f:Nat->α)(d:Nat)(x:α){k:Nat}(h:k≠d):aI f d x k=f k:=by
 have:Nat.beq k d=false:=by
  cases U:Nat.beq k d with
  | false=>rfl
  | true=>exact absurd (Nat.eq_of_beq_eq_true U) h
 simp only[aI,this,cond_false]
def S.set(σ:S)(d:Nat)(x:A):S:={ σ with t:=aI σ.t d x }
def S.drop(σ:S)(d:Nat):S:=⟨fun k=>(σ.t k).drop d,fun r=>bif Nat.beq r d then none else (σ.m r).map (ax.drop d)⟩
def S.root(σ:S)(d:Nat)(x:ax):S:={ σ with m:=aI σ.m d (some x) }
theorem Rl.set{x:A}{v:Value}{d:Nat}(h:Rl w0 N lab ρ σ a w)(hx:RA w w0.heap.size lab ρ x v)(hd:d<N):Rl w0 N lab ρ (σ.set d x) (a.put (some d) v) w:=by
 refine⟨h.below,h.bh,h.root,fun k=>?_,?_,h.defers,h.fix,h.cF⟩
 ·show RA w w0.heap.size lab ρ (aI σ.t d x k) ((a.tmps.setIfInBounds d v).getD k undef)
  by_cases hk:k=d
  ·subst hk
   rw[aK,Array.getD_eq_getD_getElem?,Array.getElem?_setIfInBounds_self]
   have:k<a.tmps.size:=by rw[h.size];exact hd
   simp only[this,if_true,Option.getD_some]
   exact hx
  ·rw[aQ _ _ _ hk,Array.getD_eq_getD_getElem?,Array.getElem?_setIfInBounds_ne (Ne.symm hk),<-Array.getD_eq_getD_getElem?]
   exact h.tmp k
 ·show (a.tmps.setIfInBounds d v).size=N
  rw[Array.size_setIfInBounds]
  exact h.size
theorem Rl.grow(h:Rl w0 N lab ρ σ a w)(U:Below w.heap.size w w')(hl:∀ b,b<w.heap.size->af b=lab b)(hg:∀ b k,w.heap.size<=b->af b=some k->b<w'.heap.size/\k≠[]):Rl w0 N af ρ σ a w':=by
 have hk:∀ b,b<w.heap.size->w'.heap[b]?=w.heap[b]?/\af b=lab b:=fun b ig=>⟨U.block b ig,hl b ig⟩
 refine⟨h.below.trans (.of U h.below.size),fun b k hbk=>?_,fun r x hx=>(h.root r x hx).dh U.size hk (fun b k U=>(h.bh b k U).2.1),fun k=>(h.tmp k).dh U.size hk (fun b k U=>(h.bh b k U).2.1),h.size,h.defers,h.fix,h.cF⟩
 rcases Nat.lt_or_ge b w.heap.size with aW | jL
 ·rw[hl b aW]at hbk
  have:=h.bh b k hbk
  exact⟨this.1,Nat.lt_of_lt_of_le this.2.1 U.size,this.2.2⟩
 ·have:=hg b k jL hbk
  exact⟨.inl (Nat.le_trans h.below.size jL),this.1,this.2⟩
theorem Rl.new{d:Nat}{x:ax}(h:Rl w0 N lab ρ σ a w)(l:Loc)(hx:bU w w0.heap.size lab (aI ρ d l) d x)(hF:w0.F d=none):Rl w0 N lab (aI ρ d l) ((σ.drop d).root d x) a w:=by
 have au:∀ r,r≠d->aI ρ d l r=ρ r:=fun r hr=>aQ _ _ _ hr
 refine⟨h.below,h.bh,fun r y hy=>?_,fun k=>(h.tmp k).b8 au,h.size,h.defers,fun r l' hr=>(au r (by rintro rfl;rw[hF]at hr;cases hr)).trans (h.fix r l' hr),h.cF⟩
 by_cases hr:r=d
 ·subst hr
  have e:(aI (σ.drop r).m r (some x)) r=some x:=aK _ _ _
  have hy:(aI (σ.drop r).m r (some x)) r=some y:=hy
  rw[e]at hy
  injection hy with hy
  subst hy
  exact hx
 ·have hy:(aI (σ.drop d).m d (some x)) r=some y:=hy
  rw[aQ _ _ _ hr]at hy
  have U:Nat.beq r d=false:=by
   cases U:Nat.beq r d with
   | false=>rfl
   | true=>exact absurd (Nat.eq_of_beq_eq_true U) hr
  simp only[S.drop,U,cond_false]at hy
  cases hm:σ.m r with
  | none=>rw[hm]at hy;cases hy
  | some z=>
   rw[hm]at hy
   injection hy with hy
   subst hy
   exact(h.root r z hm).b8 au hr
end
end Go.Proofs.YtjldnlbiefpekaaDoor
namespace Go.Proofs.YtjldnlbiefpekaaDoor
open Go.RowKit
set_option linter.unusedVariables false
def cQ{α:Type}(l:List α)(j:Nat)(xs:List α):List α:=l.take j++xs++l.drop (j+xs.length)
theorem tj{α:Type}(l:List α)(j:Nat)(xs:List α)(h:j+xs.length<=l.length):(cQ l j xs).length=l.length:=by
 simp[cQ];omega
theorem tn{α:Type}(l:List α)(j:Nat)(xs:List α)(h:j+xs.length<=l.length)(n:Nat):
  (cQ l j xs)[n]?=if n<j then l[n]? else if n<j+xs.length then xs[n-j]? else l[n]?:=by
 unfold cQ
 have ht:(l.take j).length=j:=by simp;omega
 split
 ·rename_i hn
  rw[List.append_assoc,List.getElem?_append_left (by rw[ht];exact hn),List.getElem?_take,if_pos hn]
 ·split
  ·rename_i h1 h2
   rw[List.append_assoc,List.getElem?_append_right (by rw[ht];omega),ht,List.getElem?_append_left (by omega)]
  ·rename_i h1 h2
   rw[List.getElem?_append_right (by simp;omega),List.getElem?_drop]
   congr 1
   simp
   omega
structure nW (w w':World) (bt:Nat):Prop where
 size:w'.heap.size=w.heap.size
 os:w'.os=w.os
 tape:w'.tape=w.tape
 output:w'.output=w.output
 block:∀ k,k≠bt->w'.heap[k]?=w.heap[k]?
theorem FW(w:World)(b o:Nat)(l:List Value):nW w (w.setCells b o l) b:=by
 have g:=J6 b l o w
 have s:=J5 b l o w
 refine⟨s,g.os,g.tape,g.output,fun k hk=>?_⟩
 rcases Nat.lt_or_ge k w.heap.size with aW | jL
 ·exact g.block k aW (by intro e;injection e with e;exact hk e)
 ·rw[Array.getElem?_eq_none jL,Array.getElem?_eq_none (by rw[s];exact jL)]
section
variable {w w':World} {w0:Wd} {B N:Nat} {lab:aH} {ρ:Nat->Loc} {m m':Nat->Option ax} {σ:S} {a:Act} {bt:Nat} {kt:List Nat}
def l6(w w':World)(lab:aH)(ρ:Nat->Loc):Prop:=∀ k ad v,addrAt w lab ρ k=some ad->w.cell? ad=some v->ia v=true->w'.cell? ad=some v
theorem FX(hC:l6 w w' lab ρ):∀ (k:List Nat) (ad:Addr),addrAt w lab ρ k=some ad->addrAt w' lab ρ k=some ad
 | [],_,h=>h
 | [_],_,h=>h
 | [_,_],_,h=>h
 | [_,_,_],_,h=>by simp only[addrAt]at h ⊢;exact h
 | [j,i,s,r],_,h=>by simp only[addrAt]at h ⊢;exact h
 | j :: i :: s :: x :: y :: q,ad,h=>by
  simp only[addrAt]at h ⊢
  cases ha:addrAt w lab ρ (x :: y :: q)with
  | none=>rw[ha]at h;cases h
  | some jK=>
   rw[FX hC _ _ ha]
   rw[ha]at h
   cases hc:w.cell? jK with
   | none=>simp[hc]at h
   | some v=>
    simp only[Option.bind_some,hc]at h
    have hv:ia v=true:=by
     split at h
     ·rename_i e;injection e with e;subst e;rfl
     ·cases h
    simp only[Option.bind_some,hC _ _ _ ha hc hv]
    exact h
theorem Lg(hC:l6 w w' lab ρ)(k:List Nat)(u:Value)(hu:ia u=true)(h:aP w lab ρ k=some u):aP w' lab ρ k=some u:=by
 match k,h with
 | [],h=>simp[aP,addrAt]at h
 | [r],h=>exact h
 | x :: y :: q,h=>
  simp only[aP]at h ⊢
  cases ha:addrAt w lab ρ (x :: y :: q)with
  | none=>rw[ha]at h;cases h
  | some ad=>
   rw[FX hC _ _ ha]
   rw[ha]at h
   have h:w.cell? ad=some u:=h
   exact hC _ _ _ ha h hu
theorem bB.wrote{x:Lf}{u:Value}(h:bB w B lab ρ x u)(hw:nW w w' bt)(hl:lab bt=some kt)(hC:l6 w w' lab ρ):bB w' B lab ρ x u:=by
 cases x with
 | v x=>exact⟨h.1,h.2.apart hl (.inr h.1) (Nat.le_of_eq hw.size.symm) hw.block⟩
 | own k=>exact⟨h.1,Lg hC k u h.1 h.2⟩
 | dead=>trivial
theorem bK.wrote{cs:List Lf}{us:Array Value}(h:bK w B lab ρ cs us)(hw:nW w w' bt)(hl:lab bt=some kt)(hC:l6 w w' lab ρ):bK w' B lab ρ cs us:=
 ⟨h.1,fun j x hx=>let ⟨u,hu,r⟩:=h.2 j x hx;⟨u,hu,r.wrote hw hl hC⟩⟩
theorem RP.wrote{p:Bool×List Lf}{u:Value}(h:RP w B lab ρ p u)(hw:nW w w' bt)(hl:lab bt=some kt)(hC:l6 w w' lab ρ):RP w' B lab ρ p u:=by
 obtain⟨b,cs⟩:=p
 cases b with
 | true=>obtain⟨us,e,h⟩:=h;exact⟨us,e,h.wrote hw hl hC⟩
 | false=>exact bK.wrote h hw hl hC
theorem RF.wrote{cs:List V}{u:Value}(h:RF w B lab cs u)(hw:nW w w' bt)(hl:lab bt=some kt):RF w' B lab cs u:=by
 obtain⟨b,off,e,U,dc,h⟩:=h
 have aA:b≠bt:=by rintro rfl;rw[hl]at dc;cases dc
 refine⟨b,off,e,by rw[hw.size];exact U,dc,fun j x hx=>?_⟩
 obtain⟨hf,v,hv,hr⟩:=h j x hx
 exact⟨hf,v,(World.cell?_of_block (a:=⟨b,_,none⟩) (hw.block b aA)).trans hv,hr.apart hl (.inr hf) (Nat.le_of_eq hw.size.symm) hw.block⟩
theorem RA.wrote{x:A}{u:Value}(h:RA w B lab ρ x u)(hw:nW w w' bt)(hl:lab bt=some kt)(hC:l6 w w' lab ρ):RA w' B lab ρ x u:=by
 cases x with
 | undef=>trivial
 | skip=>exact h
 | lf x=>exact bB.wrote h hw hl hC
 | agg cs=>exact RP.wrote (p:=(true,cs)) h hw hl hC
 | aU xs=>obtain⟨us,e,hs,h⟩:=h;exact⟨us,e,hs,fun j p hp=>let ⟨v,hv,r⟩:=h j p hp;⟨v,hv,r.wrote hw hl hC⟩⟩
 | ptr k=>obtain⟨ad,e,h⟩:=h;exact⟨ad,e,FX hC _ _ h⟩
 | view k s i j=>obtain⟨A,n,c,h,g⟩:=h;exact⟨A,n,c,Lg hC k _ rfl h,g⟩
 | pk r n=>exact h
 | aF r j=>exact h
 | ec cs=>exact RF.wrote h hw hl
 | ic f cs=>obtain⟨pv,e,h⟩:=h;exact⟨pv,e,h.wrote hw hl⟩
 | fn f cap=>exact h
theorem bU.wrote{r:Nat}{x:ax}(h:bU w B lab ρ r x)(hw:nW w w' bt)(hl:lab bt=some kt)(hC:l6 w w' lab ρ)(hr:¬ [r] <:+ kt):bU w' B lab ρ r x:=by
 cases h with
 | blk b off cells e cs us au dc hh hs hc=>
  have aA:b≠bt:=by rintro rfl;rw[hl]at dc;injection dc with dc;subst dc;exact hr (List.suffix_refl _)
  exact .blk b off cells e cs us au dc ((hw.block b aA).trans hh) hs (fun j x hx=>⟨(hc j x hx).1,(hc j x hx).2.wrote hw hl hC⟩)
 | sl v y au bx=>exact .sl v y au (bx.apart hl (.inl hr) (Nat.le_of_eq hw.size.symm) hw.block)
 | mp b c es l au dc hh he=>
  have aA:b≠bt:=by rintro rfl;rw[hl]at dc;injection dc with dc;subst dc;exact hr (List.suffix_refl _)
  exact .mp b c es l au dc ((hw.block b aA).trans hh) he
 | gh us xs au hx=>exact .gh us xs au fun j x hj=>(hx j x hj).wrote hw hl hC
theorem Rl.wrote(h:Rl w0 N lab ρ σ a w)(hw:nW w w' bt)(hl:lab bt=some kt)(hC:l6 w w' lab ρ)(hm:∀ r x,m' r=some x->bU w' w0.heap.size lab ρ r x):Rl w0 N lab ρ ⟨σ.t,m'⟩ a w':=by
 have U:=(h.bh bt kt hl).1
 have aA:∀ k,k<w0.heap.size->w0.L k=none->k≠bt:=by
  rintro k hk hL rfl
  rcases U with U | U
  ·exact absurd hk (Nat.not_lt.2 U)
  ·exact U hL
 refine⟨⟨hw.os.trans h.below.os,hw.tape.trans h.below.tape,hw.output.trans h.below.output,by rw[hw.size];exact h.below.size,fun k hk hL=>(hw.block k (aA k hk hL)).trans (h.below.block k hk hL)⟩,fun b k hbk=>?_,hm,fun k=>(h.tmp k).wrote hw hl hC,h.size,h.defers,h.fix,h.cF⟩
 rw[hw.size]
 exact h.bh b k hbk
theorem FY{r r':Nat}(h:r'≠r):¬ [r'] <:+ [r]:=by
 intro hs
 have:=hs.eq_of_length rfl
 injection this with this
 exact h this
theorem Rl.zq{r j:Nat}{cs xs:List Lf}{us:Array Value}(h:Rl w0 N lab ρ σ a w)(hm:σ.m r=some (.blk cs))(hx:bK w w0.heap.size lab ρ xs us)(hj:j+xs.length<=cs.length):
  ∃ b off,ρ r = .blk b off/\w.there b (off+j) us.size/\Rl w0 N lab ρ ⟨σ.t,aI σ.m r (some (.blk (cQ cs j xs)))⟩ a (w.setCells b (off+j) us.toList):=by
 have hr:=h.root r _ hm
 generalize he:ax.blk cs=x at hr
 cases hr with
 | sl=>cases he
 | mp=>cases he
 | gh=>cases he
 | blk b off cells e cZ u au hl hh hs hc=>
  injection he with he
  subst he
  have hlen:us.size=xs.length:=hx.1
  have fL:off+j+us.toList.length<=cells.size:=by rw[Array.length_toList,hlen];omega
  have hW:=FW w b (off+j) us.toList
  obtain⟨c2,eI,iR⟩:=BK b e us.toList (off+j) w cells hh fL
  have hC:l6 w (w.setCells b (off+j) us.toList) lab ρ:=by
   intro k ad v ha hv dU
   obtain⟨j',i',s',q,rfl,hq,_,_,FZ⟩:=rP k ad ha
   have aA:ad.block≠b:=by
    intro e
    rw[e,hl]at hq
    injection hq with hq
    obtain⟨v',bY⟩:=FZ r hq.symm
    rw[au]at bY
    cases bY
   exact(World.cell?_of_block (hW.block _ aA)).trans hv
  refine⟨b,off,au,fun n hn=>⟨?_,frozen_of_row w b _ cells e hh⟩,h.wrote hW hl hC fun r' y hy=>?_⟩
  ·rw[cell_of_row w b _ cells e _ hh]
   simp
   omega
  ·by_cases ij:r'=r
   ·subst ij
    rw[aK]at hy
    injection hy with hy
    subst hy
    refine .blk b off c2 e _ (fun n=>if n<j then u n else if n<j+xs.length then us.getD (n-j) undef else u n) au hl eI ?_ fun n x oY=>?_
    ·rw[tj _ _ _ hj,<-Array.length_toList,iR]
     have:=tj cells.toList (off+j) us.toList (by simpa using fL)
     simp only[cQ]at this
     rw[this]
     simpa using hs
    ·have e2:c2[off+n]?=(cQ cells.toList (off+j) us.toList)[off+n]?:=by
      rw[show c2[off+n]?=c2.toList[off+n]? by simp,iR]
      rfl
     rw[e2,tn _ _ _ (by simpa using fL)]
     rw[tn _ _ _ hj]at oY
     by_cases h1:n<j
     ·rw[if_pos (by omega)]
      simp only[h1,if_true]at oY ⊢
      refine⟨?_,(hc n x oY).2.wrote hW hl hC⟩
      rw[Array.getElem?_toList]
      exact(hc n x oY).1
     ·by_cases h2:n<j+xs.length
      ·rw[if_neg (by omega),if_pos (by rw[Array.length_toList,hlen];omega)]
       simp only[h1,h2,if_true,if_false]at oY ⊢
       obtain⟨v,hv,hr⟩:=hx.2 (n-j) x oY
       have hg:us.getD (n-j) undef=v:=by rw[Array.getD_eq_getD_getElem?,hv];rfl
       rw[hg]
       refine⟨?_,hr.wrote hW hl hC⟩
       rw[show off+n-(off+j)=n-j by omega,Array.getElem?_toList]
       exact hv
      ·rw[if_neg (by omega),if_neg (by rw[Array.length_toList,hlen];omega)]
       simp only[h1,h2,if_false]at oY ⊢
       refine⟨?_,(hc n x oY).2.wrote hW hl hC⟩
       rw[Array.getElem?_toList]
       exact(hc n x oY).1
   ·rw[aQ _ _ _ ij]at hy
    exact(h.root r' y hy).wrote hW hl hC (FY ij)
inductive tq (m:Nat->Option ax):List Nat->V->(Nat->Option ax)->Prop
 | root (r:Nat) (y0 y:V) (h:m r=some (.sl y0)):tq m [r] y (aI m r (some (.sl y)))
 | elem (j i:Nat) (q:List Nat) (t:TC) (o:Nat) (qn:Bool) (l:List (T t)) (y:V) (e:T t) (m':Nat->Option ax) (h:nU m q (.sl t (o+2) qn l)) (hi:i<l.length) (hj:j<aj t)
   (hd:dec t o (cQ (enc t o l[i]) j [y])=some e) (hp:tq m q (.sl t (o+2) qn (l.set i e)) m'):tq m (j :: i :: aj t :: q) y m'
theorem F0{α:Type}{a b c:List α}(ha:a <:+ c)(U:b <:+ c)(h:a.length=b.length):a=b:=by
 obtain⟨x,hx⟩:=ha
 obtain⟨y,hy⟩:=U
 rw[<-hx]at hy
 exact((List.append_inj' hy h.symm).2).symm
theorem RV.Cd{q:List Nat}{t:TC}{o:Nat}{qn:Bool}{l:List (T t)}{i j:Nat}{xs:List V}{e:T t}{b cap:Nat}{cs cZ:Array Value}{u us:Nat->Nat->Value}
  (hl:lab b=some q) (hh:w'.heap[b]?=some (.cells cZ (tid t) (0,0))) (hs:cZ.size=cap*aj t) (hn:l.length<=cap) (hm:cap<=maxLen/\(qn=true->cap=l.length)) (hi:i<l.length) (hj:j+xs.length<=aj t)
  (hd:dec t o (cQ (enc t o l[i]) j xs)=some e)
  (hc:∀ i' (h:i'<l.length) (j':Nat) x,(enc t o l[i'])[j']?=some x->¬ (i'=i/\j<=j'/\j'<j+xs.length)->cZ[i'*aj t+j']?=some (u i' j')/\RV w' B lab (j' :: i' :: aj t :: q) x (u i' j'))
  (hx:∀ (n:Nat) x,xs[n]?=some x->cZ[i*aj t+(j+n)]?=some (us i (j+n))/\RV w' B lab ((j+n) :: i :: aj t :: q) x (us i (j+n))):
  RV w' B lab q (.sl t (o+2) qn (l.set i e)) (.slice (some ⟨b,0,none⟩) l.length cap):=by
 have hlen:(l.set i e).length=l.length:=List.length_set
 have key:∀ i' (h:i'<(l.set i e).length) (j':Nat) x,(enc t o (l.set i e)[i'])[j']?=some x->
   ∃ v,cZ[i'*aj t+j']?=some v/\RV w' B lab (j' :: i' :: aj t :: q) x v:=by
  intro i' h j' x bC
  rw[List.getElem_set]at bC
  by_cases Lh:i=i'
  ·subst Lh
   rw[if_pos rfl]at bC
   have hk:=hU t o _ e hd
   have kB:j'<(enc t o e).length:=(List.getElem?_eq_some_iff.1 bC).1
   rw[<-hk.1]at kB
   have hy:=List.getElem?_eq_getElem kB
   generalize (cQ (enc t o l[i]) j xs)[j']=y at hy
   have hw:=hk.2 j' y x hy bC
   rw[tn _ _ _ (by rw[iP];exact hj)]at hy
   by_cases h1:j'<j
   ·rw[if_pos h1]at hy
    obtain⟨h3,h4⟩:=hc i hi j' y hy (by omega)
    exact⟨_,h3,h4.wk hw⟩
   ·by_cases h2:j'<j+xs.length
    ·rw[if_neg h1,if_pos h2]at hy
     obtain⟨h3,h4⟩:=hx (j'-j) y hy
     rw[show j+(j'-j)=j' by omega]at h3 h4
     exact⟨_,h3,h4.wk hw⟩
    ·rw[if_neg h1,if_neg h2]at hy
     obtain⟨h3,h4⟩:=hc i hi j' y hy (by omega)
     exact⟨_,h3,h4.wk hw⟩
  ·rw[if_neg Lh]at bC
   obtain⟨h3,h4⟩:=hc i' (by rw[<-hlen];exact h) j' x bC (by omega)
   exact⟨_,h3,h4⟩
 rw[<-hlen]
 refine .own q t o qn (l.set i e) b cap cZ (fun i' j'=>(cZ[i'*aj t+j']?).getD undef) hl hh hs (by rw[hlen];exact hn) ⟨hm.1,fun h=>by rw[hlen];exact hm.2 h⟩ (fun i' h j' x bC=>?_) (fun i' h j' x bC=>?_)
 ·obtain⟨v,hv,_⟩:=key i' h j' x bC
  rw[hv]
  rfl
 ·obtain⟨v,hv,hr⟩:=key i' h j' x bC
  rw[hv]
  exact hr
theorem Li{r:Nat}{q:List Nat}(h:[r] <:+ q){r':Nat}(h':[r'] <:+ q):r'=r:=by
 have:=F0 h' h rfl
 injection this
theorem tq.ok{q:List Nat}{y:V}(h:tq m q y m')(hm:∀ r x,m r=some x->bU w B lab ρ r x)(hw:nW w w' bt)(hl:lab bt=some kt)(hq:q <:+ kt)(hC:l6 w w' lab ρ){hv:Value}(bD:aP w lab ρ q=some hv)(hy:RV w' B lab q y hv):
  ∀ r x,m' r=some x->bU w' B lab ρ r x:=by
 induction h generalizing hv with
 | root r y0 y h=>
  intro r' x hx
  by_cases hr:r'=r
  ·subst hr
   rw[aK]at hx
   injection hx with hx
   subst hx
   simp only[aP]at bD
   cases au:ρ r' with
   | blk b off=>rw[au]at bD;cases bD
   | aM us=>rw[au]at bD;cases bD
   | bX v=>
    rw[au]at bD
    injection bD with bD
    subst bD
    exact .sl v y au hy
  ·rw[aQ _ _ _ hr]at hx
   exact(hm r' x hx).wrote hw hl hC (fun hs=>hr (Li hq hs))
 | elem j i q t o qn l y e m' h hi hj hd hp ih=>
  obtain⟨bY,zu,bx⟩:=h.ok hm
  have TE:q <:+ kt:=List.IsSuffix.trans ⟨[j,i,aj t],rfl⟩ hq
  cases bx with
  | bg=>simp at hi
  | bw=>simp at hi
  | bI=>simp at hi
  | av _ _ _ _ _ _ _ _ _ ho=>omega
  | own _ _ _ _ _ b cap cs us bL hh hs hn tr hc hr=>
   have aA:b≠bt:=by
    rintro rfl
    rw[hl]at bL
    injection bL with bL
    subst bL
    have:=hq.length_le
    simp at this
    omega
   have hz:=Nat.le_of_eq hw.size.symm
   refine ih TE zu (RV.Cd (us:=fun _ _=>hv) (u:=us) (cs:=cs) (xs:=[y]) bL ((hw.block b aA).trans hh) hs hn tr hi (show j+1<=aj t from hj) hd (fun i' h' j' x hx zw=>⟨hc i' h' j' x hx,(hr i' h' j' x hx).apart hl (.inl fun iS=>zw ?_) hz hw.block⟩) (fun n x hx=>?_))
   ·have:=F0 iS hq rfl
    injection this with e1 e2
    injection e2 with e2 _
    subst e1 e2
    exact⟨rfl,Nat.le_refl _,by simp⟩
   ·cases n with
    | succ n=>simp at hx
    | zero=>
     simp at hx
     subst hx
     refine⟨?_,hy⟩
     rw[Cc,th j i (aj t) zu bL]at bD
     have bD:w.cell? ⟨b,i*aj t+j,none⟩=some hv:=bD
     rw[cell_of_row w b _ cs _ _ hh]at bD
     exact bD
theorem RV.TF{q:List Nat}{x:V}{v:Value}(h:RV w B lab q x v)(hx:x.plain=true):ia v=false:=by
 cases h <;>first | rfl | cases hx
theorem RV.rQ{q q':List Nat}{x:V}{v:Value}{B':Nat}{af:aH}(h:RV w B lab q x v)(hx:x.plain=true):RV w' B' af q' x v:=by
 cases h <;>first | exact .int _ _ _ | exact .bool _ _ | exact .str _ _ | cases hx
theorem Rl.TG{j i:Nat}{q:List Nat}{t:TC}{o:Nat}{qn:Bool}{l:List (T t)}{xs:List V}{us:Array Value}{e:T t}(h:Rl w0 N lab ρ σ a w)(hg:nU σ.m q (.sl t (o+2) qn l))(hi:i<l.length)(hj:j+xs.length<=aj t)
  (hd:dec t o (cQ (enc t o l[i]) j xs)=some e) (hold:∀ (n:Nat) x,n<xs.length->(enc t o l[i])[j+n]?=some x->x.plain=true) (TH:∀ x∈xs,x.plain=true) (cI:us.size=xs.length) (hx:∀ (n:Nat) x,xs[n]?=some x->∃ u,us[n]?=some u/\RV w w0.heap.size lab [] x u)
  (hp:tq σ.m q (.sl t (o+2) qn (l.set i e)) m'):
  ∃ b,addrAt w lab ρ (j :: i :: aj t :: q)=some ⟨b,i*aj t+j,none⟩/\w.there b (i*aj t+j) us.size/\Rl w0 N lab ρ ⟨σ.t,m'⟩ a (w.setCells b (i*aj t+j) us.toList):=by
 obtain⟨bY,zu,bx⟩:=hg.ok h.root
 cases bx with
 | bg=>simp at hi
 | bw=>simp at hi
 | bI=>simp at hi
 | av _ _ _ _ _ _ _ _ _ ho=>omega
 | own _ _ _ _ _ b cap cs u bL hh hs hn tr hc hr=>
  have b9:i*aj t+aj t<=cap*aj t:=by
   have:(i+1)*aj t<=cap*aj t:=Nat.mul_le_mul_right _ (by omega)
   rw[Nat.succ_mul]at this
   exact this
  have fL:i*aj t+j+us.toList.length<=cs.size:=by rw[Array.length_toList,cI,hs];omega
  have hW:=FW w b (i*aj t+j) us.toList
  obtain⟨c2,eI,iR⟩:=BK b (tid t) us.toList (i*aj t+j) w cs hh fL
  have wh:∀ n,c2[n]?=if n<i*aj t+j then cs[n]? else if n<i*aj t+j+xs.length then us[n-(i*aj t+j)]? else cs[n]?:=by
   intro n
   have e2:c2[n]?=(cQ cs.toList (i*aj t+j) us.toList)[n]?:=by
    rw[show c2[n]?=c2.toList[n]? by simp,iR]
    rfl
   rw[e2,tn _ _ _ (by simpa using fL),Array.length_toList,cI]
   simp
  have F1:c2.size=cs.size:=by
   rw[<-Array.length_toList,iR]
   have:=tj cs.toList (i*aj t+j) us.toList (by simpa using fL)
   simp only[cQ]at this
   rw[this]
   simp
  have hC:l6 w (w.setCells b (i*aj t+j) us.toList) lab ρ:=by
   intro k ad v ha hv dU
   by_cases aA:ad.block=b
   ·obtain⟨j',i',s',q',rfl,gG,acX,fZ,_⟩:=rP k ad ha
    have fe:ad=⟨b,ad.off,none⟩:=by cases ad;simp_all
    rw[fe,cell_of_row w b _ cs _ _ hh]at hv
    rw[fe,cell_of_row _ b _ c2 _ _ eI,wh]
    by_cases h1:ad.off<i*aj t+j
    ·rw[if_pos h1];exact hv
    ·by_cases h2:ad.off<i*aj t+j+xs.length
     ·exfalso
      have TI:ad.off-(i*aj t+j)<xs.length:=by omega
      have oZ:j+(ad.off-(i*aj t+j))<(enc t o l[i]).length:=by rw[iP];omega
      have hy:=List.getElem?_eq_getElem oZ
      generalize (enc t o l[i])[j+(ad.off-(i*aj t+j))]=y at hy
      have ff:=hold _ y TI hy
      have h3:=hc i hi _ y hy
      rw[show i*aj t+(j+(ad.off-(i*aj t+j)))=ad.off by omega]at h3
      rw[hv]at h3
      injection h3 with h3
      have:=(hr i hi _ y hy).TF ff
      rw[<-h3,dU]at this
      cases this
     ·rw[if_neg h1,if_neg h2];exact hv
   ·exact(World.cell?_of_block (hW.block _ aA)).trans hv
  refine⟨b,th j i (aj t) zu bL,fun n wj=>⟨?_,frozen_of_row w b _ cs _ hh⟩,h.wrote hW bL hC (hp.ok h.root hW bL (List.suffix_refl _) hC zu ?_)⟩
  ·rw[cell_of_row w b _ cs _ _ hh]
   simp
   omega
  ·refine RV.Cd (u:=u) (us:=fun _ n=>us.getD (n-j) undef) (cs:=cs) (xs:=xs) bL eI (F1.trans hs) hn tr hi hj hd (fun i' h' j' x bC zw=>?_) (fun n x bC=>?_)
   ·have kB:j'<aj t:=by have:=(List.getElem?_eq_some_iff.1 bC).1;rwa [iP]at this
    refine⟨?_,(hr i' h' j' x bC).apart bL (.inl fun iS=>?_) (Nat.le_of_eq hW.size.symm) hW.block⟩
    ·rw[wh]
     have mG:¬ (¬ i'*aj t+j'<i*aj t+j/\i'*aj t+j'<i*aj t+j+xs.length):=by
      rintro⟨h1,h2⟩
      rcases Nat.lt_trichotomy i' i with aW | heq | F2
      ·have:(i'+1)*aj t<=i*aj t:=Nat.mul_le_mul_right _ aW
       rw[Nat.succ_mul]at this
       omega
      ·subst heq
       exact zw ⟨rfl,by omega,by omega⟩
      ·have:(i+1)*aj t<=i'*aj t:=Nat.mul_le_mul_right _ F2
       rw[Nat.succ_mul]at this
       omega
     split
     ·exact hc i' h' j' x bC
     ·rw[if_neg (by omega)]
      exact hc i' h' j' x bC
    ·have:=iS.length_le
     simp at this
     omega
   ·obtain⟨v,hv,Ce⟩:=hx n x bC
    have wj:n<xs.length:=(List.getElem?_eq_some_iff.1 bC).1
    have o3:us.getD (j+n-j) undef=v:=by rw[show j+n-j=n by omega,Array.getD_eq_getD_getElem?,hv];rfl
    show c2[_]?=some (us.getD (j+n-j) undef)/\RV _ _ _ _ _ (us.getD (j+n-j) undef)
    rw[o3,wh,if_neg (by omega),if_pos (by omega)]
    refine⟨?_,Ce.rQ (TH x (List.mem_of_getElem? bC))⟩
    rw[show i*aj t+(j+n)-(i*aj t+j)=n by omega]
    exact hv
end
end Go.Proofs.YtjldnlbiefpekaaDoor
namespace Go.Proofs.YtjldnlbiefpekaaDoor
open Go.RowKit
set_option linter.unusedVariables false
def wm:Value->A
 | .bool b=>.lf (.v (.bool b))
 | .int k n=>.lf (.v (.int k n))
 | .string s=>.lf (.v (.str s))
 | .slice none 0 0=>.lf (.v .nil)
 | _=>.undef
def ah(σ:S):Operand->A
 | .tmp t=>σ.t t
 | .const v=>wm v
 | .func f=>.fn f []
 | .global _=>.undef
def eT{X:Type}(N:Nat)(σ:S)(dst:Option Tmp)(x:A)(k:S->Option X):Option X:=
 match dst with
 | none=>k σ
 | some d=>bif Nat.blt d N then k (σ.set d x)else none
def gH(P:Program)(w0:Wd)(N:Nat)(o:Oper)(σ aa:S):Prop:=
 ∀ a w K Q,R w0 N σ a w->(∀ a' w',R w0 N aa a' w'->K a' w')->o.wp P a w K Q
section
variable {P:Program} {w:World} {w0:Wd} {B N:Nat} {lab:aH} {ρ:Nat->Loc} {σ:S} {a:Act} {X:Type} {r:X} {k:S->Option X} {o:Oper}
theorem TJ(v:Value):RA w B lab ρ (wm v) v:=by
 unfold wm
 split
 ·exact⟨rfl,.bool _ _⟩
 ·exact⟨rfl,.int _ _ _⟩
 ·exact⟨rfl,.str _ _⟩
 ·exact⟨rfl,.nil _⟩
 ·trivial
theorem Rl.ah(h:Rl w0 N lab ρ σ a w)(x:Operand):RA w w0.heap.size lab ρ (ah σ x) (a.eval x):=by
 cases x with
 | tmp t=>exact h.tmp t
 | const v=>exact TJ v
 | func f=>exact⟨#[],rfl,rfl,by simp⟩
 | global g=>trivial
theorem gH.val{x:A}(hk:eT N σ o.dst x k=some r)(h:∀ lab ρ a w,Rl w0 N lab ρ σ a w->∃ v,(execOp a.eval o).run P w = .ok (.value v) w/\RA w w0.heap.size lab ρ x v):∃ aa,k aa=some r/\gH P w0 N o σ aa:=by
 unfold eT at hk
 split at hk
 ·rename_i hd
  refine⟨σ,hk,fun a w K Q hR hK=>?_⟩
  obtain⟨lab,ρ,hl⟩:=hR
  obtain⟨v,hv,hx⟩:=h lab ρ a w hl
  unfold Oper.wp
  rw[hv,Oper.upon_value,hd]
  exact hK _ _ ⟨lab,ρ,hl⟩
 ·rename_i d hd
  cases hN:Nat.blt d N with
  | false=>rw[hN]at hk;cases hk
  | true=>
   rw[hN]at hk
   refine⟨_,hk,fun a w K Q hR hK=>?_⟩
   obtain⟨lab,ρ,hl⟩:=hR
   obtain⟨v,hv,hx⟩:=h lab ρ a w hl
   unfold Oper.wp
   rw[hv,Oper.upon_value,hd]
   exact hK _ _ ⟨lab,ρ,hl.set hx (by have:=Nat.le_of_ble_eq_true hN;omega)⟩
/-! Contents of leaves. -/
def di{X:Type}(m:Nat->Option ax):List Nat->(V->Option X)->Option X
 | [r],k=>match m r with
  | some (.sl y)=>k y
  | _=>none
 | j :: i :: s :: q,k=>di m q fun y=>match y with
  | .sl t (o+2) _ l=>if s=aj t then (if h:i<l.length then (match (enc t o l[i])[j]? with | some z=>k z | none=>none)else none)else none
  | _=>none
 | _,_=>none
theorem mH{m:Nat->Option ax}:∀ (q:List Nat) (k:V->Option X),di m q k=some r->∃ y,nU m q y/\k y=some r
 | [],_,h=>by simp[di]at h
 | [x],k,h=>by
  simp only[di]at h
  split at h
  ·rename_i y hy;exact⟨y,.root x y hy,h⟩
  ·cases h
 | [_,_],_,h=>by simp[di]at h
 | j :: i :: s :: q,k,h=>by
  simp only[di]at h
  obtain⟨y,hy,h2⟩:=mH q _ h
  clear h
  split at h2
  ·split at h2
   ·rename_i hs
    subst hs
    split at h2
    ·rename_i hi
     split at h2
     ·rename_i z hz;exact⟨z,.elem j i q _ _ _ _ z hy hi hz,h2⟩
     ·cases h2
    ·cases h2
   ·cases h2
  ·cases h2
def eg{X:Type}(σ:S)(x:Lf)(k:V->Option X):Option X:=
 match x with
 | .v y=>k y
 | .own q=>di σ.m q k
 | .dead=>none
theorem RV.part{q:List Nat}{tc:TC}{g:Nat}{qn:Bool}{xs:List (T tc)}{A:Option Addr}{n c a h:Nat}(hr:RV w B lab q (.sl tc g qn xs) (.slice A n c))(hg:g<2)(h1:a<=h)(h2:h<=xs.length):RV w B lab q (.sl tc g false ((xs.take h).drop a)) (sliced A a h c (aj tc))/\n=xs.length/\xs.length<=c:=by
 have hlen:((xs.take h).drop a).length=h-a:=by simp;omega
 cases hr with
 | bg=>
  have:a=0:=by simp at h2;omega
  have:h=0:=by simpa using h2
  subst_vars
  exact⟨.bg _ _ _,rfl,Nat.le_refl _⟩
 | bw=>
  have:h=0:=by simpa using h2
  subst this
  have:a=0:=by omega
  subst this
  exact⟨by unfold sliced;split <;>exact .bw _ _ _ _ _ hg,rfl,Nat.zero_le _⟩
 | bI=>
  have:h=0:=by simpa using h2
  subst this
  have:a=0:=by omega
  subst this
  exact⟨by unfold sliced;split <;>exact .bw _ _ _ _ _ hg,rfl,Nat.zero_le _⟩
 | own=>omega
 | av _ _ _ _ _ b off cap u ho hl U hB hcap hc hr=>
  refine⟨?_,rfl,hcap⟩
  by_cases he:a=h
  ·subst he
   have e0:(xs.take a).drop a=[]:=List.eq_nil_of_length_eq_zero (by rw[hlen];omega)
   rw[e0]
   unfold sliced
   rw[Nat.sub_self]
   split <;>exact .bw _ _ _ _ _ hg
  ·unfold sliced
   rw[if_neg (by omega),<-hlen]
   have xT:(some (⟨b,off,none⟩:Addr)).map (·.add (a*aj tc))=some ⟨b,off+a*aj tc,none⟩:=by
    simp only[Option.map_some]
    unfold Addr.add
    split <;>simp_all
   rw[xT]
   have gI:∀ i (hi:i<((xs.take h).drop a).length),((xs.take h).drop a)[i]=xs[a+i]'(by omega):=by
    intro i hi
    rw[List.getElem_drop,List.getElem_take]
   refine .av _ _ _ _ _ b (off+a*aj tc) (c-a) (fun i j=>u (a+i) j) ho hl U hB (by omega) (fun i hi j x hx=>?_) (fun i hi j x hx=>?_)
   ·rw[gI i hi]at hx
    have:=hc (a+i) (by omega) j x hx
    rw[<-this]
    congr 2
    rw[Nat.add_mul]
    omega
   ·rw[gI i hi]at hx
    exact hr (a+i) (by omega) j x hx
def Lj(s i j:Nat):V->Option V
 | .sl t _ _ l=>bif Nat.beq s (aj t)then some (.sl t 0 false ((l.take j).drop i))else none
 | _=>none
def l7{X:Type}(σ:S)(q:List Nat)(s i j:Nat)(k:V->Option X):Option X:=
 di σ.m q fun y=>match Lj s i j y with
  | some z=>k z
  | none=>none
def kC{X:Type}(σ:S)(y:A)(k:V->Option X):Option X:=
 match y with
 | .lf l=>eg σ l k
 | .view q s i j=>l7 σ q s i j k
 | _=>none
theorem Ll{q:List Nat}{s i j:Nat}{k:V->Option X}(h:l7 σ q s i j k=some r):∃ z,k z=some r/\z.av=true/\∀ w0 N lab ρ a w,Rl w0 N lab ρ σ a w->∀ u,RA w w0.heap.size lab ρ (.view q s i j) u->∀ B',RV w B' (fun _=>none) [] z u:=by
 obtain⟨y,hy,h2⟩:=mH q _ h
 clear h
 split at h2
 ·rename_i z hz
  unfold Lj at hz
  split at hz
  ·rename_i t g qn l
   cases hs:Nat.beq s (aj t)with
   | false=>rw[hs]at hz;cases hz
   | true=>
    rw[hs,cond_true]at hz
    obtain rfl:=Nat.eq_of_beq_eq_true hs
    injection hz with hz
    subst hz
    refine⟨_,h2,rfl,fun w0 N lab ρ a w hR u hu B'=>?_⟩
    obtain⟨A,n,c,hv,h1,h3,rfl⟩:=hu
    obtain⟨v,bY,hr⟩:=hy.ok hR.root
    rw[hv]at bY
    injection bY with bY
    subst bY
    have hf:RV w B' (fun _=>none) [] (.sl t 0 qn l) (.slice A n c):=hr.fE
    have hn:n=l.length:=by cases hf <;>rfl
    exact(hf.part (by omega) h1 (by omega)).1
  ·cases hz
 ·cases h2
def vK{X:Type}(x:A)(k:V->Option X):Option X:=
 match x with
 | .lf (.v y)=>k y
 | _=>none
theorem Cf{x:A}{k:V->Option X}(h:vK x k=some r):∃ y,x = .lf (.v y)/\k y=some r:=by
 unfold vK at h
 split at h
 ·exact⟨_,rfl,h⟩
 ·cases h
theorem RV.eM{q:List Nat}{k:IntKind}{n:Int}{u:Value}(h:RV w B lab q (.int k n) u):u = .int k n:=by cases h;rfl
theorem RV.rR{q:List Nat}{n:Bool}{u:Value}(h:RV w B lab q (.bool n) u):u = .bool n:=by cases h;rfl
theorem RV.js{q:List Nat}{n:ByteArray}{u:Value}(h:RV w B lab q (.str n) u):u = .string n:=by cases h;rfl
/-! Arithmetic and comparison. -/
def aY(n:Nat):Bool:=decide (n<1073741824)
def iq{X:Type}(P:Program)(ty:TypeId)(op:BinOp)(x y:V)(k:V->Option X):Option X:=
 match x,y with
 | .int kx a,.int ky b=>match op with
  | .shl=>if b<0 then none else k (.int kx (kx.wrap (a*2 ^ (min b.toNat kx.bits))))
  | .shr=>if b<0 then none else k (.int kx (a.fdiv (2 ^ (min b.toNat kx.bits))))
  | op=>if kx=ky then (match op with
   | .add=>k (.int kx (kx.wrap (a+b)))
   | .sub=>k (.int kx (kx.wrap (a-b)))
   | .mul=>k (.int kx (kx.wrap (a*b)))
   | .quo=>if b=0 then none else k (.int kx (kx.wrap (a.tdiv b)))
   | .rem=>if b=0 then none else k (.int kx (a.tmod b))
   | .and=>k (.int kx (bits .and kx a b))
   | .or=>k (.int kx (bits .or kx a b))
   | .xor=>k (.int kx (bits .xor kx a b))
   | .andNot=>k (.int kx (bits .andNot kx a b))
   | .eql=>k (.bool (a==b))
   | .neq=>k (.bool (a != b))
   | .lss=>k (.bool (decide (a<b)))
   | .leq=>k (.bool (decide (a<=b)))
   | .gtr=>k (.bool (decide (a > b)))
   | .geq=>k (.bool (decide (a >= b)))
   | _=>none)else none
 | .bool a,.bool b=>match P.underlying ty with
  | some .bool=>(match op with
   | .eql=>k (.bool (a==b))
   | .neq=>k (.bool (!(a==b)))
   | _=>none)
  | _=>none
 | .str a,.str b=>match op with
  | .add=>bif aY (a.size+b.size)then k (.str (a++b))else none
  | .eql=>k (.bool (a.toList==b.toList))
  | .neq=>k (.bool (!(a.toList==b.toList)))
  | _=>none
 | _,_=>none
theorem TK{ty:TypeId}{op:BinOp}{x y:V}{k:V->Option X}(h:iq P ty op x y k=some r):∃ z,k z=some r/\z.plain=true/\∀ (w:World) (B:Nat) (lab:aH) (xo yo:Operand) (q q':List Nat) (u v:Value),RV w B lab q x u->RV w B lab q' y v->
  ∃ t,(do eqGuard op ty xo yo u v;binOp op ty u v:Sem Value).run P w = .ok t w/\RV w B lab [] z t:=by
 unfold iq at h
 split at h
 ·rename_i kx a ky b
  split at h
  ·split at h
   ·cases h
   ·rename_i U
    refine⟨_,h,rfl,fun w B lab xo yo q q' u v hu hv=>?_⟩
    obtain rfl:=hu.eM
    obtain rfl:=hv.eM
    exact⟨_,by simp[eqGuard,binOp,Op.shift,U],.int _ _ _⟩
  ·split at h
   ·cases h
   ·rename_i U
    refine⟨_,h,rfl,fun w B lab xo yo q q' u v hu hv=>?_⟩
    obtain rfl:=hu.eM
    obtain rfl:=hv.eM
    exact⟨_,by simp[eqGuard,binOp,Op.shift,U],.int _ _ _⟩
  ·rename_i h1 h2
   split at h
   ·rename_i hk
    subst hk
    cases op
    case shl=>exact absurd rfl h1
    case shr=>exact absurd rfl h2
    case quo=>
     by_cases U:b=0
     ·simp only[U,if_true]at h;cases h
     ·simp only[U,if_false]at h
      refine⟨_,h,rfl,fun w B lab xo yo q q' u v hu hv=>?_⟩
      obtain rfl:=hu.eM
      obtain rfl:=hv.eM
      exact⟨_,by simp[eqGuard,binOp,Op.intDiv,U],.int _ _ _⟩
    case rem=>
     by_cases U:b=0
     ·simp only[U,if_true]at h;cases h
     ·simp only[U,if_false]at h
      refine⟨_,h,rfl,fun w B lab xo yo q q' u v hu hv=>?_⟩
      obtain rfl:=hu.eM
      obtain rfl:=hv.eM
      exact⟨_,by simp[eqGuard,binOp,Op.intDiv,U],.int _ _ _⟩
    all_goals first
     | (refine⟨_,h,rfl,fun w B lab xo yo q q' u v hu hv=>?_⟩
        obtain rfl:=hu.eM
        obtain rfl:=hv.eM
        first
         | (refine⟨_,?_,.int _ _ _⟩;simp[eqGuard,binOp,Op.intArith];done)
         | (refine⟨_,?_,.int _ _ _⟩;simp[eqGuard,binOp,intBits_and,intBits_or,intBits_xor,intBits_andNot];done)
         | (refine⟨_,?_,.bool _ _⟩;simp[eqGuard,binOp,Op.intCmp];done))
     | cases h
   ·cases h
 ·rename_i a b
  split at h
  ·rename_i zx
   split at h
   ·refine⟨_,h,rfl,fun w B lab xo yo q q' u v hu hv=>?_⟩
    obtain rfl:=hu.rR
    obtain rfl:=hv.rR
    have e:binOp .eql ty (.bool a) (.bool b)=(do pure (.bool (<-Op.equal ty (.bool a) (.bool b)))):=rfl
    have g:eqGuard .eql ty xo yo (.bool a) (.bool b)=pure ():=rfl
    exact⟨_,by rw[e,g,Sem.run_bind,Sem.run_pure,Result.andThen_ok,Sem.run_bind,run_equal_bool _ _ _ _ zx];rfl,.bool _ _⟩
   ·refine⟨_,h,rfl,fun w B lab xo yo q q' u v hu hv=>?_⟩
    obtain rfl:=hu.rR
    obtain rfl:=hv.rR
    have e:binOp .neq ty (.bool a) (.bool b)=(do pure (.bool (!(<-Op.equal ty (.bool a) (.bool b))))):=rfl
    have g:eqGuard .neq ty xo yo (.bool a) (.bool b)=pure ():=rfl
    exact⟨_,by rw[e,g,Sem.run_bind,Sem.run_pure,Result.andThen_ok,Sem.run_bind,run_equal_bool _ _ _ _ zx];rfl,.bool _ _⟩
   ·cases h
  ·cases h
 ·rename_i a b
  split at h
  ·cases hL:aY (a.size+b.size)with
   | false=>rw[hL]at h;cases h
   | true=>
    rw[hL]at h
    refine⟨_,h,rfl,fun w B lab xo yo q q' u v hu hv=>?_⟩
    obtain rfl:=hu.js
    obtain rfl:=hv.js
    have hL':a.size+b.size<1073741824:=by simpa [aY]using hL
    refine⟨_,?_,.str _ _⟩
    have h9:IntKind.i64.max=9223372036854775807:=rfl
    simp only[eqGuard,binOp,Op.stringOp,h9]
    simp
    omega
  ·refine⟨_,h,rfl,fun w B lab xo yo q q' u v hu hv=>?_⟩
   obtain rfl:=hu.js
   obtain rfl:=hv.js
   exact⟨_,by simp[eqGuard,binOp,Op.stringOp],.bool _ _⟩
  ·refine⟨_,h,rfl,fun w B lab xo yo q q' u v hu hv=>?_⟩
   obtain rfl:=hu.js
   obtain rfl:=hv.js
   exact⟨_,by simp[eqGuard,binOp,Op.stringOp],.bool _ _⟩
  ·cases h
 ·cases h
def wo{X:Type}(op:UnOp)(x:V)(k:V->Option X):Option X:=
 match op,x with
 | .not,.bool b=>k (.bool (!b))
 | .neg,.int kx n=>k (.int kx (kx.wrap (0-n)))
 | _,_=>none
theorem TL{op:UnOp}{x:V}{k:V->Option X}(h:wo op x k=some r):∃ z,k z=some r/\z.plain=true/\∀ (w:World) (B:Nat) (lab:aH) (q:List Nat) (u:Value),RV w B lab q x u->∃ t,(Op.unary op u).run P w = .ok t w/\RV w B lab [] z t:=by
 unfold wo at h
 split at h
 ·refine⟨_,h,rfl,fun w B lab q u hu=>?_⟩
  obtain rfl:=hu.rR
  exact⟨_,by simp[Op.unary],.bool _ _⟩
 ·refine⟨_,h,rfl,fun w B lab q u hu=>?_⟩
  obtain rfl:=hu.eM
  exact⟨_,by simp[Op.unary,Op.intArith],.int _ _ _⟩
 ·cases h
theorem V.zy{x:V}(h:x.plain=true):x.av=true:=by cases x <;>first | rfl | cases h
end
end Go.Proofs.YtjldnlbiefpekaaDoor
namespace Go.Proofs.YtjldnlbiefpekaaDoor
open Go.RowKit
set_option linter.unusedVariables false
def fM(P:Program)(t:TypeId):Option Nat:=(P.info? t).map (·.size)
def wq(P:Program)(t:TypeId):Option Bool:=
 match P.underlying t with
 | some (.struct _) | some (.array _ _)=>some true
 | some _=>some false
 | none=>none
def l8(P:Program)(t:TypeId):Option TypeId:=
 match P.underlying t with
 | some (.slice e)=>some e
 | _=>none
def zz(P:Program)(s:TypeId)(f:Nat):Option Field:=
 match P.underlying s with
 | some (.struct fs)=>fs[f]?
 | _=>none
def fN{X:Type}(P:Program)(t:TypeId)(cs:List Lf)(k:A->Option X):Option X:=
 match fM P t with
 | some n=>if cs.length=n then (match wq P t with
  | some true=>k (.agg cs)
  | some false=>(match cs with
   | [y]=>k (.lf y)
   | _=>none)
  | none=>none)else none
 | none=>none
def leaves(key:Nat->List Nat):Nat->List V->List Lf
 | _,[]=>[]
 | j,z :: zs=>(bif z.av then .v z else .own (key j)) :: leaves key (j+1) zs
def eN{X:Type}(P:Program)(σ:S)(t:TypeId)(x:A)(k:A->Option X):Option X:=
 match fM P t with
 | none=>none
 | some n=>match x with
  | .aF r j=>(match σ.m r with
   | some (.blk cs)=>fN P t ((cs.drop j).take n) k
   | _=>none)
  | .ec cs=>fN P t ((cs.take n).map .v) k
  | .ptr (j :: i :: s :: q)=>di σ.m q fun y=>(match y with
   | .sl t' (o+2) _ l=>if s=aj t' then (if h:i<l.length then fN P t (leaves (fun j'=>j' :: i :: s :: q) j (((enc t' o l[i]).drop j).take n)) k else none)else none
   | _=>none)
  | _=>none
section
variable {P:Program} {w:World} {w0:Wd} {B N:Nat} {lab:aH} {ρ:Nat->Loc} {σ:S} {a:Act} {X:Type} {r:X} {o:Oper}
theorem F3(key:Nat->List Nat):∀ (j:Nat) (zs:List V) (n:Nat),(leaves key j zs)[n]?=(zs[n]?).map fun z=>bif z.av then .v z else .own (key (j+n))
 | _,[],n=>by simp[leaves]
 | j,z :: zs,0=>by simp[leaves]
 | j,z :: zs,n+1=>by
  simp only[leaves,List.getElem?_cons_succ,F3 key (j+1) zs n]
  rw[show j+1+n=j+(n+1) by omega]
theorem F4{t:TypeId}{cs:List Lf}{k:A->Option X}(h:fN P t cs k=some r):∃ x,k x=some r/\∀ (w:World) (B:Nat) (lab:aH) (ρ:Nat->Loc) (b o:Nat) (vs:List Value),bK w B lab ρ cs vs.toArray->w.rangeAt b o vs->
  ∃ v,(Instr.loadAt t (.pointer (some ⟨b,o,none⟩))).run P w = .ok v w/\RA w B lab ρ x v:=by
 unfold fN at h
 split at h
 ·rename_i n hn
  split at h
  ·rename_i hlen
   split at h
   ·rename_i ga
    refine⟨_,h,fun w B lab ρ b o vs hl hr=>?_⟩
    have l9:vs.length=n:=by have:=hl.1;simpa [hlen]using this
    unfold wq at ga
    split at ga
    ·rename_i fs hu
     exact⟨_,run_loadAt_mid w b o t vs _ hr hu rfl (by rw[l9];exact hn),_,rfl,hl⟩
    ·rename_i c e hu
     exact⟨_,run_loadAt_mid w b o t vs _ hr hu rfl (by rw[l9];exact hn),_,rfl,hl⟩
    ·cases ga
    ·cases ga
   ·rename_i ga
    split at h
    ·rename_i y
     refine⟨_,h,fun w B lab ρ b o vs hl hr=>?_⟩
     have l9:vs.length=1:=by have:=hl.1;simpa using this
     obtain⟨v,rfl⟩:=List.length_eq_one_iff.1 l9
     have hv:w.cell? ⟨b,o,none⟩=some v:=hr 0 v rfl
     obtain⟨u,hu,hR⟩:=hl.2 0 y rfl
     have:v=u:=by simpa using hu
     subst this
     refine⟨v,?_,hR⟩
     unfold wq at ga
     split at ga
     ·cases ga
     ·cases ga
     ·rename_i d hs ha hu
      have o4:(isAgg t).run P w = .ok false w:=by
       unfold isAgg
       rw[Sem.run_bind,run_underlying hu w]
       cases d <;>first | rfl | (rename_i x;exact absurd rfl (hs x)) | (rename_i x y;exact absurd rfl (ha x y)) | simp_all
      simp[Instr.loadAt,Instr.sureAddr,loadVar,Sem.run_bind,o4,load,Sem.run,hv]
     ·cases ga
    ·cases h
   ·cases h
  ·cases h
 ·cases h
theorem Cg{α:Type}(l:List α)(j n i:Nat)(x:α)(h:((l.drop j).take n)[i]?=some x):i<n/\l[j+i]?=some x:=by
 rw[List.getElem?_take]at h
 split at h
 ·rename_i hi;rw[List.getElem?_drop]at h;exact⟨hi,h⟩
 ·cases h
theorem Ln{t:TypeId}{x:A}{k:A->Option X}(h:eN P σ t x k=some r):∃ y,k y=some r/\∀ lab ρ a w,Rl w0 N lab ρ σ a w->∀ u,RA w w0.heap.size lab ρ x u->
  ∃ v,(Instr.loadAt t u).run P w = .ok v w/\RA w w0.heap.size lab ρ y v:=by
 unfold eN at h
 split at h
 ·cases h
 ·rename_i n hn
  split at h
  ·rename_i r' j
   split at h
   ·rename_i cs bZ
    obtain⟨y,hy,hf⟩:=F4 h
    refine⟨y,hy,fun lab ρ a w hR u hu=>?_⟩
    obtain⟨b,off,au,rfl⟩:=hu
    have hr:=hR.root r' _ bZ
    generalize he:ax.blk cs=x at hr
    cases hr with
    | sl=>cases he
    | mp=>cases he
    | gh=>cases he
    | blk b' lS cells e cZ us dV hl hh hs hc=>
     injection he with he
     subst he
     rw[au]at dV
     injection dV with e1 e2
     subst e1 e2
     refine hf w _ lab ρ b (off+j) (((cs.drop j).take n).mapIdx fun i _=>us (j+i)) ⟨by simp,fun i x hx=>?_⟩ (fun i v hv=>?_)
     ·obtain⟨hi,bC⟩:=Cg _ _ _ _ _ hx
      refine⟨us (j+i),?_,(hc _ x bC).2⟩
      simp only[List.getElem?_toArray,List.getElem?_mapIdx,hx,Option.map_some]
     ·rw[List.getElem?_mapIdx]at hv
      cases hx:((cs.drop j).take n)[i]? with
      | none=>rw[hx]at hv;cases hv
      | some x=>
       rw[hx]at hv
       injection hv with hv
       subst hv
       obtain⟨hi,bC⟩:=Cg _ _ _ _ _ hx
       rw[cell_of_row w b _ cells _ _ hh,Nat.add_assoc]
       exact(hc _ x bC).1
   ·cases h
  ·rename_i cs
   obtain⟨y,hy,hf⟩:=F4 h
   refine⟨y,hy,fun lab ρ a w hR u hu=>?_⟩
   obtain⟨b,off,rfl,U,hl,hc⟩:=hu
   have gI:∀ (i:Nat) (x:Lf),((cs.take n).map Lf.v)[i]?=some x->∃ z v,x = .v z/\z.av=true/\w.cell? ⟨b,off+i,none⟩=some v/\RV w w0.heap.size lab [] z v:=by
    intro i x hx
    rw[List.getElem?_map]at hx
    cases hz:(cs.take n)[i]? with
    | none=>rw[hz]at hx;cases hx
    | some z=>
     rw[hz]at hx
     injection hx with hx
     rw[List.getElem?_take]at hz
     split at hz
     ·obtain⟨bQ,v,hv,hr⟩:=hc i z hz
      exact⟨z,v,hx.symm,bQ,hv,hr⟩
     ·cases hz
   refine hf w _ lab ρ b off (((cs.take n).map Lf.v).mapIdx fun i _=>(w.cell? ⟨b,off+i,none⟩).getD undef) ⟨by simp,fun i x hx=>?_⟩ (fun i v hv=>?_)
   ·obtain⟨z,v,rfl,bQ,hv,hr⟩:=gI i x hx
    refine⟨v,?_,bQ,hr⟩
    simp only[List.getElem?_toArray,List.getElem?_mapIdx,hx,Option.map_some,hv,Option.getD_some]
   ·rw[List.getElem?_mapIdx]at hv
    cases hx:((cs.take n).map Lf.v)[i]? with
    | none=>rw[hx]at hv;cases hv
    | some x=>
     rw[hx]at hv
     obtain⟨z,v',rfl,bQ,bY,hr⟩:=gI i x hx
     rw[bY]at hv
     injection hv with hv
     rw[bY]
     exact congrArg some hv
  ·rename_i j i s q
   obtain⟨y0,hg,h2⟩:=mH _ _ h
   clear h
   split at h2
   ·rename_i t' o' qn l
    split at h2
    ·rename_i hs
     subst hs
     split at h2
     ·rename_i hi
      obtain⟨y,hy,hf⟩:=F4 h2
      refine⟨y,hy,fun lab ρ a w hR u hu=>?_⟩
      obtain⟨ad,rfl,fe⟩:=hu
      obtain⟨hv,bD,iT⟩:=hg.ok hR.root
      cases iT with
      | bg=>simp at hi
      | bw=>simp at hi
      | bI=>simp at hi
      | av _ _ _ _ _ _ _ _ _ ho=>omega
      | own _ _ _ _ _ b cap cs us bL hh hs hn tr hc hr=>
       rw[th j i (aj t') bD bL]at fe
       injection fe with fe
       subst fe
       have gI:∀ (m:Nat) (x:Lf),(leaves (fun j'=>j' :: i :: aj t' :: q) j (((enc t' o' l[i]).drop j).take n))[m]?=some x->cs[i*aj t'+(j+m)]?=some (us i (j+m))/\bB w w0.heap.size lab ρ x (us i (j+m)):=by
        intro m x hx
        rw[F3]at hx
        cases hz:(((enc t' o' l[i]).drop j).take n)[m]? with
        | none=>rw[hz]at hx;cases hx
        | some z=>
         rw[hz]at hx
         injection hx with hx
         have hx:(bif z.av then Lf.v z else Lf.own ((j+m) :: i :: aj t' :: q))=x:=hx
         obtain⟨_,wu⟩:=Cg _ _ _ _ _ hz
         have h3:=hc i hi _ z wu
         have h4:=hr i hi _ z wu
         refine⟨h3,?_⟩
         cases wv:z.av with
         | true=>
          rw[wv]at hx
          have hx:Lf.v z=x:=hx
          subst hx
          exact⟨wv,h4.key wv⟩
         | false=>
          rw[wv]at hx
          have hx:Lf.own ((j+m) :: i :: aj t' :: q)=x:=hx
          subst hx
          refine⟨?_,?_⟩
          ·exact h4.Ca wv
          ·rw[Cc,th (j+m) i (aj t') bD bL]
           show w.cell? _=_
           rw[cell_of_row w b _ cs _ _ hh]
           exact h3
       refine hf w _ lab ρ b (i*aj t'+j) ((leaves (fun j'=>j' :: i :: aj t' :: q) j (((enc t' o' l[i]).drop j).take n)).mapIdx fun m _=>us i (j+m)) ⟨by simp,fun m x hx=>?_⟩ (fun m v hv=>?_)
       ·refine⟨us i (j+m),?_,(gI m x hx).2⟩
        simp only[List.getElem?_toArray,List.getElem?_mapIdx,hx,Option.map_some]
       ·rw[List.getElem?_mapIdx]at hv
        cases hx:(leaves (fun j'=>j' :: i :: aj t' :: q) j (((enc t' o' l[i]).drop j).take n))[m]? with
        | none=>rw[hx]at hv;cases hv
        | some x=>
         rw[hx]at hv
         injection hv with hv
         subst hv
         rw[cell_of_row w b _ cs _ _ hh,Nat.add_assoc]
         exact(gI m x hx).1
     ·cases h2
    ·cases h2
   ·cases h2
  ·cases h
end
end Go.Proofs.YtjldnlbiefpekaaDoor
namespace Go.Proofs.YtjldnlbiefpekaaDoor
open Go.RowKit
set_option linter.unusedVariables false
def A.rS:A->Option (List Lf)
 | .lf x=>some [x]
 | .agg xs=>some xs
 | _=>none
def Lf.live:Lf->Bool
 | .dead=>false
 | _=>true
def Lf.pl:Lf->Option V
 | .v x=>bif x.plain then some x else none
 | _=>none
def o5:List Lf->Option (List V)
 | []=>some []
 | x :: xs=>match x.pl,o5 xs with
  | some y,some ys=>some (y :: ys)
  | _,_=>none
def jM{X:Type}(m:Nat->Option ax):List Nat->V->((Nat->Option ax)->Option X)->Option X
 | [r],y,k=>match m r with
  | some (.sl _)=>k (aI m r (some (.sl y)))
  | _=>none
 | j :: i :: s :: q,y,k=>di m q fun z=>match z with
  | .sl t (o+2) qn l=>if s=aj t then (if h:i<l.length then (if j<aj t then (match dec t o (cQ (enc t o l[i]) j [y])with
   | some e=>jM m q (.sl t (o+2) qn (l.set i e)) k
   | none=>none)else none)else none)else none
  | _=>none
 | _,_,_=>none
def iU{X:Type}(P:Program)(σ:S)(t:TypeId)(x y:A)(k:S->Option X):Option X:=
 match fM P t,y.rS with
 | some n,some xs=>if xs.length=n then (match x with
  | .aF r j=>(match σ.m r with
   | some (.blk cs)=>if j+n<=cs.length then (bif xs.all Lf.live then k ⟨σ.t,aI σ.m r (some (.blk (cQ cs j xs)))⟩else none)else none
   | _=>none)
  | .ptr (j :: i :: s :: q)=>(match o5 xs with
   | none=>none
   | some vs=>di σ.m q fun y=>(match y with
    | .sl t' (o+2) qn l=>if s=aj t' then (if h:i<l.length then (if j+vs.length<=aj t' then (bif (((enc t' o l[i]).drop j).take vs.length).all V.plain then (match dec t' o (cQ (enc t' o l[i]) j vs)with
     | some e=>jM σ.m q (.sl t' (o+2) qn (l.set i e)) fun m=>k ⟨σ.t,m⟩
     | none=>none)else none)else none)else none)else none
    | _=>none))
  | _=>none)else none
 | _,_=>none
section
variable {P:Program} {w:World} {w0:Wd} {B N:Nat} {lab:aH} {ρ:Nat->Loc} {σ:S} {a:Act} {X:Type} {r:X} {o:Oper}
theorem Lo{m:Nat->Option ax}:∀ (q:List Nat) (y:V) (k:(Nat->Option ax)->Option X),jM m q y k=some r->∃ m',tq m q y m'/\k m'=some r
 | [],_,_,h=>by simp[jM]at h
 | [x],y,k,h=>by
  simp only[jM]at h
  split at h
  ·rename_i y0 hy;exact⟨_,.root x y0 y hy,h⟩
  ·cases h
 | [_,_],_,_,h=>by simp[jM]at h
 | j :: i :: s :: q,y,k,h=>by
  simp only[jM]at h
  obtain⟨z,hz,h2⟩:=mH q _ h
  clear h
  split at h2
  ·split at h2
   ·rename_i hs
    subst hs
    split at h2
    ·rename_i hi
     split at h2
     ·rename_i hj
      split at h2
      ·rename_i e he
       obtain⟨m',iV,h3⟩:=Lo q _ k h2
       exact⟨m',.elem j i q _ _ _ _ y e m' hz hi hj he iV,h3⟩
      ·cases h2
     ·cases h2
    ·cases h2
   ·cases h2
  ·cases h2
theorem F5:∀ (xs:List Lf) (vs:List V),o5 xs=some vs->xs=vs.map .v/\∀ v∈vs,v.plain=true
 | [],vs,h=>by
  simp[o5]at h
  subst h
  exact⟨rfl,by simp⟩
 | x :: xs,vs,h=>by
  unfold o5 at h
  split at h
  ·rename_i y ys hy iW
   injection h with h
   subst h
   obtain⟨h1,h2⟩:=F5 xs ys iW
   have:x = .v y/\y.plain=true:=by
    cases x with
    | v z=>
     unfold Lf.pl at hy
     cases hz:z.plain with
     | true=>
      simp only[hz,cond_true]at hy
      injection hy with hy
      subst hy
      exact⟨rfl,hz⟩
     | false=>simp[hz]at hy
    | own q=>cases hy
    | dead=>cases hy
   refine⟨by rw[this.1,h1];rfl,fun v hv=>?_⟩
   rcases List.mem_cons.1 hv with rfl | hv
   ·exact this.2
   ·exact h2 v hv
  ·cases h
theorem TM{u:Value}(h:u.oneCell'=true):u.cells = #[u]:=by cases u <;>first | rfl | cases h
theorem bB.one{x:Lf}{u:Value}(h:bB w B lab ρ x u)(hd:x.live=true):u.oneCell'=true:=by
 cases x with
 | v z=>exact h.2.one
 | own k=>
  have:=h.1
  cases u <;>first | rfl | cases this
 | dead=>cases hd
theorem zA{y:A}{xs:List Lf}(h:y.rS=some xs)(hd:xs.all Lf.live=true){u:Value}(hu:RA w B lab ρ y u):bK w B lab ρ xs u.cells/\u.cells.all (·.oneCell')=true:=by
 have key:∀ us:Array Value,bK w B lab ρ xs us->us.all (·.oneCell')=true:=by
  intro us hs
  rw[Array.all_eq_true]
  intro i hi
  have hx:=List.getElem?_eq_getElem (l:=xs) (i:=i) (by rw[<-hs.1];exact hi)
  obtain⟨v,hv,hr⟩:=hs.2 i _ hx
  have:us[i]=v:=by rw[Array.getElem?_eq_getElem hi]at hv;injection hv
  rw[this]
  exact hr.one (List.all_eq_true.1 hd _ (List.getElem_mem _))
 cases y with
 | lf x=>
  injection h with h
  subst h
  have hu:bB w B lab ρ x u:=hu
  have h1:=hu.one (by simpa using hd)
  have:bK w B lab ρ [x] u.cells:=by
   rw[TM h1]
   refine⟨rfl,fun j y hy=>?_⟩
   cases j with
   | zero=>simp at hy;subst hy;exact⟨u,rfl,hu⟩
   | succ j=>simp at hy
  exact⟨this,key _ this⟩
 | agg TN=>
  injection h with h
  subst h
  obtain⟨us,rfl,h⟩:=hu
  exact⟨h,key _ h⟩
 | _=>cases h
theorem F6(w:World)(b o:Nat)(ty:TypeId)(v:Value)(ht:w.there b o v.cells.size)(hi:(P.info? ty).map (·.size)=some v.cells.size)(h1:v.cells.all (·.oneCell')=true):
  (Instr.storeAt ty (.pointer (some ⟨b,o,none⟩)) v).run P w = .ok () (w.setCells b o v.cells.toList):=by
 have:=run_storeCells_cells (P:=P) b o v.cells.toList 0 w (fun j hj=>by simpa using (ht j (by simpa using hj)).1) (fun j hj=>by simpa using (ht j (by simpa using hj)).2)
  (fun v hv=>(Array.all_eq_true_iff_forall_mem.1 h1) v (by simpa using hv))
 cases hq:P.info? ty with
 | none=>simp[hq]at hi
 | some i=>
  have hs:v.cells.size=i.size:=by simp[hq]at hi;omega
  simp only[Nat.add_zero]at this
  simp[Instr.storeAt,Instr.sureAddr,storeVar,sizeOf,typeInfo,hq,hs,this]
theorem Lp{t:TypeId}{x y:A}{k:S->Option X}(h:iU P σ t x y k=some r):∃ aa,k aa=some r/\∀ lab ρ a w,Rl w0 N lab ρ σ a w->∀ u v,RA w w0.heap.size lab ρ x u->RA w w0.heap.size lab ρ y v->
  ∃ w',(Instr.storeAt t u v).run P w = .ok () w'/\Rl w0 N lab ρ aa a w':=by
 unfold iU at h
 split at h
 ·rename_i n xs hn dO
  split at h
  ·rename_i hlen
   split at h
   ·rename_i r' j
    split at h
    ·rename_i cs bZ
     split at h
     ·rename_i hj
      cases eU:xs.all Lf.live with
      | false=>rw[eU]at h;cases h
      | true=>
       rw[eU]at h
       refine⟨_,h,fun lab ρ a w hR u v hu hv=>?_⟩
       obtain⟨b,off,au,rfl⟩:=hu
       obtain⟨hl,gJ⟩:=zA dO eU hv
       obtain⟨b',lS,dV,zB,aB⟩:=hR.zq bZ hl (by rw[hlen];exact hj)
       rw[au]at dV
       injection dV with e1 e2
       subst e1 e2
       exact⟨_,F6 w b (off+j) t v zB (by rw[hl.1,hlen];exact hn) gJ,aB⟩
     ·cases h
    ·cases h
   ·rename_i j i s q
    split at h
    ·cases h
    ·rename_i vs cT
     obtain⟨y0,hg,h2⟩:=mH _ _ h
     clear h
     split at h2
     ·rename_i t' o' qn l
      split at h2
      ·rename_i hs
       subst hs
       split at h2
       ·rename_i hi
        split at h2
        ·rename_i hj
         cases hold:(((enc t' o' l[i]).drop j).take vs.length).all V.plain with
         | false=>rw[hold]at h2;cases h2
         | true=>
          rw[hold,cond_true]at h2
          split at h2
          ·rename_i e he
           obtain⟨m',iV,h3⟩:=Lo q _ _ h2
           refine⟨_,h3,fun lab ρ a w hR u v hu hv=>?_⟩
           obtain⟨ad,rfl,fe⟩:=hu
           obtain⟨tu,F7⟩:=F5 xs vs cT
           have eU:xs.all Lf.live=true:=by rw[tu];simp[Lf.live]
           obtain⟨hl,gJ⟩:=zA dO eU hv
           have l9:vs.length=n:=by rw[<-hlen,tu,List.length_map]
           have q1:∀ (n':Nat) x,n'<vs.length->(enc t' o' l[i])[j+n']?=some x->x.plain=true:=by
            intro n' x wj hx
            refine List.all_eq_true.1 hold x (List.mem_of_getElem? (i:=n') ?_)
            rw[List.getElem?_take,if_pos wj,List.getElem?_drop]
            exact hx
           have q2:∀ (n':Nat) x,vs[n']?=some x->∃ u',v.cells[n']?=some u'/\RV w w0.heap.size lab [] x u':=by
            intro n' x hx
            obtain⟨u',gp,bx⟩:=hl.2 n' (.v x) (by rw[tu,List.getElem?_map,hx];rfl)
            exact⟨u',gp,bx.2⟩
           obtain⟨b,U,zB,aB⟩:=hR.TG (xs:=vs) (us:=v.cells) hg hi hj he q1 F7 (by rw[hl.1,tu,List.length_map]) q2 iV
           rw[fe]at U
           injection U with U
           subst U
           exact⟨_,F6 w b _ t v zB (by rw[hl.1,hlen];exact hn) gJ,aB⟩
          ·cases h2
        ·cases h2
       ·cases h2
      ·cases h2
     ·cases h2
   ·cases h
  ·cases h
 ·cases h
end
end Go.Proofs.YtjldnlbiefpekaaDoor
namespace Go.Proofs.YtjldnlbiefpekaaDoor
open Go.RowKit
set_option linter.unusedVariables false
def mI{X:Type}(P:Program)(s:TypeId)(x:A)(f:Nat)(k:A->Option X):Option X:=
 match zz P s f with
 | none=>none
 | some fd=>match fM P fd.type with
  | some (_+1)=>(match x with
   | .aF r j=>k (.aF r (j+fd.offset))
   | .ec cs=>k (.ec (cs.drop fd.offset))
   | .ptr (j :: i :: s :: q)=>k (.ptr ((j+fd.offset) :: i :: s :: q))
   | _=>none)
  | _=>none
def jN{X:Type}(P:Program)(σ:S)(t:TypeId)(x i:A)(k:A->Option X):Option X:=
 match l8 P t with
 | none=>none
 | some e=>match fM P e,i with
  | some n,.lf (.v (.int _ iv))=>(match x with
   | .lf (.v (.sl t' g _ l))=>if n=aj t' then (bif Nat.blt g 2 then (if h:0<=iv/\iv.toNat<l.length then k (.ec (enc t' g (l[iv.toNat]'h.2)))else none)else none)else none
   | .lf (.own q)=>di σ.m q fun y=>(match y with
    | .sl t' g _ l=>if n=aj t' then (if h:0<=iv/\iv.toNat<l.length then (bif Nat.blt g 2 then k (.ec (enc t' g (l[iv.toNat]'h.2)))else k (.ptr (0 :: iv.toNat :: aj t' :: q)))else none)else none
    | _=>none)
   | _=>none)
  | _,_=>none
def ir{X:Type}(P:Program)(σ:S)(t:TypeId)(x:A)(k:A->Option X):Option X:=
 match x with
 | .lf y=>eg σ y fun z=>(match z with
  | .sl _ _ _ l=>(match P.underlying t with | some (.slice _)=>k (.lf (.v (.int .i64 (l.length:Int)))) | _=>none)
  | .nil=>(match P.underlying t with | some (.slice _)=>k (.lf (.v (.int .i64 0))) | _=>none)
  | .str s=>(match P.underlying t with | some .string=>k (.lf (.v (.int .i64 (s.size:Int)))) | _=>none)
  | _=>none)
 | .view _ _ i j=>(match P.underlying t with | some (.slice _)=>k (.lf (.v (.int .i64 ((j-i:Nat):Int)))) | _=>none)
 | _=>none
def mb:Bool×List Lf->Option A
 | (true,cs)=>some (.agg cs)
 | (false,[y])=>some (.lf y)
 | _=>none
def tv{X:Type}(x:A)(i:Nat)(k:A->Option X):Option X:=
 match x with
 | .aU xs=>match (xs[i]?).bind mb with
  | some y=>k y
  | none=>none
 | _=>none
section
variable {P:Program} {w:World} {w0:Wd} {B N:Nat} {lab:aH} {ρ:Nat->Loc} {σ:S} {a:Act} {X:Type} {r:X} {o:Oper}
theorem TO(n:Nat){j i s:Nat}{q:List Nat}{ad:Addr}(h:addrAt w lab ρ (j :: i :: s :: q)=some ad):addrAt w lab ρ ((j+n) :: i :: s :: q)=some ⟨ad.block,ad.off+n,none⟩:=by
 match q,h with
 | [],h=>simp[addrAt]at h
 | [r],h=>
  simp only[addrAt]at h ⊢
  split at h
  ·split at h
   ·rename_i hl
    injection h with h
    subst h
    rw[if_pos hl,Nat.add_assoc]
   ·cases h
  ·cases h
 | x :: y :: q,h=>
  simp only[addrAt]at h ⊢
  split at h
  ·split at h
   ·rename_i hl
    injection h with h
    subst h
    rw[if_pos hl,Nat.add_assoc]
   ·cases h
  ·cases h
theorem F8(w:World)(s:TypeId)(f:Nat)(fd:Field)(n:Nat)(b off:Nat)(hf:zz P s f=some fd)(hs:fM P fd.type=some (n+1)):
  (Instr.fieldAt s (.pointer (some ⟨b,off,none⟩)) f).run P w = .ok (.pointer (some ⟨b,off+fd.offset,none⟩)) w:=by
 unfold zz at hf
 split at hf
 ·rename_i fs hu
  unfold fM at hs
  cases hq:P.info? fd.type with
  | none=>simp[hq]at hs
  | some i=>
   have hi:i.size=n+1:=by simpa [hq]using hs
   simp[Instr.fieldAt,run_underlying hu,hf,Instr.sureAddr,fieldPlace,sizeOf,typeInfo,hq,hi,Addr.add_mid]
 ·cases hf
theorem TP{s:TypeId}{x:A}{f:Nat}{k:A->Option X}(h:mI P s x f k=some r):∃ y,k y=some r/\∀ (w:World) (B:Nat) (lab:aH) (ρ:Nat->Loc) (u:Value),RA w B lab ρ x u->
  ∃ v,(Instr.fieldAt s u f).run P w = .ok v w/\RA w B lab ρ y v:=by
 unfold mI at h
 split at h
 ·cases h
 ·rename_i fd jO
  split at h
  ·rename_i n hn
   split at h
   ·rename_i r' j
    refine⟨_,h,fun w B lab ρ u hu=>?_⟩
    obtain⟨b,off,au,rfl⟩:=hu
    exact⟨_,F8 w s f fd n b _ jO hn,b,off,au,by rw[Nat.add_assoc]⟩
   ·rename_i cs
    refine⟨_,h,fun w B lab ρ u hu=>?_⟩
    obtain⟨b,off,rfl,U,hl,hc⟩:=hu
    refine⟨_,F8 w s f fd n b _ jO hn,b,_,rfl,U,hl,fun j x hx=>?_⟩
    rw[List.getElem?_drop]at hx
    have:=hc _ x hx
    rw[<-Nat.add_assoc]at this
    exact this
   ·rename_i j i s' q
    refine⟨_,h,fun w B lab ρ u hu=>?_⟩
    obtain⟨ad,rfl,fe⟩:=hu
    have h2:=TO fd.offset fe
    obtain⟨_,_,_,_,_,_,_,fZ,_⟩:=rP _ _ fe
    obtain⟨b,off,sp⟩:=ad
    simp only at fZ
    subst fZ
    exact⟨_,F8 w s f fd n b off jO hn,_,rfl,h2⟩
   ·cases h
  ·cases h
theorem F9(w:World)(t e:TypeId)(n b off len cap:Nat)(kk:IntKind)(iv:Int)(hu:l8 P t=some e)(hs:fM P e=some n)(h0:0<=iv)(h1:iv.toNat<len):
  (Instr.indexAt t (.slice (some ⟨b,off,none⟩) len cap) (.int kk iv)).run P w = .ok (.pointer (some ⟨b,off+iv.toNat*n,none⟩)) w:=by
 unfold l8 at hu
 split at hu
 ·rename_i e' gp
  injection hu with hu
  subst hu
  unfold fM at hs
  cases hq:P.info? e' with
  | none=>simp[hq]at hs
  | some i=>
   have hi:i.size=n:=by simpa [hq]using hs
   have h2:iv<(len:Int):=by omega
   simp[Instr.indexAt,run_underlying gp,asIntOf,h0,h2,sizeOf,typeInfo,hq,hi,Addr.add_mid]
 ·cases hu
theorem TQ{t:TypeId}{x i:A}{k:A->Option X}(h:jN P σ t x i k=some r):∃ y,k y=some r/\∀ lab ρ a w,Rl w0 N lab ρ σ a w->∀ u v,RA w w0.heap.size lab ρ x u->RA w w0.heap.size lab ρ i v->
  ∃ p,(Instr.indexAt t u v).run P w = .ok p w/\RA w w0.heap.size lab ρ y p:=by
 unfold jN at h
 split at h
 ·cases h
 ·rename_i e he
  split at h
  ·rename_i n kk iv hn
   split at h
   ·rename_i t' g qn l
    split at h
    ·rename_i gY
     subst gY
     cases hg:Nat.blt g 2 with
     | false=>rw[hg]at h;cases h
     | true=>
      rw[hg,cond_true]at h
      split at h
      ·rename_i U
       refine⟨_,h,fun lab ρ a w hR u v hu hv=>?_⟩
       obtain rfl:=hv.2.eM
       have Lq:g<2:=by have:=Nat.le_of_ble_eq_true hg;omega
       cases hu.2 with
       | bg=>simp at U
       | bw=>simp at U
       | bI=>simp at U
       | own=>exact absurd Lq (by omega)
       | av _ _ _ _ _ b off cap us ho hl Ga h1 hcap hc hr=>
        refine⟨_,F9 w t e _ b off _ cap kk iv he hn U.1 U.2,b,_,rfl,Ga,hl,fun j x hx=>⟨fY t' g _ Lq j x hx,us iv.toNat j,?_,hr _ U.2 j x hx⟩⟩
        rw[Nat.add_assoc]
        exact hc _ U.2 j x hx
      ·cases h
    ·cases h
   ·rename_i q
    obtain⟨y0,hg,h2⟩:=mH _ _ h
    clear h
    split at h2
    ·rename_i t' o' qn l
     split at h2
     ·rename_i gY
      subst gY
      split at h2
      ·rename_i U
       cases nX:Nat.blt o' 2 with
       | true=>
        rw[nX,cond_true]at h2
        have Gb:o'<2:=Nat.le_of_ble_eq_true nX
        refine⟨_,h2,fun lab ρ a w hR u v hu hv=>?_⟩
        obtain rfl:=hv.2.eM
        obtain⟨bY,bD,iT⟩:=hg.ok hR.root
        have:bY=u:=by
         have h3:=hu.2
         rw[bD]at h3
         injection h3
        subst this
        cases iT with
        | bg=>simp at U
        | bw=>simp at U
        | bI=>simp at U
        | own=>exact absurd Gb (by omega)
        | av _ _ _ _ _ b off cap us ho hl Ga h1 hcap hc hr=>
         refine⟨_,F9 w t e _ b off _ cap kk iv he hn U.1 U.2,b,_,rfl,Ga,hl,fun j x hx=>⟨fY t' o' _ Gb j x hx,us iv.toNat j,?_,hr _ U.2 j x hx⟩⟩
         rw[Nat.add_assoc]
         exact hc _ U.2 j x hx
       | false=>
        rw[nX,cond_false]at h2
        have Gb:¬ o'<2:=fun aW=>by have h9:Nat.blt o' 2=true:=Nat.ble_eq_true_of_le aW;rw[h9]at nX;cases nX
        refine⟨_,h2,fun lab ρ a w hR u v hu hv=>?_⟩
        obtain rfl:=hv.2.eM
        obtain⟨bY,bD,iT⟩:=hg.ok hR.root
        have:bY=u:=by
         have h3:=hu.2
         rw[bD]at h3
         injection h3
        subst this
        cases iT with
        | bg=>simp at U
        | bw=>simp at U
        | bI=>simp at U
        | av _ _ _ _ _ _ _ _ _ ho=>omega
        | own _ _ _ _ _ b cap cs us bL hh hs wj tr hc hr=>
         refine⟨_,F9 w t e _ b 0 _ cap kk iv he hn U.1 U.2,_,rfl,?_⟩
         rw[th 0 iv.toNat (aj t') bD bL]
         simp
      ·cases h2
     ·cases h2
    ·cases h2
   ·cases h
  ·cases h
theorem TR{t ty:TypeId}{x:A}{k:A->Option X}(h:ir P σ t x k=some r):∃ y,k y=some r/\∀ lab ρ a w,Rl w0 N lab ρ σ a w->∀ u,RA w w0.heap.size lab ρ x u->
  ∃ v,(Builtin.len_ #[t] ty #[u]).run P w = .ok v w/\RA w w0.heap.size lab ρ y v:=by
 unfold ir at h
 split at h
 ·rename_i y
  have key:∃ z,(∀ lab ρ a w,Rl w0 N lab ρ σ a w->∀ u,bB w w0.heap.size lab ρ y u->∃ q,RV w w0.heap.size lab q z u)/\(match z with
    | .sl _ _ _ l=>(match P.underlying t with | some (.slice _)=>k (.lf (.v (.int .i64 (l.length:Int)))) | _=>none)
    | .nil=>(match P.underlying t with | some (.slice _)=>k (.lf (.v (.int .i64 0))) | _=>none)
    | .str s=>(match P.underlying t with | some .string=>k (.lf (.v (.int .i64 (s.size:Int)))) | _=>none)
    | _=>none)=some r:=by
   cases y with
   | v z=>exact⟨z,fun lab ρ a w _ u hu=>⟨[],hu.2⟩,h⟩
   | dead=>cases h
   | own q=>
    obtain⟨z,hz,h⟩:=mH q _ h
    refine⟨z,fun lab ρ a w hR u hu=>?_,h⟩
    obtain⟨v,hv,hr⟩:=hz.ok hR.root
    have h3:=hu.2
    rw[hv]at h3
    injection h3 with h3
    subst h3
    exact⟨q,hr⟩
  obtain⟨z,hz,h2⟩:=key
  clear h
  split at h2
  ·rename_i t' g qn l
   split at h2
   ·rename_i e he
    refine⟨_,h2,fun lab ρ a w hR u hu=>?_⟩
    obtain⟨q,hr⟩:=hz lab ρ a w hR u hu
    cases hr with
    | bg=>exact⟨_,by simp[Builtin.len_,run_underlying he,goInt],rfl,.int _ _ _⟩
    | bw=>exact⟨_,by simp[Builtin.len_,run_underlying he,goInt],rfl,.int _ _ _⟩
    | bI=>exact⟨_,by simp[Builtin.len_,run_underlying he,goInt],rfl,.int _ _ _⟩
    | av=>exact⟨_,by simp[Builtin.len_,run_underlying he,goInt],rfl,.int _ _ _⟩
    | own=>exact⟨_,by simp[Builtin.len_,run_underlying he,goInt],rfl,.int _ _ _⟩
   ·cases h2
  ·split at h2
   ·rename_i e he
    refine⟨_,h2,fun lab ρ a w hR u hu=>?_⟩
    obtain⟨q,hr⟩:=hz lab ρ a w hR u hu
    cases hr
    exact⟨_,by simp[Builtin.len_,run_underlying he,goInt],rfl,.int _ _ _⟩
   ·cases h2
  ·split at h2
   ·rename_i he
    refine⟨_,h2,fun lab ρ a w hR u hu=>?_⟩
    obtain⟨q,hr⟩:=hz lab ρ a w hR u hu
    obtain rfl:=hr.js
    exact⟨_,by simp[Builtin.len_,run_underlying he,goInt],rfl,.int _ _ _⟩
   ·cases h2
  ·cases h2
 ·split at h
  ·rename_i e he
   refine⟨_,h,fun lab ρ a w hR u hu=>?_⟩
   obtain⟨A,n,c,hv,h1,h2,rfl⟩:=hu
   exact⟨_,by cases A <;>simp[sliced,Builtin.len_,run_underlying he,goInt],rfl,.int _ _ _⟩
  ·cases h
 ·cases h
theorem Gc{p:Bool×List Lf}{y:A}(h:mb p=some y){u:Value}(hu:RP w B lab ρ p u):RA w B lab ρ y u:=by
 unfold mb at h
 split at h
 ·injection h with h
  subst h
  exact hu
 ·rename_i z
  injection h with h
  subst h
  obtain⟨u',gp,hr⟩:=hu.2 0 z rfl
  have:u=u':=by simpa using gp
  subst this
  exact hr
 ·cases h
theorem TS{x:A}{i:Nat}{k:A->Option X}(h:tv x i k=some r):∃ y,k y=some r/\∀ (w:World) (B:Nat) (lab:aH) (ρ:Nat->Loc) (u:Value),RA w B lab ρ x u->
  ∃ v,(Instr.extract u i).run P w = .ok v w/\RA w B lab ρ y v:=by
 unfold tv at h
 split at h
 ·rename_i xs
  split at h
  ·rename_i y hy
   refine⟨y,h,fun w B lab ρ u hu=>?_⟩
   obtain⟨us,rfl,hs,hp⟩:=hu
   cases hx:xs[i]? with
   | none=>rw[hx]at hy;cases hy
   | some p=>
    rw[hx]at hy
    obtain⟨v,hv,hr⟩:=hp i p hx
    exact⟨v,by simp[Instr.extract,hv],Gc hy hr⟩
  ·cases h
 ·cases h
end
end Go.Proofs.YtjldnlbiefpekaaDoor
namespace Go.Proofs.YtjldnlbiefpekaaDoor
open Go.RowKit
set_option linter.unusedVariables false
section
variable {P:Program} {w w':World} {w0:Wd} {B N:Nat} {lab af:aH} {ρ ρ':Nat->Loc} {σ:S} {a:Act} {X:Type} {d:Nat}
theorem TT{k:List Nat}(h:[d] <:+ k):aE d k=true:=by
 obtain⟨y,rfl⟩:=h
 simp[aE]
theorem Gd{k:List Nat}(h:aE d k=true):[d] <:+ k:=by
 have h:k.getLast?=some d:=by simpa [aE]using h
 obtain⟨y,hy⟩:=List.getLast?_eq_some_iff.1 h
 exact⟨y,hy.symm⟩
theorem Ch{j i s:Nat}{q:List Nat}(hq:q≠[]):aE d (j :: i :: s :: q)=aE d q:=by
 cases q with
 | nil=>exact absurd rfl hq
 | cons x q=>simp[aE]
structure o6 (w w':World) (lab af:aH) (d:Nat):Prop where
 size:w.heap.size<=w'.heap.size
 block:∀ b,b<w.heap.size->lab b≠some [d]->w'.heap[b]?=w.heap[b]?
 o7:∀ b,b<w.heap.size->af b=lab b
 ne:∀ b,lab b≠some []
theorem RV.gK{q:List Nat}{x:V}{v:Value}(h:RV w B lab q x v)(hw:o6 w w' lab af d)(hq:¬ [d] <:+ q\/x.av=true):RV w' B af q x v:=by
 induction h with
 | int=>exact .int _ _ _
 | bool=>exact .bool _ _
 | str=>exact .str _ _
 | nil=>exact .nil _
 | bg=>exact .bg _ _ _
 | bw=>exact .bw _ _ _ _ _ (by first | assumption | omega)
 | bI=>exact .bI _ _ _ _ _ (by first | assumption | omega)
 | av q t o qn l b off cap u ho hl U h1 hcap hc hr ih=>
  have aA:lab b≠some [d]:=by rw[hl];simp
  exact .av _ _ _ _ _ _ _ _ u ho ((hw.o7 b U).trans hl) (Nat.lt_of_lt_of_le U hw.size) h1 hcap (fun i h j x hx=>(World.cell?_of_block (a:=⟨b,_,none⟩) (hw.block b U aA)).trans (hc i h j x hx)) (fun i h j x hx=>ih i h j x hx (.inr (fY t o l[i] ho j x hx)))
 | own q t o qn l b cap cs u hl hh hs hn hm hc hr ih=>
  have U:b<w.heap.size:=(Array.getElem?_eq_some_iff.1 hh).1
  have gG:¬ [d] <:+ q:=by
   rcases hq with hq | hq
   ·exact hq
   ·simp[V.av]at hq;omega
  have aA:lab b≠some [d]:=by
   rw[hl]
   intro e
   injection e with e
   exact gG (by rw[e];exact List.suffix_refl _)
  refine .own _ _ _ _ _ _ _ cs u ((hw.o7 b U).trans hl) ((hw.block b U aA).trans hh) hs hn hm hc (fun i h j x hx=>ih i h j x hx (.inl fun iS=>gG ?_))
  have TU:q≠[]:=by rintro rfl;exact hw.ne b hl
  exact Gd ((Ch TU).symm.trans (TT iS))
theorem TV{j i s:Nat}{q:List Nat}(hq:q≠[])(h:aE d (j :: i :: s :: q)=false):aE d q=false:=by
 cases q with
 | nil=>exact absurd rfl hq
 | cons x q=>simpa [aE]using h
theorem Ge(hw:o6 w w' lab af d)(hg:∀ b k,lab b=some k->b<w.heap.size)(au:∀ r,r≠d->ρ' r=ρ r):∀ (k:List Nat) (ad:Addr),aE d k=false->addrAt w lab ρ k=some ad->addrAt w' af ρ' k=some ad
 | [],_,_,h=>h
 | [_],_,_,h=>h
 | [_,_],_,_,h=>h
 | [_,_,_],_,_,h=>by simp only[addrAt]at h ⊢;exact h
 | [j,i,s,r],_,hd,h=>by
  have hr:r≠d:=by rintro rfl;simp[aE]at hd
  simp only[addrAt,au r hr]at h ⊢
  split at h
  ·rename_i v b n c hr
   split at h
   ·rename_i hl
    rw[if_pos ((hw.o7 _ (hg _ _ hl)).trans hl)]
    exact h
   ·cases h
  ·cases h
 | j :: i :: s :: x :: y :: q,ad,hd,h=>by
  have k7:=TV (by simp) hd
  simp only[addrAt]at h ⊢
  cases ha:addrAt w lab ρ (x :: y :: q)with
  | none=>rw[ha]at h;cases h
  | some jK=>
   rw[Ge hw hg au _ _ k7 ha]
   rw[ha]at h
   cases hc:w.cell? jK with
   | none=>simp[hc]at h
   | some v=>
    have aA:lab jK.block≠some [d]:=by
     obtain⟨j',i',s',q',e,hl,_⟩:=rP _ _ ha
     rw[hl]
     intro e'
     injection e' with e'
     subst e'
     rw[e]at k7
     simp[aE]at k7
    have e:w'.cell? jK=some v:=(World.cell?_of_block (hw.block _ (block_lt_of_cell hc) aA)).trans hc
    simp only[Option.bind_some,hc]at h
    simp only[Option.bind_some,e]
    split at h
    ·split at h
     ·rename_i hl
      rw[if_pos ((hw.o7 _ (hg _ _ hl)).trans hl)]
      exact h
     ·cases h
    ·cases h
theorem Lr(hw:o6 w w' lab af d)(hg:∀ b k,lab b=some k->b<w.heap.size)(au:∀ r,r≠d->ρ' r=ρ r)(k:List Nat)(u:Value)(hd:aE d k=false)(h:aP w lab ρ k=some u):aP w' af ρ' k=some u:=by
 match k,hd,h with
 | [],_,h=>simp[aP,addrAt]at h
 | [r],hd,h=>
  have hr:r≠d:=by rintro rfl;simp[aE]at hd
  simp only[aP,au r hr]at h ⊢
  exact h
 | x :: y :: q,hd,h=>
  simp only[aP]at h ⊢
  cases ha:addrAt w lab ρ (x :: y :: q)with
  | none=>rw[ha]at h;cases h
  | some ad=>
   rw[Ge hw hg au _ _ hd ha]
   rw[ha]at h
   have h:w.cell? ad=some u:=h
   have aA:lab ad.block≠some [d]:=by
    obtain⟨j',i',s',q',e,hl,_⟩:=rP _ _ ha
    rw[hl]
    intro e'
    injection e' with e'
    subst e'
    rw[e]at hd
    simp[aE]at hd
   exact(World.cell?_of_block (hw.block _ (block_lt_of_cell h) aA)).trans h
theorem bB.gK{x:Lf}{u:Value}(h:bB w B lab ρ x u)(hw:o6 w w' lab af d)(hg:∀ b k,lab b=some k->b<w.heap.size)(au:∀ r,r≠d->ρ' r=ρ r):bB w' B af ρ' (x.drop d) u:=by
 cases x with
 | v x=>exact⟨h.1,h.2.gK hw (.inr h.1)⟩
 | dead=>trivial
 | own k=>
  have e:Lf.drop d (.own k)=(bif aE d k then .dead else .own k):=rfl
  rw[e]
  cases hl:aE d k with
  | true=>trivial
  | false=>exact⟨h.1,Lr hw hg au k u hl h.2⟩
theorem bK.gK{cs:List Lf}{us:Array Value}(h:bK w B lab ρ cs us)(hw:o6 w w' lab af d)(hg:∀ b k,lab b=some k->b<w.heap.size)(au:∀ r,r≠d->ρ' r=ρ r):bK w' B af ρ' (cs.map (Lf.drop d)) us:=by
 refine⟨by rw[List.length_map];exact h.1,fun j x hx=>?_⟩
 rw[List.getElem?_map]at hx
 cases hy:cs[j]? with
 | none=>rw[hy]at hx;cases hx
 | some y=>
  rw[hy]at hx
  injection hx with hx
  subst hx
  obtain⟨u,hu,r⟩:=h.2 j y hy
  exact⟨u,hu,r.gK hw hg au⟩
theorem RP.gK{p:Bool×List Lf}{u:Value}(h:RP w B lab ρ p u)(hw:o6 w w' lab af d)(hg:∀ b k,lab b=some k->b<w.heap.size)(au:∀ r,r≠d->ρ' r=ρ r):RP w' B af ρ' (p.1,p.2.map (Lf.drop d)) u:=by
 obtain⟨b,cs⟩:=p
 cases b with
 | true=>obtain⟨us,e,h⟩:=h;exact⟨us,e,h.gK hw hg au⟩
 | false=>exact bK.gK h hw hg au
theorem RA.gK{x:A}{u:Value}(h:RA w B lab ρ x u)(hw:o6 w w' lab af d)(hg:∀ b k,lab b=some k->b<w.heap.size)(au:∀ r,r≠d->ρ' r=ρ r):RA w' B af ρ' (x.drop d) u:=by
 cases x with
 | undef=>trivial
 | skip=>exact h
 | lf x=>exact bB.gK h hw hg au
 | agg cs=>exact RP.gK (p:=(true,cs)) h hw hg au
 | aU xs=>
  obtain⟨us,e,hs,h⟩:=h
  refine⟨us,e,by rw[List.length_map];exact hs,fun j p hp=>?_⟩
  rw[List.getElem?_map]at hp
  cases hy:xs[j]? with
  | none=>rw[hy]at hp;cases hp
  | some y=>
   rw[hy]at hp
   injection hp with hp
   subst hp
   obtain⟨v,hv,r⟩:=h j y hy
   exact⟨v,hv,r.gK hw hg au⟩
 | ptr k=>
  have e:A.drop d (.ptr k)=(bif aE d k then .undef else .ptr k):=rfl
  rw[e]
  cases hl:aE d k with
  | true=>trivial
  | false=>obtain⟨ad,e,h⟩:=h;exact⟨ad,e,Ge hw hg au k _ hl h⟩
 | view k s i j=>
  have e:A.drop d (.view k s i j)=(bif aE d k then .undef else .view k s i j):=rfl
  rw[e]
  cases hl:aE d k with
  | true=>trivial
  | false=>obtain⟨A,n,c,h,g⟩:=h;exact⟨A,n,c,Lr hw hg au k _ hl h,g⟩
 | pk r n=>
  have e:A.drop d (.pk r n)=(bif Nat.beq r d then .undef else .pk r n):=rfl
  rw[e]
  cases hl:Nat.beq r d with
  | true=>trivial
  | false=>
   have hr:r≠d:=by rintro rfl;simp at hl
   obtain⟨b,e,h⟩:=h
   exact⟨b,(au r hr).trans e,h⟩
 | aF r j=>
  have e:A.drop d (.aF r j)=(bif Nat.beq r d then .undef else .aF r j):=rfl
  rw[e]
  cases hl:Nat.beq r d with
  | true=>trivial
  | false=>
   have hr:r≠d:=by rintro rfl;simp at hl
   obtain⟨b,off,e,h⟩:=h
   exact⟨b,off,(au r hr).trans e,h⟩
 | ec cs=>
  obtain⟨b,off,e,U,hl,h⟩:=h
  have aA:lab b≠some [d]:=by rw[hl];simp
  refine⟨b,off,e,Nat.lt_of_lt_of_le U hw.size,(hw.o7 b U).trans hl,fun j x hx=>?_⟩
  obtain⟨hf,v,hv,hr⟩:=h j x hx
  exact⟨hf,v,(World.cell?_of_block (a:=⟨b,_,none⟩) (hw.block b U aA)).trans hv,hr.gK hw (.inr hf)⟩
 | ic f cs=>
  obtain⟨pv,e0,h⟩:=h
  refine⟨pv,e0,?_⟩
  obtain⟨b,off,e,U,hl,h⟩:=h
  have aA:lab b≠some [d]:=by rw[hl];simp
  refine⟨b,off,e,Nat.lt_of_lt_of_le U hw.size,(hw.o7 b U).trans hl,fun j x hx=>?_⟩
  obtain⟨hf,v,hv,hr⟩:=h j x hx
  exact⟨hf,v,(World.cell?_of_block (a:=⟨b,_,none⟩) (hw.block b U aA)).trans hv,hr.gK hw (.inr hf)⟩
 | fn f cap=>
  have e:A.drop d (.fn f cap)=(bif cap.any (fun p=>Nat.beq p.1 d)then .undef else .fn f cap):=rfl
  rw[e]
  cases hl:cap.any (fun p=>Nat.beq p.1 d)with
  | true=>trivial
  | false=>
   obtain⟨vs,e,hs,h⟩:=h
   refine⟨vs,e,hs,fun j p hp=>?_⟩
   obtain⟨b,off,e2,h2⟩:=h j p hp
   have hr:p.1≠d:=by
    rintro rfl
    have:=List.any_eq_false.1 hl p (List.mem_of_getElem? hp)
    simp at this
   exact⟨b,off,(au _ hr).trans e2,h2⟩
theorem bU.gK{r:Nat}(hr:r≠d){x:ax}(h:bU w B lab ρ r x)(hw:o6 w w' lab af d)(hg:∀ b k,lab b=some k->b<w.heap.size)(au:∀ r,r≠d->ρ' r=ρ r):bU w' B af ρ' r (x.drop d):=by
 have mJ:¬ [d] <:+ [r]:=FY (fun e=>hr e.symm)
 cases h with
 | blk b off cells e cs us dN hl hh hs hc=>
  have U:b<w.heap.size:=(Array.getElem?_eq_some_iff.1 hh).1
  have aA:lab b≠some [d]:=by
   rw[hl]
   intro e
   injection e with e
   injection e with e
   exact hr e
  refine .blk b off cells e _ us ((au r hr).trans dN) ((hw.o7 b U).trans hl) ((hw.block b U aA).trans hh) (by rw[List.length_map];exact hs) (fun j x hx=>?_)
  rw[List.getElem?_map]at hx
  cases hy:cs[j]? with
  | none=>rw[hy]at hx;cases hx
  | some y=>
   rw[hy]at hx
   injection hx with hx
   subst hx
   exact⟨(hc j y hy).1,(hc j y hy).2.gK hw hg au⟩
 | sl v y dN zo=>exact .sl v y ((au r hr).trans dN) (zo.gK hw (.inl mJ))
 | mp b c es l dN hl hh he=>
  have U:b<w.heap.size:=(Array.getElem?_eq_some_iff.1 hh).1
  have aA:lab b≠some [d]:=by
   rw[hl]
   intro e
   injection e with e
   injection e with e
   exact hr e
  exact .mp b c es l ((au r hr).trans dN) ((hw.o7 b U).trans hl) ((hw.block b U aA).trans hh) he
 | gh us xs dN hx=>
  refine .gh us _ ((au r hr).trans dN) (fun j x hj=>?_)
  rw[List.getElem?_map]at hj
  cases hy:xs[j]? with
  | none=>rw[hy]at hj;cases hj
  | some y=>
   rw[hy]at hj
   injection hj with hj
   subst hj
   exact(hx j y hy).gK hw hg au
theorem Rl.o8{x:ax}(h:Rl w0 N lab ρ σ a w)(hF:w0.F d=none)(U:eL w0 w w')(hw:o6 w w' lab af d)(hg:∀ b k,w.heap.size<=b->af b=some k->b<w'.heap.size/\k≠[])(au:∀ r,r≠d->ρ' r=ρ r)(hx:bU w' w0.heap.size af ρ' d x):
  Rl w0 N af ρ' ((σ.drop d).root d x) a w':=by
 have o3:∀ b k,lab b=some k->b<w.heap.size:=fun b k U=>(h.bh b k U).2.1
 refine⟨h.below.trans U,fun b k hbk=>?_,fun r y hy=>?_,fun k=>(h.tmp k).gK hw o3 au,h.size,h.defers,fun r l' hr=>(au r (by rintro rfl;rw[hF]at hr;cases hr)).trans (h.fix r l' hr),h.cF⟩
 ·rcases Nat.lt_or_ge b w.heap.size with aW | jL
  ·rw[hw.o7 b aW]at hbk
   have:=h.bh b k hbk
   exact⟨this.1,Nat.lt_of_lt_of_le this.2.1 hw.size,this.2.2⟩
  ·have:=hg b k jL hbk
   exact⟨.inl (Nat.le_trans h.below.size jL),this.1,this.2⟩
 ·by_cases hr:r=d
  ·subst hr
   have hy:(aI (σ.drop r).m r (some x)) r=some y:=hy
   rw[aK]at hy
   injection hy with hy
   subst hy
   exact hx
  ·have hy:(aI (σ.drop d).m d (some x)) r=some y:=hy
   rw[aQ _ _ _ hr]at hy
   have U:Nat.beq r d=false:=by
    cases U:Nat.beq r d with
    | false=>rfl
    | true=>exact absurd (Nat.eq_of_beq_eq_true U) hr
   simp only[S.drop,U,cond_false]at hy
   cases hm:σ.m r with
   | none=>rw[hm]at hy;cases hy
   | some z=>
    rw[hm]at hy
    injection hy with hy
    subst hy
    exact(h.root r z hm).gK hr hw o3 au
end
end Go.Proofs.YtjldnlbiefpekaaDoor
namespace Go.Proofs.YtjldnlbiefpekaaDoor
open Go.RowKit
set_option linter.unusedVariables false
def ek(q:Nat)(nk k:List Nat):List Nat:=bif aE q k then k.dropLast++nk else k
def aH.ek(lab:aH)(q:Nat)(nk:List Nat):aH:=fun b=>(lab b).map (Proofs.YtjldnlbiefpekaaDoor.ek q nk)
section
variable {P:Program} {w w':World} {w0:Wd} {B N:Nat} {lab af:aH} {ρ ρ':Nat->Loc} {σ:S} {a:Act} {X:Type} {d q:Nat} {nk:List Nat}
theorem Ls:ek q nk [q]=nk:=by simp[ek,aE]
theorem TW{k:List Nat}(h:aE q k=false):ek q nk k=k:=by simp[ek,h]
theorem TX{j i s:Nat}{k:List Nat}(hk:k≠[]):ek q nk (j :: i :: s :: k)=j :: i :: s :: ek q nk k:=by
 unfold ek
 rw[Ch hk]
 cases aE q k with
 | false=>rfl
 | true=>
  cases k with
  | nil=>exact absurd rfl hk
  | cons x k=>simp
theorem Lt{k:List Nat}(hn:nk≠[])(hk:k≠[]):ek q nk k≠[]:=by
 unfold ek
 cases aE q k with
 | false=>simpa using hk
 | true=>simp[hn]
theorem aH.Gf{b:Nat}(h:lab b=none):lab.ek q nk b=none:=by simp[aH.ek,h]
theorem aH.Lu{b:Nat}{k:List Nat}(h:lab b=some k):lab.ek q nk b=some (Proofs.YtjldnlbiefpekaaDoor.ek q nk k):=by simp[aH.ek,h]
theorem aH.Lv{b:Nat}{k:List Nat}(h:lab b=some k)(hk:aE q k=false):lab.ek q nk b=some k:=by rw[aH.Lu h,TW hk]
theorem RV.ek{k:List Nat}{x:V}{v:Value}(h:RV w B lab k x v)(aA:∀ b,lab b≠some []):RV w B (lab.ek q nk) (Proofs.YtjldnlbiefpekaaDoor.ek q nk k) x v:=by
 induction h with
 | int=>exact .int _ _ _
 | bool=>exact .bool _ _
 | str=>exact .str _ _
 | nil=>exact .nil _
 | bg=>exact .bg _ _ _
 | bw=>exact .bw _ _ _ _ _ (by first | assumption | omega)
 | bI=>exact .bI _ _ _ _ _ (by first | assumption | omega)
 | av k t o qn l b off cap u ho hl U h1 hcap hc hr ih=>
  exact .av _ _ _ _ _ _ _ _ u ho (aH.Gf hl) U h1 hcap hc (fun i h j x hx=>ih i h j x hx)
 | own k t o qn l b cap cs u hl hh hs hn hm hc hr ih=>
  have hk:k≠[]:=by rintro rfl;exact aA b hl
  refine .own _ _ _ _ _ _ _ cs u (aH.Lu hl) hh hs hn hm hc (fun i h j x hx=>?_)
  have:=ih i h j x hx
  rw[TX hk]at this
  exact this
structure Rel (q:Nat) (lab af:aH):Prop where
 ne:∀ b,lab b≠some []
 none:∀ b,lab b=none->af b=Option.none
 dh:∀ b k,lab b=some k->aE q k=false->af b=some k
theorem zC(aA:∀ b,lab b≠some []):Rel q lab (lab.ek q nk):=⟨aA,fun _ h=>aH.Gf h,fun _ _ h hk=>aH.Lv h hk⟩
theorem RV.rel(aX:Rel q lab af){k:List Nat}{x:V}{v:Value}(h:RV w B lab k x v)(hk:aE q k=false\/x.av=true):RV w B af k x v:=by
 induction h with
 | int=>exact .int _ _ _
 | bool=>exact .bool _ _
 | str=>exact .str _ _
 | nil=>exact .nil _
 | bg=>exact .bg _ _ _
 | bw=>exact .bw _ _ _ _ _ (by first | assumption | omega)
 | bI=>exact .bI _ _ _ _ _ (by first | assumption | omega)
 | av k t o qn l b off cap u ho hl U h1 hcap hc hr ih=>
  exact .av _ _ _ _ _ _ _ _ u ho (aX.none _ hl) U h1 hcap hc (fun i h j x hx=>ih i h j x hx (.inr (fY t o l[i] ho j x hx)))
 | own k t o qn l b cap cs u hl hh hs hn hm hc hr ih=>
  have cm:aE q k=false:=by
   rcases hk with hk | hk
   ·exact hk
   ·simp[V.av]at hk;omega
  refine .own _ _ _ _ _ _ _ cs u (aX.dh _ _ hl cm) hh hs hn hm hc (fun i h j x hx=>ih i h j x hx ?_)
  cases k with
  | nil=>exact absurd hl (aX.ne b)
  | cons z k=>exact .inl (by rw[Ch (by simp)];exact cm)
theorem Gg(aX:Rel q lab af):∀ (k:List Nat) (ad:Addr),aE q k=false->addrAt w lab ρ k=some ad->addrAt w af ρ k=some ad
 | [],_,_,h=>h
 | [_],_,_,h=>h
 | [_,_],_,_,h=>h
 | [_,_,_],_,_,h=>by simp only[addrAt]at h ⊢;exact h
 | [j,i,s,r],_,hd,h=>by
  have hr:aE q [r]=false:=by simpa [aE]using hd
  simp only[addrAt]at h ⊢
  split at h
  ·rename_i v b n c e
   split at h
   ·rename_i hl
    rw[if_pos (aX.dh _ _ hl hr)]
    exact h
   ·cases h
  ·cases h
 | j :: i :: s :: x :: y :: k,ad,hd,h=>by
  have k7:aE q (x :: y :: k)=false:=by simpa [aE]using hd
  simp only[addrAt]at h ⊢
  cases ha:addrAt w lab ρ (x :: y :: k)with
  | none=>rw[ha]at h;cases h
  | some jK=>
   rw[Gg aX _ _ k7 ha]
   rw[ha]at h
   split at h
   ·rename_i v b n c e
    split at h
    ·rename_i hl
     rw[if_pos (aX.dh _ _ hl k7)]
     exact h
    ·cases h
   ·cases h
theorem Gh(aX:Rel q lab af)(k:List Nat)(u:Value)(hd:aE q k=false)(h:aP w lab ρ k=some u):aP w af ρ k=some u:=by
 match k,hd,h with
 | [],_,h=>simp[aP,addrAt]at h
 | [r],_,h=>exact h
 | x :: y :: k,hd,h=>
  simp only[aP]at h ⊢
  cases ha:addrAt w lab ρ (x :: y :: k)with
  | none=>rw[ha]at h;cases h
  | some ad=>
   rw[Gg aX _ _ hd ha]
   rw[ha]at h
   exact h
theorem bB.rel(aX:Rel q lab af){x:Lf}{u:Value}(h:bB w B lab ρ x u):bB w B af ρ (x.drop q) u:=by
 cases x with
 | v x=>exact⟨h.1,h.2.rel aX (.inr h.1)⟩
 | dead=>trivial
 | own k=>
  have e:Lf.drop q (.own k)=(bif aE q k then .dead else .own k):=rfl
  rw[e]
  cases hl:aE q k with
  | true=>trivial
  | false=>exact⟨h.1,Gh aX k u hl h.2⟩
theorem bK.rel(aX:Rel q lab af){cs:List Lf}{us:Array Value}(h:bK w B lab ρ cs us):bK w B af ρ (cs.map (Lf.drop q)) us:=by
 refine⟨by rw[List.length_map];exact h.1,fun j x hx=>?_⟩
 rw[List.getElem?_map]at hx
 cases hy:cs[j]? with
 | none=>rw[hy]at hx;cases hx
 | some y=>
  rw[hy]at hx
  injection hx with hx
  subst hx
  obtain⟨u,hu,r⟩:=h.2 j y hy
  exact⟨u,hu,r.rel aX⟩
theorem RP.rel(aX:Rel q lab af){p:Bool×List Lf}{u:Value}(h:RP w B lab ρ p u):RP w B af ρ (p.1,p.2.map (Lf.drop q)) u:=by
 obtain⟨b,cs⟩:=p
 cases b with
 | true=>obtain⟨us,e,h⟩:=h;exact⟨us,e,h.rel aX⟩
 | false=>exact bK.rel aX h
theorem RA.rel(aX:Rel q lab af){x:A}{u:Value}(h:RA w B lab ρ x u):RA w B af ρ (x.drop q) u:=by
 cases x with
 | undef=>trivial
 | skip=>exact h
 | lf x=>exact bB.rel aX h
 | agg cs=>exact RP.rel aX (p:=(true,cs)) h
 | aU xs=>
  obtain⟨us,e,hs,h⟩:=h
  refine⟨us,e,by rw[List.length_map];exact hs,fun j p hp=>?_⟩
  rw[List.getElem?_map]at hp
  cases hy:xs[j]? with
  | none=>rw[hy]at hp;cases hp
  | some y=>
   rw[hy]at hp
   injection hp with hp
   subst hp
   obtain⟨v,hv,r⟩:=h j y hy
   exact⟨v,hv,r.rel aX⟩
 | ptr k=>
  have e:A.drop q (.ptr k)=(bif aE q k then .undef else .ptr k):=rfl
  rw[e]
  cases hl:aE q k with
  | true=>trivial
  | false=>obtain⟨ad,e,h⟩:=h;exact⟨ad,e,Gg aX k ad hl h⟩
 | view k s i j=>
  have e:A.drop q (.view k s i j)=(bif aE q k then .undef else .view k s i j):=rfl
  rw[e]
  cases hl:aE q k with
  | true=>trivial
  | false=>obtain⟨A,n,c,h,r⟩:=h;exact⟨A,n,c,Gh aX k _ hl h,r⟩
 | aF r j=>
  have e:A.drop q (.aF r j)=(bif Nat.beq r q then .undef else .aF r j):=rfl
  rw[e]
  cases hl:Nat.beq r q with
  | true=>trivial
  | false=>exact h
 | pk r n=>
  have e:A.drop q (.pk r n)=(bif Nat.beq r q then .undef else .pk r n):=rfl
  rw[e]
  cases hl:Nat.beq r q with
  | true=>trivial
  | false=>exact h
 | ec cs=>
  obtain⟨b,off,e,U,hl,h⟩:=h
  refine⟨b,off,e,U,aX.none _ hl,fun j x hx=>?_⟩
  obtain⟨hf,v,hv,hr⟩:=h j x hx
  exact⟨hf,v,hv,hr.rel aX (.inr hf)⟩
 | ic f cs=>
  obtain⟨pv,e0,h⟩:=h
  refine⟨pv,e0,?_⟩
  obtain⟨b,off,e,U,hl,h⟩:=h
  refine⟨b,off,e,U,aX.none _ hl,fun j x hx=>?_⟩
  obtain⟨hf,v,hv,hr⟩:=h j x hx
  exact⟨hf,v,hv,hr.rel aX (.inr hf)⟩
 | fn f cap=>
  have e:A.drop q (.fn f cap)=(bif cap.any (fun p=>Nat.beq p.1 q)then .undef else .fn f cap):=rfl
  rw[e]
  cases hl:cap.any (fun p=>Nat.beq p.1 q)with
  | true=>trivial
  | false=>exact h
theorem bU.rel(aX:Rel q lab af){r:Nat}(hr:r≠q){x:ax}(h:bU w B lab ρ r x):bU w B af ρ r (x.drop q):=by
 have mJ:aE q [r]=false:=by simpa [aE]using fun e=>hr e
 cases h with
 | blk b off cells e cs us dN hl hh hs hc=>
  refine .blk b off cells e _ us dN (aX.dh _ _ hl mJ) hh (by rw[List.length_map];exact hs) (fun j x hx=>?_)
  rw[List.getElem?_map]at hx
  cases hy:cs[j]? with
  | none=>rw[hy]at hx;cases hx
  | some y=>
   rw[hy]at hx
   injection hx with hx
   subst hx
   exact⟨(hc j y hy).1,(hc j y hy).2.rel aX⟩
 | sl v y dN zo=>exact .sl v y dN (zo.rel aX (.inl mJ))
 | mp b c es l dN hl hh he=>exact .mp b c es l dN (aX.dh _ _ hl mJ) hh he
 | gh us xs dN hx=>
  refine .gh us _ dN (fun j x hj=>?_)
  rw[List.getElem?_map]at hj
  cases hy:xs[j]? with
  | none=>rw[hy]at hj;cases hj
  | some y=>
   rw[hy]at hj
   injection hj with hj
   subst hj
   exact(hx j y hy).rel aX
theorem Rl.rT(h:Rl w0 N lab ρ σ a w):∀ b,lab b≠some []:=fun b U=>(h.bh b [] U).2.2 rfl
theorem Rl.rel(h:Rl w0 N lab ρ σ a w)(aX:Rel q lab af)(hg:∀ b k,af b=some k->(∃ k',lab b=some k')/\k≠[]):Rl w0 N af ρ (σ.drop q) a w:=by
 refine⟨h.below,fun b k hbk=>?_,fun r x hx=>?_,fun k=>(h.tmp k).rel aX,h.size,h.defers,h.fix,h.cF⟩
 ·obtain⟨⟨k',hl⟩,hk⟩:=hg b k hbk
  have:=h.bh b k' hl
  exact⟨this.1,this.2.1,hk⟩
 ·have hx:(bif Nat.beq r q then none else (σ.m r).map (ax.drop q))=some x:=hx
  cases U:Nat.beq r q with
  | true=>rw[U]at hx;cases hx
  | false=>
   rw[U,cond_false]at hx
   have bx:r≠q:=by rintro rfl;simp at U
   cases iV:σ.m r with
   | none=>rw[iV]at hx;cases hx
   | some y=>
    rw[iV]at hx
    injection hx with hx
    subst hx
    exact(h.root r y iV).rel aX bx
theorem Rl.TY{z:V}(h:Rl w0 N lab ρ σ a w)(hm:σ.m q=some (.sl z))(hn:nk≠[]):∃ u,ρ q = .bX u/\Rl w0 N (lab.ek q nk) ρ (σ.drop q) a w/\RV w w0.heap.size (lab.ek q nk) nk z u:=by
 have aA:=h.rT
 have hq:=h.root q _ hm
 generalize he:ax.sl z=x at hq
 cases hq with
 | blk=>cases he
 | mp=>cases he
 | gh=>cases he
 | sl u y au hr=>
  injection he with he
  subst he
  refine⟨u,au,h.rel (zC aA) fun b k hbk=>?_,?_⟩
  ·unfold aH.ek at hbk
   cases hl:lab b with
   | none=>rw[hl]at hbk;cases hbk
   | some k'=>
    rw[hl]at hbk
    injection hbk with hbk
    subst hbk
    exact⟨⟨k',rfl⟩,Lt hn (fun e=>aA b (by rw[hl,e]))⟩
  ·have:=hr.ek (q:=q) (nk:=nk) aA
   rwa [Ls]at this
def k8(r:Nat)(key:Nat->List Nat):Nat->Nat->List Lf->S->Option (List V×S)
 | _,_,[],σ=>some ([],σ)
 | f+1,j,.v x :: xs,σ=>(k8 r key f (j+1) xs σ).map fun p=>(x :: p.1,p.2)
 | f+1,j,.own [q] :: xs,σ=>match σ.m q with
  | some (.sl z)=>bif Nat.beq q r then none else (k8 r key f (j+1) (xs.map (Lf.drop q)) (σ.drop q)).map fun p=>(z :: p.1,p.2)
  | _=>none
 | _,_,_,_=>none
theorem Ci{r:Nat}{key:Nat->List Nat}(o9:∀ j,aE r (key j)=true):∀ (f j:Nat) (xs:List Lf) (σ τ:S) (vs:List V),k8 r key f j xs σ=some (vs,τ)->∀ lab ρ a w,Rl w0 N lab ρ σ a w->∀ us:List Value,bK w w0.heap.size lab ρ xs us.toArray->
  ∃ af,Rl w0 N af ρ τ a w/\vs.length=xs.length/\(∀ (n:Nat) x,vs[n]?=some x->∃ u,us[n]?=some u/\RV w w0.heap.size af (key (j+n)) x u)/\(∀ k x v,aE r k=true->RV w w0.heap.size lab k x v->RV w w0.heap.size af k x v)/\
   (∀ x,σ.m r=some (.sl x)->τ.m r=some (.sl x))/\(∀ k u,aE r k=true->aP w lab ρ k=some u->aP w af ρ k=some u)/\(∀ b,lab b=some [r]->af b=some [r])/\(∀ b,lab b=none->af b=none)
 | 0,j,[],σ,τ,vs,h,lab,ρ,a,w,hR,us,hu=>by
  simp only[k8,Option.some.injEq,Prod.mk.injEq]at h
  obtain⟨rfl,rfl⟩:=h
  exact⟨lab,hR,rfl,by simp,fun _ _ _ _ h=>h,fun _ h=>h,fun _ _ _ h=>h,fun _ h=>h,fun _ h=>h⟩
 | f+1,j,[],σ,τ,vs,h,lab,ρ,a,w,hR,us,hu=>by
  simp only[k8,Option.some.injEq,Prod.mk.injEq]at h
  obtain⟨rfl,rfl⟩:=h
  exact⟨lab,hR,rfl,by simp,fun _ _ _ _ h=>h,fun _ h=>h,fun _ _ _ h=>h,fun _ h=>h,fun _ h=>h⟩
 | 0,j,x :: xs,σ,τ,vs,h,lab,ρ,a,w,hR,us,hu=>by simp[k8]at h
 | f+1,j,x :: xs,σ,τ,vs,h,lab,ρ,a,w,hR,us,hu=>by
  obtain⟨u0,us,rfl⟩:∃ u0 Lw,us=u0 :: Lw:=by
   cases us with
   | nil=>have:=hu.1;simp at this
   | cons u0 us=>exact⟨_,_,rfl⟩
  have iX:bB w w0.heap.size lab ρ x u0:=by
   obtain⟨u,e,h⟩:=hu.2 0 x rfl
   simp at e
   subst e
   exact h
  have cI:bK w w0.heap.size lab ρ xs us.toArray:=⟨by have:=hu.1;simpa using this,fun n y hy=>by
   obtain⟨u,e,h⟩:=hu.2 (n+1) y hy
   exact⟨u,by simpa using e,h⟩⟩
  cases x with
  | v x=>
   simp only[k8,Option.map_eq_some_iff]at h
   obtain⟨⟨tw,dD⟩,h,e⟩:=h
   simp only[Prod.mk.injEq]at e
   obtain⟨rfl,rfl⟩:=e
   obtain⟨af,h1,h2,h3,h4,h5⟩:=Ci o9 f (j+1) xs σ dD tw h lab ρ a w hR us cI
   refine⟨af,h1,by simp[h2],fun n y hy=>?_,h4,h5⟩
   cases n with
   | zero=>
    simp at hy
    subst hy
    refine⟨u0,rfl,h4 _ _ _ (o9 _) (iX.2.key iX.1)⟩
   | succ n=>
    obtain⟨u,e,h⟩:=h3 n y (by simpa using hy)
    exact⟨u,by simpa using e,by rw[show j+(n+1)=j+1+n by omega];exact h⟩
  | dead=>simp[k8]at h
  | own k=>
   match k,iX,h with
   | [],_,h=>simp[k8]at h
   | _ :: _ :: _,_,h=>simp[k8]at h
   | [q],iX,h=>
    simp only[k8]at h
    split at h
    ·rename_i z hz
     cases Gi:Nat.beq q r with
     | true=>rw[Gi]at h;cases h
     | false=>
      rw[Gi,cond_false,Option.map_eq_some_iff]at h
      obtain⟨⟨tw,dD⟩,TZ,e⟩:=h
      simp only[Prod.mk.injEq]at e
      obtain⟨rfl,rfl⟩:=e
      have aA:q≠r:=by rintro rfl;simp at Gi
      have T0:key j≠[]:=by intro e;have:=o9 j;rw[e]at this;simp[aE]at this
      obtain⟨u,au,aB,iT⟩:=hR.TY hz T0
      have tA:u=u0:=by
       have h4:=iX.2
       simp only[aP,au]at h4
       injection h4
      subst tA
      have fh:∀ k,aE r k=true->aE q k=false:=by
       intro k hk
       cases hq:aE q k with
       | false=>rfl
       | true=>
        exfalso
        have h1:=Gd hk
        have h2:=Gd hq
        exact aA (Li h1 h2)
      obtain⟨af,h1,h2,h3,h4,h5,h6,h7,h8⟩:=Ci o9 f (j+1) (xs.map (Lf.drop q)) (σ.drop q) dD tw TZ _ ρ a w aB us (cI.rel (zC hR.rT))
      refine⟨af,h1,by simp[h2],fun n y hy=>?_,fun k x v hk hv=>h4 _ _ _ hk (hv.rel (zC hR.rT) (.inl (fh k hk))),fun x hx=>h5 x ?_,fun k v hk hv=>h6 k v hk (Gh (zC hR.rT) k v (fh k hk) hv),fun b U=>h7 b (aH.Lv U (by simpa [aE]using fun e=>aA e.symm)),fun b U=>h8 b (aH.Gf U)⟩
      ·cases n with
       | zero=>
        simp at hy
        subst hy
        exact⟨u,rfl,h4 _ _ _ (o9 _) iT⟩
       | succ n=>
        obtain⟨u,e,h⟩:=h3 n y (by simpa using hy)
        exact⟨u,by simpa using e,by rw[show j+(n+1)=j+1+n by omega];exact h⟩
      ·have U:Nat.beq r q=false:=by
        cases U:Nat.beq r q with
        | false=>rfl
        | true=>exact absurd (Nat.eq_of_beq_eq_true U).symm aA
       simp only[S.drop,U,cond_false,hx,Option.map_some,ax.drop]
    ·cases h
end
end Go.Proofs.YtjldnlbiefpekaaDoor
namespace Go.Proofs.YtjldnlbiefpekaaDoor
open Go.RowKit
set_option linter.unusedVariables false
def eJ:Value->Lf
 | .int k n=>.v (.int k n)
 | .bool b=>.v (.bool b)
 | .string s=>.v (.str s)
 | .slice none 0 0=>.v .nil
 | _=>.dead
def zeroV:Value->Option V
 | .int k n=>some (.int k n)
 | .bool b=>some (.bool b)
 | .string s=>some (.str s)
 | .slice none 0 0=>some .nil
 | _=>none
def zD:List Value->Option (List V)
 | []=>some []
 | v :: vs=>match zeroV v,zD vs with
  | some x,some xs=>some (x :: xs)
  | _,_=>none
def zeroOf(P:Program)(e:TypeId):Option Value:=(P.info? e).bind (·.zero)
def bytesOf(P:Program)(e:TypeId):Option Nat:=(P.info? e).map (·.bytes)
def en{X:Type}(N:Nat)(σ:S)(d:Nat)(x:ax)(y:A)(k:S->Option X):Option X:=
 bif Nat.blt d N then k (((σ.drop d).root d x).set d y)else none
def mc{X:Type}(P:Program)(N:Nat)(σ:S)(d:Nat)(e:TypeId)(k:S->Option X):Option X:=
 match zeroOf P e with
 | some z=>en N σ d (.blk (z.cells.toList.map eJ)) (.aF d 0) k
 | none=>none
def pe(P:Program)(t:TypeId):Option (TypeId×TC):=
 match l8 P t with
 | none=>none
 | some e=>match Lb e,fM P e,bytesOf P e with
  | some tc,some n,some b=>bif Nat.beq n (aj tc)&&Nat.ble b 65536 then some (e,tc)else none
  | _,_,_=>none
def Lx(P:Program)(e:TypeId)(tc:TC):Option (T tc):=
 match zeroOf P e with
 | none=>none
 | some z=>match zD z.cells.toList with
  | none=>none
  | some vs=>dec tc (full tc) vs
def tB{X:Type}(P:Program)(N:Nat)(σ:S)(d:Nat)(t:TypeId)(l c:A)(k:S->Option X):Option X:=
 match pe P t,l,c with
 | some (e,tc),.lf (.v (.int _ n)),.lf (.v (.int _ c))=>match Lx P e tc with
  | none=>none
  | some z=>if 0<=n/\n<=c/\c<1073741824 then en N σ d (.sl (.sl tc (full tc+2) false (List.replicate n.toNat z))) (.lf (.own [d])) k else none
 | _,_,_=>none
def V.Cj(t:TC):V->Option (List (T t))
 | .sl t' _ _ l=>if h:t'=t then some (h ▸ l)else none
 | .nil=>some []
 | _=>none
def kD{X:Type}(P:Program)(N:Nat)(σ:S)(d:Nat)(t:TypeId)(x y:A)(k:S->Option X):Option X:=
 match pe P t with
 | some (e,tc)=>bif Nat.beq (full tc) 0&&(zeroOf P e).any (fun z=>Nat.beq z.cells.size (aj tc))then kC σ y fun yv=>(match yv.Cj tc with
  | none=>none
  | some l2=>match x with
   | .lf (.v .nil)=>bif aY l2.length then en N σ d (.sl (.sl tc 2 false l2)) (.lf (.own [d])) k else none
   | .lf (.own [r])=>(match σ.m r with
    | some (.sl (.sl t' (o+2) q l))=>if h:t'=tc then (bif Nat.blt d N&&(Nat.blt r N || Nat.ble 60000 r)&&aY (l.length+l2.length)then k (((σ.drop r).root r (.sl (.sl tc (o+2) false ((h ▸ l)++l2)))).set d (.lf (.own [r])))else none)else none
    | _=>none)
   | _=>none)else none
 | none=>none
section
variable {P:Program} {w w':World} {w0:Wd} {B N:Nat} {lab af:aH} {ρ ρ':Nat->Loc} {σ:S} {a:Act} {X:Type} {d:Nat} {r:X}
theorem Ck(v:Value):bB w B lab ρ (eJ v) v:=by
 unfold eJ
 split
 ·exact⟨rfl,.int _ _ _⟩
 ·exact⟨rfl,.bool _ _⟩
 ·exact⟨rfl,.str _ _⟩
 ·exact⟨rfl,.nil _⟩
 ·trivial
theorem T3{v:Value}{x:V}(h:zeroV v=some x)(q:List Nat):RV w B lab q x v:=by
 unfold zeroV at h
 split at h <;>first | (injection h with h;subst h;first | exact .int _ _ _ | exact .bool _ _ | exact .str _ _ | exact .nil _) | cases h
theorem Ly:∀ (vs:List Value) (xs:List V),zD vs=some xs->xs.length=vs.length/\∀ (j:Nat) x,xs[j]?=some x->∃ v,vs[j]?=some v/\zeroV v=some x
 | [],xs,h=>by
  simp[zD]at h
  subst h
  simp
 | v :: vs,xs,h=>by
  unfold zD at h
  split at h
  ·rename_i y ys hy iW
   injection h with h
   subst h
   obtain⟨h1,h2⟩:=Ly vs ys iW
   refine⟨by simp[h1],fun j x hx=>?_⟩
   cases j with
   | zero=>simp at hx;subst hx;exact⟨v,rfl,hy⟩
   | succ j=>simp at hx;simpa using h2 j x hx
  ·cases h
theorem eL.Lz(w0:Wd)(w:World)(o:Obj)(h:w0.heap.size<=w.heap.size):eL w0 w (w.alloc o):=.of ((Below.refl w0.heap.size w).alloc h o) (Nat.le_refl _)
theorem Rl.wz{c:Array Value}{e:TypeId}{x:ax}{ρ':Nat->Loc}(h:Rl w0 N lab ρ σ a w)(hF:w0.F d=none)(au:∀ r,r≠d->ρ' r=ρ r)
  (hx:bU (w.alloc (.cells c e)) w0.heap.size (aI lab w.heap.size (some [d])) ρ' d x):Rl w0 N (aI lab w.heap.size (some [d])) ρ' ((σ.drop d).root d x) a (w.alloc (.cells c e)):=by
 refine h.o8 hF (eL.Lz w0 w _ h.below.size) ⟨by simp,fun b U _=>Below.heap_alloc w _ b U,fun b U=>aQ _ _ _ (by omega),fun b U=>(h.bh b [] U).2.2 rfl⟩ (fun b k U hk=>?_) au hx
 by_cases e:b=w.heap.size
 ·subst e
  rw[aK]at hk
  injection hk with hk
  subst hk
  exact⟨by simp,by simp⟩
 ·rw[aQ _ _ _ e]at hk
  have:=(h.bh b k hk).2.1
  omega
theorem jt{x:ax}{y:A}{k:S->Option X}(h:en N σ d x y k=some r):d<N/\k (((σ.drop d).root d x).set d y)=some r:=by
 unfold en at h
 cases hN:Nat.blt d N with
 | false=>rw[hN]at h;cases h
 | true=>rw[hN]at h;exact⟨by have:=Nat.le_of_ble_eq_true hN;omega,h⟩
theorem T4{e:TypeId}{k:S->Option X}(h:mc P N σ d e k=some r):∃ aa,k aa=some r/\∀ lab ρ a w,Rl w0 N lab ρ σ a w->∃ w' af ρ' v,(Instr.alloc e true (.tuple #[])).run P w = .ok v w'/\Rl w0 N af ρ' aa (a.put (some d) v) w':=by
 unfold mc at h
 split at h
 ·rename_i z hz
  obtain⟨hd,h⟩:=jt h
  refine⟨_,h,fun lab ρ a w hR=>?_⟩
  have aD:(Instr.alloc e true (.tuple #[])).run P w = .ok (.pointer (some ⟨w.heap.size,0,none⟩)) (w.alloc (.cells z.cells e)):=by
   unfold zeroOf at hz
   cases hi:P.info? e with
   | none=>simp[hi]at hz
   | some i=>
    have hz:i.zero=some z:=by simpa [hi]using hz
    simp[Instr.alloc,zeroValue,typeInfo,hi,hz,newVar,newRow]
  refine⟨_,aI lab w.heap.size (some [d]),aI ρ d (.blk w.heap.size 0),_,aD,(hR.wz (hR.cF d (.inl hd)) (fun r hr=>aQ _ _ _ hr) ?_).set ⟨w.heap.size,0,aK _ _ _,rfl⟩ hd⟩
  refine .blk w.heap.size 0 z.cells e _ (fun j=>z.cells.getD j undef) (aK _ _ _) (aK _ _ _) (heap_alloc_new w _) (by simp) fun j x hx=>?_
  rw[List.getElem?_map]at hx
  cases hv:z.cells.toList[j]? with
  | none=>rw[hv]at hx;cases hx
  | some v=>
   rw[hv]at hx
   injection hx with hx
   subst hx
   have bY:z.cells[j]?=some v:=by simpa using hv
   have hg:z.cells.getD j undef=v:=by rw[Array.getD_eq_getD_getElem?,bY];rfl
   rw[hg,Nat.zero_add]
   exact⟨bY,Ck v⟩
 ·cases h
theorem tC{t e:TypeId}{tc:TC}(h:pe P t=some (e,tc)):P.underlying t=some (.slice e)/\tid tc=e/\∃ i,P.info? e=some i/\i.size=aj tc/\i.bytes<=65536:=by
 unfold pe at h
 split at h
 ·cases h
 ·rename_i e' he
  split at h
  ·rename_i T5 n b T6 hn U
   cases hc:(Nat.beq n (aj T5)&&Nat.ble b 65536)with
   | false=>rw[hc]at h;cases h
   | true=>
    rw[hc,cond_true]at h
    injection h with h
    injection h with h1 h2
    subst h1 h2
    rw[Bool.and_eq_true]at hc
    refine⟨?_,Tx T6,?_⟩
    ·unfold l8 at he
     split at he
     ·rename_i e'' hu;injection he with he;subst he;exact hu
     ·cases he
    ·unfold fM at hn
     unfold bytesOf at U
     cases hi:P.info? e' with
     | none=>simp[hi]at hn
     | some i=>
      simp only[hi,Option.map_some,Option.some.injEq]at hn U
      refine⟨i,rfl,hn.trans (Nat.eq_of_beq_eq_true hc.1),by rw[U];exact Nat.le_of_ble_eq_true hc.2⟩
  ·cases h
theorem T7(z:Array Value)(n i j:Nat)(hz:j<z.size)(h:i*z.size+j<n):(madeCells z n)[i*z.size+j]?=some z[j]:=by
 have hm:(i*z.size+j) % z.size=j:=by rw[Nat.add_comm,Nat.add_mul_mod_self_right,Nat.mod_eq_of_lt hz]
 simp only[madeCells,Array.getElem?_map,Array.getElem?_range,h,if_true,Option.map_some,hm]
 simp[hz]
theorem T8{t:TypeId}{l c:A}{k:S->Option X}(h:tB P N σ d t l c k=some r):∃ aa,k aa=some r/\∀ lab ρ a w,Rl w0 N lab ρ σ a w->∀ u v,RA w w0.heap.size lab ρ l u->RA w w0.heap.size lab ρ c v->
  ∃ w' af ρ' x,(Instr.makeSlice t u v).run P w = .ok x w'/\Rl w0 N af ρ' aa (a.put (some d) x) w':=by
 unfold tB at h
 split at h
 ·rename_i e tc kl n kc c eo
  split at h
  ·cases h
  ·rename_i z hz
   split at h
   ·rename_i U
    obtain⟨hd,h⟩:=jt h
    refine⟨_,h,fun lab ρ a w hR u v hu hv=>?_⟩
    obtain rfl:=hu.2.eM
    obtain rfl:=hv.2.eM
    obtain⟨cP,ht,i,hi,hsz,dS⟩:=tC eo
    unfold Lx at hz
    split at hz
    ·cases hz
    ·rename_i zv Cl
     split at hz
     ·cases hz
     ·rename_i vs cT
      have k9:i.zero=some zv:=by unfold zeroOf at Cl;simpa [hi]using Cl
      obtain⟨pg,ep⟩:=Ly _ _ cT
      have hk:=hU tc (full tc) vs z hz
      have dL:zv.cells.size=aj tc:=by rw[<-iP tc (full tc) z,<-hk.1,pg];simp
      have xS:(i.bytes:Int)*c<=281474976710656:=by
       have h1:(i.bytes:Int)<=65536:=by omega
       have h2:(i.bytes:Int)*c<=65536*c:=Int.mul_le_mul_of_nonneg_right h1 (by omega)
       omega
      have aD:=run_make (P:=P) w t e i zv cP hi k9 kl kc n c U.1 U.2.1 xS (by omega)
      rw[hsz,<-dL]at aD
      refine⟨_,aI lab w.heap.size (some [d]),aI ρ d (.bX (.slice (some ⟨w.heap.size,0,none⟩) n.toNat c.toNat)),_,aD,(hR.wz (hR.cF d (.inl hd)) (fun r hr=>aQ _ _ _ hr) ?_).set ⟨rfl,?_⟩ hd⟩
      ·refine .sl _ _ (aK _ _ _) ?_
       have hlen:(List.replicate n.toNat z).length=n.toNat:=by simp
       have:=RV.own (w:=w.alloc (.cells (madeCells zv.cells (c.toNat*zv.cells.size)) e)) (B:=w0.heap.size) (lab:=aI lab w.heap.size (some [d])) [d] tc (full tc) false (List.replicate n.toNat z) w.heap.size c.toNat (madeCells zv.cells (c.toNat*zv.cells.size)) (fun _ j=>zv.cells.getD j undef)
        (aK _ _ _) (by rw[ht];exact heap_alloc_new w _) (by rw[size_madeCells,dL]) (by rw[hlen];omega) ⟨by unfold maxLen;omega,fun h=>by cases h⟩ (fun i' h' j x hx=>?_) (fun i' h' j x hx=>?_)
       ·rw[hlen]at this
        exact this
       ·rw[List.getElem_replicate]at hx
        have hj:j<aj tc:=by have:=(List.getElem?_eq_some_iff.1 hx).1;rwa [iP]at this
        rw[hlen]at h'
        rw[<-dL]at hj
        rw[<-dL,T7 zv.cells _ i' j hj (by
         have:(i'+1)*zv.cells.size<=c.toNat*zv.cells.size:=Nat.mul_le_mul_right _ (by omega)
         rw[Nat.succ_mul]at this
         omega)]
        simp[Array.getD_eq_getD_getElem?,hj]
       ·rw[List.getElem_replicate]at hx
        have hj:j<(enc tc (full tc) z).length:=(List.getElem?_eq_some_iff.1 hx).1
        rw[<-hk.1]at hj
        have hy:=List.getElem?_eq_getElem hj
        generalize vs[j]=y at hy
        obtain⟨v,hv,T9⟩:=ep j y hy
        have bY:zv.cells[j]?=some v:=by simpa using hv
        have hg:zv.cells.getD j undef=v:=by rw[Array.getD_eq_getD_getElem?,bY];rfl
        rw[hg]
        exact(T3 T9 _).wk (hk.2 j y x hy hx)
      ·simp[aP,aK]
   ·cases h
 ·cases h
end
end Go.Proofs.YtjldnlbiefpekaaDoor
namespace Go.Proofs.YtjldnlbiefpekaaDoor
open Go.RowKit
set_option linter.unusedVariables false
section
variable {P:Program} {w w':World} {w0:Wd} {B N:Nat} {lab af:aH} {ρ ρ':Nat->Loc} {σ:S} {a:Act} {X:Type} {d:Nat} {r:X}
theorem Gj(t:TC)(h:full t=0)(o o':Nat)(x:T t):enc t o x=enc t o' x:=by
 have key:∀ o,enc t o x=enc t 0 x:=by
  intro o
  rw[Lc t o x]
  have:=zm t o x h
  conv=>lhs;rw[<-List.map_id (enc t o x)]
  apply List.map_congr_left
  intro y hy
  have hp:=this y hy
  cases y <;>first | rfl | cases hp
 rw[key o,key o']
def pn(u:Nat->Nat->Value)(n s:Nat):List Value:=(List.range (n*s)).map fun k=>u (k / s) (k % s)
theorem LA(u:Nat->Nat->Value)(n s i j:Nat)(hi:i<n)(hj:j<s):(pn u n s)[i*s+j]?=some (u i j):=by
 have aW:i*s+j<n*s:=by
  have:(i+1)*s<=n*s:=Nat.mul_le_mul_right _ hi
  rw[Nat.succ_mul]at this
  omega
 have hd:(i*s+j) / s=i:=by rw[Nat.add_comm,Nat.add_mul_div_right _ _ (by omega),Nat.div_eq_of_lt hj,Nat.zero_add]
 have hm:(i*s+j) % s=j:=by rw[Nat.add_comm,Nat.add_mul_mod_self_right,Nat.mod_eq_of_lt hj]
 simp[pn,aW,hd,hm]
theorem Cm(u:Nat->Nat->Value)(n s k:Nat)(v:Value)(hs:0<s)(h:(pn u n s)[k]?=some v):∃ i j,k=i*s+j/\i<n/\j<s/\v=u i j:=by
 have hk:k<n*s:=by
  have:=(List.getElem?_eq_some_iff.1 h).1
  simpa [pn]using this
 refine⟨k / s,k % s,by rw[Nat.mul_comm];exact(Nat.div_add_mod k s).symm,Nat.div_lt_of_lt_mul (by rw[Nat.mul_comm];exact hk),Nat.mod_lt _ hs,?_⟩
 simp only[pn,List.getElem?_map,List.getElem?_range hk,Option.map_some,Option.some.injEq]at h
 exact h.symm
theorem Cn(t:TC)(o:Nat)(x:T t)(j:Nat)(hj:j<aj t):∃ y,(enc t o x)[j]?=some y:=⟨_,List.getElem?_eq_getElem (by rw[iP];exact hj)⟩
def pq(t:TC)(l:List (T t))(vs:List Value):Prop:=
 ∀ i (hi:i<l.length) (o j:Nat) x,(enc t o l[i])[j]?=some x->∃ v,vs[i*aj t+j]?=some v/\v.oneCell'=true/\∀ (w':World) (B':Nat) (af:aH) (q':List Nat),RV w' B' af q' x v
theorem RV.reads{q:List Nat}{t:TC}{g:Nat}{qn:Bool}{l:List (T t)}{u:Value}(h:RV w B lab q (.sl t g qn l) u)(hf:full t=0):
  ∃ A c news,u = .slice A l.length c/\Reads w w.heap.size (aj t) A l.length news/\(∀ v∈news,v.oneCell'=true)/\pq t l news:=by
 cases h with
 | bg=>exact⟨none,0,[],rfl,Reads.none_,by simp,fun i hi=>by simp at hi⟩
 | bw=>exact⟨_,_,[],rfl,⟨by simp,fun h=>by simp at h⟩,by simp,fun i hi=>by simp at hi⟩
 | bI=>exact⟨_,_,[],rfl,⟨by simp,fun h=>by simp at h⟩,by simp,fun i hi=>by simp at hi⟩
 | av _ _ _ _ _ b off cap us ho hl U h1 hcap hc hr=>
  have gJ:∀ i (hi:i<l.length) j,j<aj t->(us i j).oneCell'=true:=by
   intro i hi j hj
   obtain⟨y,hy⟩:=Cn t g l[i] j hj
   exact(hr i hi j y hy).one
  refine⟨_,cap,pn us l.length (aj t),rfl,⟨by simp[pn],fun hn=>⟨b,off,rfl,U,fun k v hv=>?_⟩⟩,fun v hv=>?_,fun i hi o j x hx=>?_⟩
  ·obtain⟨i,j,rfl,hi,hj,rfl⟩:=Cm us _ _ k v (lY t) hv
   obtain⟨y,hy⟩:=Cn t g l[i] j hj
   exact hc i hi j y hy
  ·obtain⟨k,hk⟩:=List.mem_iff_getElem?.1 hv
   obtain⟨i,j,rfl,hi,hj,rfl⟩:=Cm us _ _ k v (lY t) hk
   exact gJ i hi j hj
  ·have hj:j<aj t:=by have:=(List.getElem?_eq_some_iff.1 hx).1;rwa [iP]at this
   rw[Gj t hf o g]at hx
   refine⟨us i j,LA us _ _ i j hi hj,gJ i hi j hj,fun w' B' af q'=>(hr i hi j x hx).rQ (zm t g l[i] hf x (List.mem_of_getElem? hx))⟩
 | own _ _ o _ _ b cap cs us hl hh hs hn hm hc hr=>
  have gJ:∀ i (hi:i<l.length) j,j<aj t->(us i j).oneCell'=true:=by
   intro i hi j hj
   obtain⟨y,hy⟩:=Cn t o l[i] j hj
   exact(hr i hi j y hy).one
  refine⟨_,cap,pn us l.length (aj t),rfl,⟨by simp[pn],fun hn=>⟨b,0,rfl,(Array.getElem?_eq_some_iff.1 hh).1,fun k v hv=>?_⟩⟩,fun v hv=>?_,fun i hi o' j x hx=>?_⟩
  ·obtain⟨i,j,rfl,hi,hj,rfl⟩:=Cm us _ _ k v (lY t) hv
   obtain⟨y,hy⟩:=Cn t o l[i] j hj
   rw[Nat.zero_add,cell_of_row w b _ cs _ _ hh]
   exact hc i hi j y hy
  ·obtain⟨k,hk⟩:=List.mem_iff_getElem?.1 hv
   obtain⟨i,j,rfl,hi,hj,rfl⟩:=Cm us _ _ k v (lY t) hk
   exact gJ i hi j hj
  ·have hj:j<aj t:=by have:=(List.getElem?_eq_some_iff.1 hx).1;rwa [iP]at this
   rw[Gj t hf o' o]at hx
   refine⟨us i j,LA us _ _ i j hi hj,gJ i hi j hj,fun w' B' af q'=>(hr i hi j x hx).rQ (zm t o l[i] hf x (List.mem_of_getElem? hx))⟩
theorem RV.owns{q:List Nat}{t:TC}{o:Nat}{qn:Bool}{l:List (T t)}{u:Value}(h:RV w B lab q (.sl t (o+2) qn l) u)(hf:full t=0){B':Nat}(hB:∀ b,lab b=some q->B'<=b):
  ∃ xs,w.ownsRow B' (tid t) (aj t) u l.length xs/\(∀ b,u.ownBlock=some b->lab b=some q)/\(qn=true->u.ownBlock≠none)/\pq t l xs:=by
 cases h with
 | bw=>omega
 | bI=>omega
 | bg=>exact⟨[],⟨by simp,.inl ⟨rfl,rfl⟩⟩,by simp[Value.ownBlock],by simp,fun i hi=>by simp at hi⟩
 | av _ _ _ _ _ _ _ _ _ ho=>omega
 | own _ _ _ _ _ b cap cs us hl hh hs hn hm hc hr=>
  refine⟨cs.toList.take (l.length*aj t),⟨?_,.inr ⟨b,cap,cs,rfl,hB b hl,hh,hn,hm.1,hs,rfl⟩⟩,fun b' ig=>?_,fun _=>by simp[Value.ownBlock],fun i hi o' j x hx=>?_⟩
  ·have b5:cs.toList.length=cap*aj t:=by rw[<-hs];simp
   rw[List.length_take,b5]
   have:=Nat.mul_le_mul_right (aj t) hn
   omega
  ·have:b=b':=by simpa [Value.ownBlock]using ig
   subst this
   exact hl
  ·have hj:j<aj t:=by have:=(List.getElem?_eq_some_iff.1 hx).1;rwa [iP]at this
   have aW:i*aj t+j<l.length*aj t:=by
    have:(i+1)*aj t<=l.length*aj t:=Nat.mul_le_mul_right _ hi
    rw[Nat.succ_mul]at this
    omega
   rw[Gj t hf o' o]at hx
   refine⟨us i j,?_,(hr i hi j x hx).one,fun w' B' af q'=>(hr i hi j x hx).rQ (zm t o l[i] hf x (List.mem_of_getElem? hx))⟩
   rw[List.getElem?_take,if_pos aW,Array.getElem?_toList]
   exact hc i hi j x hx
theorem pq.append{t:TC}{l l2:List (T t)}{xs ys:List Value}(h:pq t l xs)(h2:pq t l2 ys)(hl:xs.length=l.length*aj t):pq t (l++l2) (xs++ys):=by
 intro i hi o j x hx
 have hj:j<aj t:=by have:=(List.getElem?_eq_some_iff.1 hx).1;rwa [iP]at this
 by_cases aW:i<l.length
 ·rw[List.getElem_append_left aW]at hx
  obtain⟨v,hv,r⟩:=h i aW o j x hx
  refine⟨v,?_,r⟩
  rw[List.getElem?_append_left (List.getElem?_eq_some_iff.1 hv).1]
  exact hv
 ·rw[List.getElem_append_right (by omega)]at hx
  have Gk:i-l.length<l2.length:=by rw[List.length_append]at hi;omega
  obtain⟨v,hv,r⟩:=h2 (i-l.length) Gk o j x hx
  refine⟨v,?_,r⟩
  have e:i*aj t+j=xs.length+((i-l.length)*aj t+j):=by
   rw[hl,Nat.sub_mul]
   have:l.length*aj t<=i*aj t:=Nat.mul_le_mul_right _ (by omega)
   omega
  rw[e,List.getElem?_append_right (by omega),Nat.add_sub_cancel_left]
  exact hv
theorem zE{q:List Nat}{t:TC}{o:Nat}{l:List (T t)}{u:Value}{xs:List Value}{B':Nat}(h:w.ownsRow B' (tid t) (aj t) u l.length xs)(he:pq t l xs)(hl:∀ b,u.ownBlock=some b->lab b=some q):
  RV w B lab q (.sl t (o+2) false l) u:=by
 rcases h.2 with ⟨rfl,h0⟩ | ⟨b,cap,cs,rfl,hB,hh,hn,hm,hs,ht⟩
 ·have:l=[]:=List.eq_nil_of_length_eq_zero h0
  subst this
  exact .bg _ _ _
 ·have gI:∀ i (hi:i<l.length) j x,(enc t o l[i])[j]?=some x->∃ v,cs[i*aj t+j]?=some v/\∀ (w':World) (B':Nat) (af:aH) (q':List Nat),RV w' B' af q' x v:=by
   intro i hi j x hx
   obtain⟨v,hv,_,r⟩:=he i hi o j x hx
   refine⟨v,?_,r⟩
   rw[<-ht,List.getElem?_take]at hv
   split at hv
   ·rw[Array.getElem?_toList]at hv;exact hv
   ·cases hv
  refine .own q t o false l b cap cs (fun i j=>(cs[i*aj t+j]?).getD undef) (hl b rfl) hh hs hn ⟨hm,fun h=>by cases h⟩ (fun i hi j x hx=>?_) (fun i hi j x hx=>?_)
  ·obtain⟨v,hv,_⟩:=gI i hi j x hx
   rw[hv];rfl
  ·obtain⟨v,hv,r⟩:=gI i hi j x hx
   rw[hv];exact r _ _ _ _
theorem Rl.append{t e ty:TypeId}{tc:TC}{i:TypeInfo}{z:Value}{rr o g:Nat}{q qn:Bool}{l l2:List (T tc)}{u v:Value}{q':List Nat}{Bx:Nat}{Gl:aH}(h:Rl w0 N lab ρ σ a w)(hF:w0.F rr=none)(cP:P.underlying t=some (.slice e))(ht:tid tc=e)(hi:P.info? e=some i)(hz:i.zero=some z)
  (hsz:i.size=aj tc) (dS:i.bytes<=65536) (dL:z.cells.size=aj tc) (hf:full tc=0) (hd:RV w w0.heap.size lab [rr] (.sl tc (o+2) q l) u) (hs:RV w Bx Gl q' (.sl tc g qn l2) v) (hlen:l.length+l2.length<1073741824):
  ∃ v' w' af,(Builtin.append_ #[t,t] ty #[u,v]).run P w = .ok v' w'/\Rl w0 N af (aI ρ rr (.bX v')) ((σ.drop rr).root rr (.sl (.sl tc (o+2) false (l++l2)))) a w'/\ia v'=true:=by
 subst ht
 obtain⟨xs,eH,kE,wA,iY⟩:=hd.owns hf (B':=0) (fun b _=>Nat.zero_le b)
 obtain⟨A,c,news,rfl,pz,gJ,tD⟩:=hs.reads hf
 have eI:(l.length+l2.length)*i.bytes<=140737488355328:=by
  have h1:(l.length+l2.length)*i.bytes<=1073741824*65536:=Nat.mul_le_mul (by omega) dS
  omega
 obtain⟨v',w',aD,gq,fj,eK⟩:=Ev (P:=P) w 0 t ty (tid tc) i z (aj tc) i.bytes cP hi hz hsz rfl dL (lY tc) u l.length xs eH _ A l2.length c news pz gJ (by unfold maxLen;omega) eI (Nat.zero_le _)
 have pF:(l++l2).length=l.length+l2.length:=List.length_append
 rw[<-pF]at gq
 have nY:=iY.append tD eH.1
 have dU:ia v'=true:=by rcases gq.2 with ⟨rfl,_⟩ | ⟨_,_,_,rfl,_⟩ <;>rfl
 have gL:Below 0 w w':=(Below.refl 0 w).grown fj (Nat.zero_le _) (fun _ _=>Nat.zero_le _)
 have dj:eL w0 w w':=⟨gL.os,gL.tape,gL.output,gL.size,fun k hk hL=>fj.block k (Nat.lt_of_lt_of_le hk h.below.size) (fun e'=>by
  rcases(h.bh k _ (kE k e'.symm)).1 with h1 | h1
  ·exact absurd hk (Nat.not_lt.2 h1)
  ·exact h1 hL)⟩
 by_cases ju:v'.ownBlock=some w.heap.size
 ·have aW:w.heap.size<w'.heap.size:=by
   rcases gq.2 with ⟨rfl,_⟩ | ⟨b,cap,cs,rfl,_,hh,_⟩
   ·cases ju
   ·have:b=w.heap.size:=by simpa [Value.ownBlock]using ju
    subst this
    exact(Array.getElem?_eq_some_iff.1 hh).1
  refine⟨v',w',aI lab w.heap.size (some [rr]),aD,h.o8 hF dj ⟨fj.size,fun b U aA=>fj.block b U (fun e'=>aA (kE b e'.symm)),fun b U=>aQ _ _ _ (by omega),fun b U=>(h.bh b [] U).2.2 rfl⟩ (fun b k U hk=>?_) (fun r hr=>aQ _ _ _ hr) (.sl v' _ (aK _ _ _) (zE gq nY (fun b U=>?_))),dU⟩
  ·by_cases e:b=w.heap.size
   ·subst e
    rw[aK]at hk
    injection hk with hk
    subst hk
    exact⟨aW,by simp⟩
   ·rw[aQ _ _ _ e]at hk
    have:=(h.bh b k hk).2.1
    omega
  ·rw[ju]at U
   injection U with U
   subst U
   exact aK _ _ _
 ·have zF:v'.ownBlock=u.ownBlock:=by
   rcases eK with eK | eK
   ·exact eK
   ·exact absurd eK ju
  refine⟨v',w',lab,aD,h.o8 hF dj ⟨fj.size,fun b U aA=>fj.block b U (fun e'=>aA (kE b e'.symm)),fun _ _=>rfl,fun b U=>(h.bh b [] U).2.2 rfl⟩ (fun b k U hk=>?_) (fun r hr=>aQ _ _ _ hr) (.sl v' _ (aK _ _ _) (zE gq nY (fun b U=>kE b (by rw[<-zF];exact U)))),dU⟩
  have:=(h.bh b k hk).2.1
  omega
theorem Gm{t:TC}{x:V}{l:List (T t)}(h:x.Cj t=some l){q:List Nat}{u:Value}(hu:RV w B lab q x u):∃ g qn,RV w B lab q (.sl t g qn l) u:=by
 unfold V.Cj at h
 split at h
 ·rename_i t' g qn l'
  split at h
  ·rename_i ht
   subst ht
   injection h with h
   subst h
   exact⟨g,qn,hu⟩
  ·cases h
 ·injection h with h
  subst h
  cases hu
  exact⟨0,false,.bg _ _ _⟩
 ·cases h
theorem Gn{x:Lf}{k:V->Option X}(h:eg σ x k=some r):∃ y,(∀ lab ρ a w,Rl w0 N lab ρ σ a w->∀ u,bB w w0.heap.size lab ρ x u->∃ q,RV w w0.heap.size lab q y u)/\k y=some r:=by
 cases x with
 | v z=>exact⟨z,fun lab ρ a w _ u hu=>⟨[],hu.2⟩,h⟩
 | dead=>cases h
 | own q=>
  obtain⟨z,hz,h⟩:=mH q _ h
  refine⟨z,fun lab ρ a w hR u hu=>?_,h⟩
  obtain⟨v,hv,hr⟩:=hz.ok hR.root
  have h3:=hu.2
  rw[hv]at h3
  injection h3 with h3
  subst h3
  exact⟨q,hr⟩
theorem LB{y:A}{k:V->Option X}(h:kC σ y k=some r):∃ z,(∀ lab ρ a w,Rl w0 N lab ρ σ a w->∀ u,RA w w0.heap.size lab ρ y u->∃ q B' af,RV w B' af q z u)/\k z=some r:=by
 unfold kC at h
 split at h
 ·obtain⟨z,hz,h2⟩:=Gn (w0:=w0) (N:=N) h
  exact⟨z,fun lab ρ a w hR u hu=>let ⟨q,hq⟩:=hz lab ρ a w hR u hu;⟨q,_,_,hq⟩,h2⟩
 ·obtain⟨z,h2,_,hz⟩:=Ll h
  exact⟨z,fun lab ρ a w hR u hu=>⟨[],0,_,hz _ _ _ _ _ _ hR u hu 0⟩,h2⟩
 ·cases h
theorem Ua{t ty:TypeId}{x y:A}{k:S->Option X}(h:kD P N σ d t x y k=some r):∃ aa,k aa=some r/\∀ lab ρ a w,Rl w0 N lab ρ σ a w->∀ u v,RA w w0.heap.size lab ρ x u->RA w w0.heap.size lab ρ y v->
  ∃ w' af ρ' z,(Builtin.append_ #[t,t] ty #[u,v]).run P w = .ok z w'/\Rl w0 N af ρ' aa (a.put (some d) z) w':=by
 unfold kD at h
 split at h
 ·rename_i e tc eo
  obtain⟨cP,ht,i,hi,hsz,dS⟩:=tC eo
  cases hc:(Nat.beq (full tc) 0&&(zeroOf P e).any (fun z=>Nat.beq z.cells.size (aj tc)))with
  | false=>rw[hc]at h;cases h
  | true=>
   rw[hc,cond_true]at h
   rw[Bool.and_eq_true]at hc
   have hf:=Nat.eq_of_beq_eq_true hc.1
   obtain⟨z,hz,dL⟩:=(Option.any_eq_true _ _).1 hc.2
   have dL:=Nat.eq_of_beq_eq_true dL
   have k9:i.zero=some z:=by unfold zeroOf at hz;simpa [hi]using hz
   obtain⟨yv,Co,h2⟩:=LB (w0:=w0) (N:=N) h
   clear h
   split at h2
   ·cases h2
   ·rename_i l2 ep
    split at h2
    ·cases hL:aY l2.length with
     | false=>rw[hL]at h2;cases h2
     | true=>
      rw[hL,cond_true]at h2
      have hL:l2.length<1073741824:=by simpa [aY]using hL
      obtain⟨hd,h3⟩:=jt h2
      refine⟨_,h3,fun lab ρ a w hR u v hu hv=>?_⟩
      have hu:u = .slice none 0 0:=by cases hu.2;rfl
      subst hu
      obtain⟨q',_,_,bY⟩:=Co lab ρ a w hR v hv
      obtain⟨g,qn,bY⟩:=Gm ep bY
      obtain⟨v',w',af,aD,aB,dU⟩:=hR.append (ty:=ty) (rr:=d) (o:=0) (q:=false) (l:=[]) (hR.cF d (.inl hd)) cP ht hi k9 hsz dS dL hf (.bg _ _ _) bY (by simpa using hL)
      exact⟨w',af,_,v',aD,aB.set ⟨dU,by simp[aP,aK]⟩ hd⟩
    ·rename_i rr
     split at h2
     ·rename_i t' o q l hm
      split at h2
      ·rename_i dy
       subst dy
       cases hL:(Nat.blt d N&&(Nat.blt rr N || Nat.ble 60000 rr)&&aY (l.length+l2.length))with
       | false=>rw[hL]at h2;cases h2
       | true=>
        rw[hL,cond_true]at h2
        rw[Bool.and_eq_true,Bool.and_eq_true,Bool.or_eq_true]at hL
        have rU:l.length+l2.length<1073741824:=by simpa [aY]using hL.2
        have hd:d<N:=by have:=Nat.le_of_ble_eq_true hL.1.1;omega
        have ij:rr<N\/60000<=rr:=hL.1.2.imp (fun h=>by have:=Nat.le_of_ble_eq_true h;omega) (fun h=>Nat.le_of_ble_eq_true h)
        refine⟨_,h2,fun lab ρ a w hR u v hu hv=>?_⟩
        obtain⟨q',_,_,bY⟩:=Co lab ρ a w hR v hv
        obtain⟨g,qn,bY⟩:=Gm ep bY
        have bE:=hR.root rr _ hm
        generalize he:ax.sl (.sl t' (o+2) q l)=x at bE
        cases bE with
        | blk=>cases he
        | mp=>cases he
        | gh=>cases he
        | sl uu y au hr=>
         injection he with he
         subst he
         have tA:uu=u:=by
          have h4:=hu.2
          simp only[aP,au]at h4
          injection h4
         subst tA
         obtain⟨v',w',af,aD,aB,dU⟩:=hR.append (ty:=ty) (hR.cF rr ij) cP ht hi k9 hsz dS dL hf hr bY rU
         exact⟨w',af,_,v',aD,aB.set ⟨dU,by simp[aP,aK]⟩ hd⟩
      ·cases h2
     ·cases h2
    ·cases h2
 ·cases h
end
end Go.Proofs.YtjldnlbiefpekaaDoor
namespace Go.Proofs.YtjldnlbiefpekaaDoor
open Go.RowKit
set_option linter.unusedVariables false
def rV(place:Nat->Option (Nat×Nat))(cells:List Lf):List (Nat×A)->Option (List Lf)
 | []=>some cells
 | (i,x) :: rest=>match place i,x.rS with
  | some (off,n),some xs=>if xs.length=n/\off+n<=cells.length then (bif xs.all Lf.live then rV place (cQ cells off xs) rest else none)else none
  | _,_=>none
def places(P:Program)(t:TypeId):Option (Nat->Option (Nat×Nat)):=
 match P.underlying t with
 | some (.array _ e)=>(P.info? e).map fun ie=>fun i=>some (i*ie.size,ie.size)
 | some (.struct fields)=>(fields.toList.mapM (fun f=>(P.info? f.type).map fun i=>(f.offset,i.size))).map fun ps=>(ps.toArray[·]?)
 | _=>none
def nZ{X:Type}(P:Program)(σ:S)(t:TypeId)(parts:List (Nat×Operand))(k:A->Option X):Option X:=
 match zeroOf P t,places P t with
 | some z,some pl=>match rV pl (z.cells.toList.map eJ) (parts.map fun p=>(p.1,ah σ p.2))with
  | some cs=>k (.agg cs)
  | none=>none
 | _,_=>none
def Lf.Ub:Lf->Option V
 | .v x=>some x
 | _=>none
def n5:List Lf->Option (List V)
 | []=>some []
 | x :: xs=>match x.Ub,n5 xs with
  | some y,some ys=>some (y :: ys)
  | _,_=>none
def zG(t:TC)(g:Nat):Nat->List V->Option (List (T t))
 | 0,[]=>some []
 | 0,_=>none
 | n+1,vs=>match dec t g (vs.take (aj t)),zG t g n (vs.drop (aj t))with
  | some x,some xs=>some (x :: xs)
  | _,_=>none
def tE{X:Type}(P:Program)(N:Nat)(σ:S)(d:Nat)(t:TypeId)(len:Nat)(parts:List (Nat×Operand))(k:S->Option X):Option X:=
 match pe P t with
 | some (e,tc)=>match zeroOf P e with
  | some z=>bif Nat.beq (full tc) 0&&Nat.beq z.cells.size (aj tc)&&Nat.blt (len*aj tc) 16777217 then (match rV (fun i=>some (i*aj tc,aj tc)) (List.replicate len (z.cells.toList.map eJ)).flatten (parts.map fun p=>(p.1,ah σ p.2))with
   | some cs=>(match n5 cs with
    | some vs=>(match zG tc 0 len vs with
     | some l=>en N σ d (.sl (.sl tc 2 true l)) (.lf (.own [d])) k
     | none=>none)
    | none=>none)
   | none=>none)else none
  | none=>none
 | none=>none
section
variable {P:Program} {w w':World} {w0:Wd} {B N:Nat} {lab af:aH} {ρ ρ':Nat->Loc} {σ:S} {a:Act} {X:Type} {d:Nat} {r:X}
theorem LC(off:Nat):∀ (l:List Value) (n:Nat) (cs:Array Value),off+n+l.length<=cs.size->
  ((l.zipIdx n).foldl (fun(cs:Array Value) (p:Value×Nat)=>cs.setIfInBounds (off+p.2) p.1) cs).toList=cQ cs.toList (off+n) l
 | [],n,cs,_=>by simp[cQ]
 | v :: l,n,cs,h=>by
  simp only[List.length_cons]at h
  rw[List.zipIdx_cons,List.foldl_cons,LC off l (n+1) (cs.setIfInBounds (off+n) v) (by simp;omega)]
  have aW:off+n<cs.toList.length:=by simp;omega
  simp only[cQ,Array.toList_setIfInBounds,List.length_cons]
  have e1:(cs.toList.set (off+n) v).take (off+(n+1))=cs.toList.take (off+n)++[v]:=by
   rw[show off+(n+1)=off+n+1 by omega,List.take_succ_eq_append_getElem (by simpa using aW),List.getElem_set_self,List.take_set_of_le (Nat.le_refl _)]
  have e2:(cs.toList.set (off+n) v).drop (off+(n+1)+l.length)=cs.toList.drop (off+(n+1)+l.length):=by
   rw[List.drop_set_of_lt (by omega)]
  rw[e1,e2,show off+n+(l.length+1)=off+(n+1)+l.length by omega]
  simp
theorem bK.cQ{cs xs:List Lf}{cv xv:Array Value}(h:bK w B lab ρ cs cv)(hx:bK w B lab ρ xs xv){off:Nat}(hf:off+xs.length<=cs.length){c9:Array Value}(hc:c9.toList=Proofs.YtjldnlbiefpekaaDoor.cQ cv.toList off xv.toList):bK w B lab ρ (Proofs.YtjldnlbiefpekaaDoor.cQ cs off xs) c9:=by
 have LD:off+xv.toList.length<=cv.toList.length:=by rw[Array.length_toList,Array.length_toList,hx.1,h.1];exact hf
 refine⟨?_,fun j x hj=>?_⟩
 ·rw[tj _ _ _ hf,<-Array.length_toList,hc,tj _ _ _ LD,Array.length_toList,h.1]
 ·have e:c9[j]?=(Proofs.YtjldnlbiefpekaaDoor.cQ cv.toList off xv.toList)[j]?:=by rw[<-hc,Array.getElem?_toList]
  rw[e,tn _ _ _ LD,Array.length_toList,hx.1]
  rw[tn _ _ _ hf]at hj
  by_cases h1:j<off
  ·simp only[h1,if_true,Array.getElem?_toList]at hj ⊢
   exact h.2 j x hj
  ·by_cases h2:j<off+xs.length
   ·simp only[h1,h2,if_true,if_false,Array.getElem?_toList]at hj ⊢
    exact hx.2 _ x hj
   ·simp only[h1,h2,if_false,Array.getElem?_toList]at hj ⊢
    exact h.2 j x hj
theorem Cp{place:Nat->Option (Nat×Nat)}:∀ (parts:List (Nat×A)) (cells:List Lf) (cv:Array Value) (vs:List (Nat×Value)) (out:List Lf),rV place cells parts=some out->bK w B lab ρ cells cv->vs.length=parts.length->
  (∀ (j:Nat) p q,parts[j]?=some p->vs[j]?=some q->p.1=q.1/\RA w B lab ρ p.2 q.2)->∃ c9,Instr.fill place cv vs=some c9/\bK w B lab ρ out c9
 | [],cells,cv,vs,out,h,hR,hl,hp=>by
  have:vs=[]:=List.eq_nil_of_length_eq_zero hl
  subst this
  injection h with h
  subst h
  exact⟨cv,rfl,hR⟩
 | (i,x) :: rest,cells,cv,vs,out,h,hR,hl,hp=>by
  cases vs with
  | nil=>simp at hl
  | cons v vs=>
   obtain⟨i',v⟩:=v
   obtain⟨e,hx⟩:=hp 0 _ _ rfl rfl
   simp only at e hx
   subst e
   unfold rV at h
   split at h
   ·rename_i off n xs ff dO
    split at h
    ·rename_i U
     cases eU:xs.all Lf.live with
     | false=>rw[eU]at h;cases h
     | true=>
      rw[eU,cond_true]at h
      obtain⟨LF,_⟩:=zA dO eU hx
      have mJ:v.cells.size=n:=by rw[LF.1];exact U.1
      have fL:¬ (off+v.cells.size > cv.size):=by rw[mJ,hR.1];omega
      have Uc:(v.cells.zipIdx.foldl (fun(cs:Array Value) (p:Value×Nat)=>cs.setIfInBounds (off+p.2) p.1) cv).toList=Proofs.YtjldnlbiefpekaaDoor.cQ cv.toList off v.cells.toList:=by
       have:=LC off v.cells.toList 0 cv (by rw[Array.length_toList];omega)
       rw[<-Array.foldl_toList,Array.toList_zipIdx]
       exact this
      have fZ:=hR.cQ LF (off:=off) (by rw[U.1];exact U.2) Uc
      obtain⟨c9,bQ,aB⟩:=Cp rest _ _ vs out h fZ (by simpa using hl) (fun j p q hp' gG=>hp (j+1) p q (by simpa using hp') (by simpa using gG))
      refine⟨c9,?_,aB⟩
      have aA:(v.cells.size≠n || off+v.cells.size > cv.size)=false:=by
       simp only[mJ,ne_eq,not_true_eq_false,decide_false,Bool.false_or,decide_eq_false_iff_not]
       rw[<-mJ]
       exact fL
      simp only[Instr.fill,ff]
      rw[if_neg (by rw[aA];simp)]
      exact bQ
    ·cases h
   ·cases h
theorem Ud(z:Value):bK w B lab ρ (z.cells.toList.map eJ) z.cells:=by
 refine⟨by simp,fun j x hx=>?_⟩
 rw[List.getElem?_map]at hx
 cases hv:z.cells.toList[j]? with
 | none=>rw[hv]at hx;cases hx
 | some v=>
  rw[hv]at hx
  injection hx with hx
  subst hx
  exact⟨v,by simpa using hv,Ck v⟩
theorem Ue{t:TypeId}{parts:Array (Nat×Operand)}{k:A->Option X}(h:nZ P σ t parts.toList k=some r):∃ y,k y=some r/\∀ lab ρ a w,Rl w0 N lab ρ σ a w->
  ∃ v,(Instr.build t (parts.map fun(i,x)=>(i,a.eval x))).run P w = .ok v w/\RA w w0.heap.size lab ρ y v:=by
 unfold nZ at h
 split at h
 ·rename_i z pl hz ff
  split at h
  ·rename_i cs bZ
   refine⟨_,h,fun lab ρ a w hR=>?_⟩
   obtain⟨c9,hf,aB⟩:=Cp (w:=w) (B:=w0.heap.size) (lab:=lab) (ρ:=ρ) _ _ z.cells (parts.toList.map fun p=>(p.1,a.eval p.2)) cs bZ (Ud z) (by simp) (fun j p q hp hq=>by
    rw[List.getElem?_map]at hp hq
    cases hx:parts.toList[j]? with
    | none=>rw[hx]at hp;cases hp
    | some x=>
     rw[hx]at hp hq
     injection hp with hp
     injection hq with hq
     subst hp hq
     exact⟨rfl,hR.ah x.2⟩)
   refine⟨_,run_build (P:=P) w t _ c9 ?_,c9,rfl,aB⟩
   have zH:(parts.map fun(i,x)=>(i,a.eval x)).toList=parts.toList.map fun p=>(p.1,a.eval p.2):=by simp
   rw[zH]
   unfold zeroOf at hz
   unfold Program.built
   cases hi:P.info? t with
   | none=>simp[hi]at hz
   | some i=>
    have hz:i.zero=some z:=by simpa [hi]using hz
    unfold places at ff
    split at ff
    ·rename_i n e hu
     cases Gq:P.info? e with
     | none=>simp[Gq]at ff
     | some ie=>
      rw[Gq]at ff
      injection ff with ff
      subst ff
      simp only[hu,hz,Gq]
      exact hf
    ·rename_i fields hu
     cases hp:fields.toList.mapM (fun f=>(P.info? f.type).map fun i=>(f.offset,i.size))with
     | none=>rw[hp]at ff;cases ff
     | some ps=>
      rw[hp]at ff
      injection ff with ff
      subst ff
      simp only[hu,hz,hp]
      exact hf
    ·cases ff
  ·cases h
 ·cases h
theorem Cq:∀ (cs:List Lf) (vs:List V),n5 cs=some vs->cs=vs.map .v
 | [],vs,h=>by injection h with h;subst h;rfl
 | x :: xs,vs,h=>by
  unfold n5 at h
  split at h
  ·rename_i y ys hy iW
   injection h with h
   subst h
   rw[Cq xs ys iW,List.map_cons]
   cases x <;>first | (injection hy with hy;rw[hy]) | cases hy
  ·cases h
theorem Gr(t:TC)(g:Nat):∀ (n:Nat) (vs:List V) (l:List (T t)),zG t g n vs=some l->l.length=n/\vs.length=n*aj t/\∀ i (hi:i<l.length) (j:Nat) x,(enc t g l[i])[j]?=some x->∃ y,vs[i*aj t+j]?=some y/\Wk y x
 | 0,[],l,h=>by
  injection h with h
  subst h
  exact⟨rfl,by simp,fun i hi=>by simp at hi⟩
 | 0,_ :: _,l,h=>by cases h
 | n+1,vs,l,h=>by
  unfold zG at h
  split at h
  ·rename_i x xs hx dO
   injection h with h
   subst h
   obtain⟨h1,h2,h3⟩:=Gr t g n _ xs dO
   have hk:=hU t g _ x hx
   have hlen:(vs.take (aj t)).length=aj t:=by rw[hk.1,iP]
   have jL:aj t<=vs.length:=by rw[List.length_take]at hlen;omega
   refine⟨by simp[h1],?_,fun i hi j y hy=>?_⟩
   ·rw[List.length_drop]at h2
    rw[Nat.succ_mul]
    omega
   ·cases i with
    | zero=>
     simp only[List.getElem_cons_zero]at hy
     have hj:j<aj t:=by have:=(List.getElem?_eq_some_iff.1 hy).1;rwa [iP]at this
     have cD:=List.getElem?_eq_getElem (l:=vs.take (aj t)) (i:=j) (by rw[hlen];exact hj)
     refine⟨_,?_,hk.2 j _ y cD hy⟩
     rw[List.getElem?_take,if_pos hj]at cD
     rw[Nat.zero_mul,Nat.zero_add]
     exact cD
    | succ i=>
     simp only[List.getElem_cons_succ]at hy
     obtain⟨z,hz,hw⟩:=h3 i (by simpa using hi) j y hy
     refine⟨z,?_,hw⟩
     rw[List.getElem?_drop]at hz
     rw[Nat.succ_mul,show i*aj t+aj t+j=aj t+(i*aj t+j) by omega]
     exact hz
  ·cases h
end
end Go.Proofs.YtjldnlbiefpekaaDoor
namespace Go.Proofs.YtjldnlbiefpekaaDoor
open Go.RowKit
set_option linter.unusedVariables false
section
variable {P:Program} {w w':World} {w0:Wd} {B N:Nat} {lab af:aH} {ρ ρ':Nat->Loc} {σ:S} {a:Act} {X:Type} {d:Nat} {r:X}
theorem RV.under{k:List Nat}{x:V}{v:Value}{n:Nat}(h:RV w B lab k x v)(hk:1<k.length\/x.av=true)(hz:w.heap.size<=w'.heap.size)(U:∀ b,b<w.heap.size->lab b≠some [n]->w'.heap[b]?=w.heap[b]?)(hl:∀ b,b<w.heap.size->af b=lab b):RV w' B af k x v:=by
 induction h with
 | int=>exact .int _ _ _
 | bool=>exact .bool _ _
 | str=>exact .str _ _
 | nil=>exact .nil _
 | bg=>exact .bg _ _ _
 | bw=>exact .bw _ _ _ _ _ (by first | assumption | omega)
 | bI=>exact .bI _ _ _ _ _ (by first | assumption | omega)
 | av q t o qn l b off cap u ho bL eK h1 hcap hc hr ih=>
  have aA:lab b≠some [n]:=by rw[bL];simp
  exact .av _ _ _ _ _ _ _ _ u ho ((hl b eK).trans bL) (Nat.lt_of_lt_of_le eK hz) h1 hcap (fun i h j x hx=>(World.cell?_of_block (a:=⟨b,_,none⟩) (U b eK aA)).trans (hc i h j x hx)) (fun i h j x hx=>ih i h j x hx (.inr (fY t o l[i] ho j x hx)))
 | own q t o qn l b cap cs u bL hh hs hn hm hc hr ih=>
  have eK:b<w.heap.size:=(Array.getElem?_eq_some_iff.1 hh).1
  have hq:1<q.length:=by
   rcases hk with hk | hk
   ·exact hk
   ·simp[V.av]at hk;omega
  have aA:lab b≠some [n]:=by
   rw[bL]
   intro e
   injection e with e
   rw[e]at hq
   simp at hq
  exact .own _ _ _ _ _ _ _ cs u ((hl b eK).trans bL) ((U b eK aA).trans hh) hs hn hm hc (fun i h j x hx=>ih i h j x hx (.inl (by simp)))
def mK(w:World)(B:Nat)(lab:aH)(n t0:Nat)(t:TC)(o:Nat)(l:List (T t))(vs:List Value):Prop:=
 ∀ i (hi:i<l.length) j x,(enc t o l[i])[j]?=some x->∃ v,vs[i*aj t+j]?=some v/\RV w B lab (j :: (t0+i) :: aj t :: [n]) x v
theorem RV.Uf{n:Nat}{t:TC}{o:Nat}{qn:Bool}{l:List (T t)}{u:Value}(h:RV w B lab [n] (.sl t (o+2) qn l) u){B':Nat}(hB:∀ b,lab b=some [n]->B'<=b):
  ∃ xs,w.ownsRow B' (tid t) (aj t) u l.length xs/\(∀ b,u.ownBlock=some b->lab b=some [n])/\(qn=true->u.ownBlock≠none)/\mK w B lab n 0 t o l xs:=by
 cases h with
 | bw=>omega
 | bI=>omega
 | bg=>exact⟨[],⟨by simp,.inl ⟨rfl,rfl⟩⟩,by simp[Value.ownBlock],by simp,fun i hi=>by simp at hi⟩
 | av _ _ _ _ _ _ _ _ _ ho=>omega
 | own _ _ _ _ _ b cap cs us hl hh hs hn hm hc hr=>
  refine⟨cs.toList.take (l.length*aj t),⟨?_,.inr ⟨b,cap,cs,rfl,hB b hl,hh,hn,hm.1,hs,rfl⟩⟩,fun b' ig=>?_,fun _=>by simp[Value.ownBlock],fun i hi j x hx=>?_⟩
  ·have b5:cs.toList.length=cap*aj t:=by rw[<-hs];simp
   rw[List.length_take,b5]
   have:=Nat.mul_le_mul_right (aj t) hn
   omega
  ·have:b=b':=by simpa [Value.ownBlock]using ig
   subst this
   exact hl
  ·have hj:j<aj t:=by have:=(List.getElem?_eq_some_iff.1 hx).1;rwa [iP]at this
   have aW:i*aj t+j<l.length*aj t:=by
    have:(i+1)*aj t<=l.length*aj t:=Nat.mul_le_mul_right _ hi
    rw[Nat.succ_mul]at this
    omega
   refine⟨us i j,?_,by rw[Nat.zero_add];exact hr i hi j x hx⟩
   rw[List.getElem?_take,if_pos aW,Array.getElem?_toList]
   exact hc i hi j x hx
theorem mK.append{n:Nat}{t:TC}{o:Nat}{l l2:List (T t)}{xs ys:List Value}(h:mK w B lab n 0 t o l xs)(h2:mK w B lab n l.length t o l2 ys)(hl:xs.length=l.length*aj t):mK w B lab n 0 t o (l++l2) (xs++ys):=by
 intro i hi j x hx
 have hj:j<aj t:=by have:=(List.getElem?_eq_some_iff.1 hx).1;rwa [iP]at this
 by_cases aW:i<l.length
 ·rw[List.getElem_append_left aW]at hx
  obtain⟨v,hv,r⟩:=h i aW j x hx
  refine⟨v,?_,r⟩
  rw[List.getElem?_append_left (List.getElem?_eq_some_iff.1 hv).1]
  exact hv
 ·rw[List.getElem_append_right (by omega)]at hx
  have Gk:i-l.length<l2.length:=by rw[List.length_append]at hi;omega
  obtain⟨v,hv,r⟩:=h2 (i-l.length) Gk j x hx
  refine⟨v,?_,?_⟩
  ·have e:i*aj t+j=xs.length+((i-l.length)*aj t+j):=by
    rw[hl,Nat.sub_mul]
    have:l.length*aj t<=i*aj t:=Nat.mul_le_mul_right _ (by omega)
    omega
   rw[e,List.getElem?_append_right (by omega),Nat.add_sub_cancel_left]
   exact hv
  ·have e:0+i=l.length+(i-l.length):=by omega
   rw[e]
   exact r
theorem mK.under{n t0:Nat}{t:TC}{o:Nat}{l:List (T t)}{vs:List Value}(h:mK w B lab n t0 t o l vs)(hz:w.heap.size<=w'.heap.size)(U:∀ b,b<w.heap.size->lab b≠some [n]->w'.heap[b]?=w.heap[b]?)(hl:∀ b,b<w.heap.size->af b=lab b):mK w' B af n t0 t o l vs:=
 fun i hi j x hx=>let ⟨v,hv,r⟩:=h i hi j x hx;⟨v,hv,r.under (.inl (by simp)) hz U hl⟩
theorem LG{n:Nat}{t:TC}{o:Nat}{l:List (T t)}{u:Value}{xs:List Value}{B':Nat}(h:w.ownsRow B' (tid t) (aj t) u l.length xs)(he:mK w B lab n 0 t o l xs)(hl:∀ b,u.ownBlock=some b->lab b=some [n]):
  RV w B lab [n] (.sl t (o+2) false l) u:=by
 rcases h.2 with ⟨rfl,h0⟩ | ⟨b,cap,cs,rfl,hB,hh,hn,hm,hs,ht⟩
 ·have:l=[]:=List.eq_nil_of_length_eq_zero h0
  subst this
  exact .bg _ _ _
 ·have gI:∀ i (hi:i<l.length) j x,(enc t o l[i])[j]?=some x->∃ v,cs[i*aj t+j]?=some v/\RV w B lab (j :: i :: aj t :: [n]) x v:=by
   intro i hi j x hx
   obtain⟨v,hv,r⟩:=he i hi j x hx
   rw[Nat.zero_add]at r
   refine⟨v,?_,r⟩
   rw[<-ht,List.getElem?_take]at hv
   split at hv
   ·rw[Array.getElem?_toList]at hv;exact hv
   ·cases hv
  refine .own [n] t o false l b cap cs (fun i j=>(cs[i*aj t+j]?).getD undef) (hl b rfl) hh hs hn ⟨hm,fun h=>by cases h⟩ (fun i hi j x hx=>?_) (fun i hi j x hx=>?_)
  ·obtain⟨v,hv,_⟩:=gI i hi j x hx
   rw[hv];rfl
  ·obtain⟨v,hv,r⟩:=gI i hi j x hx
   rw[hv];exact r
theorem Rl.Ug{t e ty:TypeId}{tc:TC}{i:TypeInfo}{z:Value}{rr o m c:Nat}{q:Bool}{l l2:List (T tc)}{u:Value}{ad:Option Addr}{news:List Value}(h:Rl w0 N lab ρ σ a w)(hF:w0.F rr=none)(cP:P.underlying t=some (.slice e))(ht:tid tc=e)(hi:P.info? e=some i)(hz:i.zero=some z)
  (hsz:i.size=aj tc) (dS:i.bytes<=65536) (dL:z.cells.size=aj tc) (hd:RV w w0.heap.size lab [rr] (.sl tc (o+2) q l) u) (pz:Reads w w.heap.size (aj tc) ad m news) (gJ:∀ v∈news,v.oneCell'=true) (hm:m=l2.length)
  (tD:mK w w0.heap.size lab rr l.length tc o l2 news) (hlen:l.length+l2.length<1073741824):
  ∃ v' w' af,(Builtin.append_ #[t,t] ty #[u,.slice ad m c]).run P w = .ok v' w'/\Rl w0 N af (aI ρ rr (.bX v')) ((σ.drop rr).root rr (.sl (.sl tc (o+2) false (l++l2)))) a w'/\ia v'=true:=by
 subst ht hm
 obtain⟨xs,eH,kE,wA,iY⟩:=hd.Uf (B':=0) (fun b _=>Nat.zero_le b)
 have eI:(l.length+l2.length)*i.bytes<=140737488355328:=by
  have h1:(l.length+l2.length)*i.bytes<=1073741824*65536:=Nat.mul_le_mul (by omega) dS
  omega
 obtain⟨v',w',aD,gq,fj,eK⟩:=Ev (P:=P) w 0 t ty (tid tc) i z (aj tc) i.bytes cP hi hz hsz rfl dL (lY tc) u l.length xs eH _ ad l2.length c news pz gJ (by unfold maxLen;omega) eI (Nat.zero_le _)
 have pF:(l++l2).length=l.length+l2.length:=List.length_append
 rw[<-pF]at gq
 have nY:=iY.append tD eH.1
 have dU:ia v'=true:=by rcases gq.2 with ⟨rfl,_⟩ | ⟨_,_,_,rfl,_⟩ <;>rfl
 have gL:Below 0 w w':=(Below.refl 0 w).grown fj (Nat.zero_le _) (fun _ _=>Nat.zero_le _)
 have dj:eL w0 w w':=⟨gL.os,gL.tape,gL.output,gL.size,fun k hk hL=>fj.block k (Nat.lt_of_lt_of_le hk h.below.size) (fun e'=>by
  rcases(h.bh k _ (kE k e'.symm)).1 with h1 | h1
  ·exact absurd hk (Nat.not_lt.2 h1)
  ·exact h1 hL)⟩
 have pG:∀ b,b<w.heap.size->lab b≠some [rr]->w'.heap[b]?=w.heap[b]?:=fun b U aA=>fj.block b U (fun e'=>aA (kE b e'.symm))
 by_cases ju:v'.ownBlock=some w.heap.size
 ·have aW:w.heap.size<w'.heap.size:=by
   rcases gq.2 with ⟨rfl,_⟩ | ⟨b,cap,cs,rfl,_,hh,_⟩
   ·cases ju
   ·have:b=w.heap.size:=by simpa [Value.ownBlock]using ju
    subst this
    exact(Array.getElem?_eq_some_iff.1 hh).1
  have dc:∀ b,b<w.heap.size->aI lab w.heap.size (some [rr]) b=lab b:=fun b U=>aQ _ _ _ (by omega)
  refine⟨v',w',aI lab w.heap.size (some [rr]),aD,h.o8 hF dj ⟨fj.size,pG,dc,fun b U=>(h.bh b [] U).2.2 rfl⟩ (fun b k U hk=>?_) (fun r hr=>aQ _ _ _ hr) (.sl v' _ (aK _ _ _) (LG gq (nY.under fj.size pG dc) (fun b U=>?_))),dU⟩
  ·by_cases e:b=w.heap.size
   ·subst e
    rw[aK]at hk
    injection hk with hk
    subst hk
    exact⟨aW,by simp⟩
   ·rw[aQ _ _ _ e]at hk
    have:=(h.bh b k hk).2.1
    omega
  ·rw[ju]at U
   injection U with U
   subst U
   exact aK _ _ _
 ·have zF:v'.ownBlock=u.ownBlock:=by
   rcases eK with eK | eK
   ·exact eK
   ·exact absurd eK ju
  refine⟨v',w',lab,aD,h.o8 hF dj ⟨fj.size,pG,fun _ _=>rfl,fun b U=>(h.bh b [] U).2.2 rfl⟩ (fun b k U hk=>?_) (fun r hr=>aQ _ _ _ hr) (.sl v' _ (aK _ _ _) (LG gq (nY.under fj.size pG (fun _ _=>rfl)) (fun b U=>kE b (by rw[<-zF];exact U)))),dU⟩
  have:=(h.bh b k hk).2.1
  omega
end
end Go.Proofs.YtjldnlbiefpekaaDoor
