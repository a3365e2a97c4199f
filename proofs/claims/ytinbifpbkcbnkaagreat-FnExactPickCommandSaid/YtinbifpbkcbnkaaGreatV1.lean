/-
  Running the program over pure contents, and that it follows (part 1). Nothing here is a claim.
-/
import Derived.Test.YtinbifpbkcbnkaaGreatAppend
import Derived.Test.YtinbifpbkcbnkaaGreatLaws
import Derived.Handy
import Derived.Great.BuildSlice
set_option linter.unusedSimpArgs false
namespace Go.Proofs.YtinbifpbkcbnkaaGreat
open Go.RowKit
set_option linter.unusedVariables false
set_option linter.unusedSimpArgs false
structure bg where
 cQ:Int
 av:Int
 rows:Int
 aS:Int
structure aU where
 ay:Int
 row:Int
 cB:Int
structure iT where
 order:Int
 hash:Bool
structure G2 where
 owner:List Int
structure az where
 kind:Int
 ay:Int
 row:Int
 cB:Int
structure cI where
 iU:Int
 rp:Int
 fj:Int
 kG:Int
 iV:Int
 hG:Int
 kH:Int
 kI:Int
 iA:Int
 wr:Int
 lV:Int
 lW:Int
 oA:Int
 lX:Int
 mF:Int
 xp:Int
 xs:Int
structure dY where
 open_:Bool
 row:Int
structure cV where
 av:List dY
 aZ:Int
structure gK where
 at_:Int
 cmd:az
structure gj where
 last:List Int
 cF:List Int
structure en where
 symbols:List Int
 Ab:Bool
structure jx where
 cells:List en
 dz:List Int
 dA:List Int
structure pN where
 dz:Int
 dA:Int
structure eD where
 rows:List Int
 counts:List Int
 jh:Int
structure ee where
 bP:Int
 map:List Int
structure fA where
 aL:List Int
 wait:Int
 iB:Bool
structure bL where
 id:Int
 bz:Int
 line:Int
 write:Bool
 data:Int
 at_:Int
structure bA where
 weight:Int
 fW:Int
structure iC where
 on:Bool
 low:Int
 high:Int
structure G3 where
 owner:List Int
 length:Int
structure G4 where
 id:Int
 at_:Int
structure iW where
 state:Int
 since:Int
 idle:Int
structure iX where
 down:Int
 sleep:Int
structure dB where
 line:Int
 code:Int
 times:Int
structure G5 where
 agS:List ByteArray
structure G6 where
 agT:List Int
 next:Int
structure G7 where
 count:Int
 commands:List az
structure Ac where
 count:Int
 tag:Int
structure Cw where
 root:Int
 mid:List Ac
 leaf:List Ac
structure G8 where
 key:Int
 tree:Cw
 data:List Int
 tags:List Int
structure pO where
 next:Int
 every:Int
 wait:Int
structure G9 where
 index:Int
 before:en
 after:en
 code:Int
structure He where
 ay:Int
 from_:Int
 to:Int
 next:Int
structure fS where
 eU:Int
 cap:Int
 iD:Int
 low:Int
 high:Int
 weights:List Int
 fH:iX
structure lY where
 cC:fS
 next:fS
 waits:Bool
structure gL where
 aY:bg
 cy:cI
 mapping:iT
 bP:Int
 interval:Int
 nv:Int
 ji:pN
structure gU where
 id:Int
 at_:Int
 data:Int
 code:Int
structure aQ where
 config:gL
 box:lY
 now:Int
 bx:cV
 ready:gj
 array:jx
 spare:ee
 bu:fA
 eV:List eD
 guard:List Int
 pending:List aU
 queue:List bL
 shares:List bA
 drain:iC
 aZ:iW
 jy:pO
 errors:List dB
 trace:List gK
 nx:List gU
structure Hf where
 kind:Int
 request:bL
 n:Int
 agU:Int
 addr:aU
 vc:fS
structure Hg where
 line:Int
 data:Int
 code:Int
structure Hh where
 b:List Int
 i:Int
 h:Int
inductive TC where
 | int | u8 | bool | str
 | dO
 | Addr
 | lD
 | ve
 | Command
 | fB
 | eF
 | gM
 | Event
 | kJ
 | Cell
 | Array
 | oB
 | gy
 | jk
 | jH
 | cZ
 | dI
 | lE
 | vf
 | vg
 | Power
 | lF
 | eG
 | vh
 | vi
 | Receiver
 | Node
 | Tree
 | vj
 | oC
 | vk
 | Move
 | kK
 | ny
 | Config
 | hJ
 | cG
 | Act
 | Fact
 | vl
 | sl (t:TC)
 | jT
 | vm (g:Nat)
 | Ad (g:Nat)
 | Ae (g:Nat)
 | fnCommand (g:Nat)
deriving DecidableEq
def T:TC->Type
 | .int=>Int
 | .u8=>Int
 | .bool=>Bool
 | .str=>ByteArray
 | .dO=>bg
 | .Addr=>aU
 | .lD=>iT
 | .ve=>G2
 | .Command=>az
 | .fB=>cI
 | .eF=>dY
 | .gM=>cV
 | .Event=>gK
 | .kJ=>gj
 | .Cell=>en
 | .Array=>jx
 | .oB=>pN
 | .gy=>eD
 | .jk=>ee
 | .jH=>fA
 | .cZ=>bL
 | .dI=>bA
 | .lE=>iC
 | .vf=>G3
 | .vg=>G4
 | .Power=>iW
 | .lF=>iX
 | .eG=>dB
 | .vh=>G5
 | .vi=>G6
 | .Receiver=>G7
 | .Node=>Ac
 | .Tree=>Cw
 | .vj=>G8
 | .oC=>pO
 | .vk=>G9
 | .Move=>He
 | .kK=>fS
 | .ny=>lY
 | .Config=>gL
 | .hJ=>gU
 | .cG=>aQ
 | .Act=>Hf
 | .Fact=>Hg
 | .vl=>Hh
 | .sl t=>List (T t)
 | .jT=>aQ
 | .vm _=>Int
 | .Ad _=>bL
 | .Ae _=>aU
 | .fnCommand _=>az
def aB:TC->Nat
 | .jT=>76
 | .vm _=>3
 | .Ad _=>8
 | .Ae _=>5
 | .fnCommand _=>6
 | .dO=>4
 | .Addr=>3
 | .lD=>2
 | .ve=>1
 | .Command=>4
 | .fB=>17
 | .eF=>2
 | .gM=>2
 | .Event=>5
 | .kJ=>2
 | .Cell=>2
 | .Array=>3
 | .oB=>2
 | .gy=>3
 | .jk=>2
 | .jH=>3
 | .cZ=>6
 | .dI=>2
 | .lE=>3
 | .vf=>2
 | .vg=>2
 | .Power=>3
 | .lF=>2
 | .eG=>3
 | .vh=>1
 | .vi=>2
 | .Receiver=>2
 | .Node=>2
 | .Tree=>3
 | .vj=>6
 | .oC=>3
 | .vk=>6
 | .Move=>4
 | .kK=>8
 | .ny=>17
 | .Config=>28
 | .hJ=>4
 | .cG=>75
 | .Act=>20
 | .Fact=>3
 | .vl=>3
 | _=>1
def full:TC->Nat
 | .int | .u8 | .bool | .str=>0
 | .dO=>0
 | .Addr=>0
 | .lD=>0
 | .ve=>2
 | .Command=>0
 | .fB=>0
 | .eF=>0
 | .gM=>2
 | .Event=>0
 | .kJ=>2
 | .Cell=>2
 | .Array=>4
 | .oB=>0
 | .gy=>2
 | .jk=>2
 | .jH=>2
 | .cZ=>0
 | .dI=>0
 | .lE=>0
 | .vf=>2
 | .vg=>0
 | .Power=>0
 | .lF=>0
 | .eG=>0
 | .vh=>2
 | .vi=>2
 | .Receiver=>2
 | .Node=>0
 | .Tree=>2
 | .vj=>2
 | .oC=>0
 | .vk=>2
 | .Move=>0
 | .kK=>2
 | .ny=>2
 | .Config=>0
 | .hJ=>0
 | .cG=>4
 | .Act=>2
 | .Fact=>0
 | .vl=>2
 | .sl t=>full t+2
 | .jT=>4
 | .vm _=>0
 | .Ad _=>0
 | .Ae _=>0
 | .fnCommand _=>0
def tid:TC->TypeId
 | .int=>3
 | .u8=>5
 | .bool=>4
 | .str=>9
 | .dO=>71
 | .Addr=>198
 | .lD=>73
 | .ve=>0
 | .Command=>68
 | .fB=>72
 | .eF=>253
 | .gM=>84
 | .Event=>214
 | .kJ=>85
 | .Cell=>255
 | .Array=>88
 | .oB=>74
 | .gy=>195
 | .jk=>89
 | .jH=>90
 | .cZ=>202
 | .dI=>206
 | .lE=>95
 | .vf=>0
 | .vg=>0
 | .Power=>96
 | .lF=>77
 | .eG=>210
 | .vh=>0
 | .vi=>0
 | .Receiver=>0
 | .Node=>0
 | .Tree=>0
 | .vj=>0
 | .oC=>97
 | .vk=>0
 | .Move=>0
 | .kK=>79
 | .ny=>81
 | .Config=>76
 | .hJ=>220
 | .cG=>102
 | .Act=>0
 | .Fact=>0
 | .vl=>0
 | .sl .int=>32
 | .sl .bool=>271
 | .sl .str=>0
 | _=>0
inductive V where
 | int (k:IntKind) (n:Int)
 | bool (b:Bool)
 | str (s:ByteArray)
 | nil
 | sl (t:TC) (o:Nat) (q:Bool) (l:List (T t))
def V.aM:V->Option Int | .int .i64 n=>some n | _=>none
def V.Mp:V->Option Int | .int .u8 n=>some n | _=>none
def V.kL:V->Option Bool | .bool b=>some b | _=>none
def V.Mq:V->Option ByteArray | .str s=>some s | _=>none
def V.dh(t:TC)(o:Nat):V->Option (List (T t))
 | .sl t' o' _ l=>bif Nat.beq o' o || (Nat.ble (full t+2) o'&&Nat.ble (full t+2) o)then (if h:t'=t then some (h ▸ l)else none)else none
 | .nil=>some []
 | _=>none
inductive Wk:V->V->Prop
 | same (x:V):Wk x x
 | nil (t:TC) (o:Nat):Wk .nil (.sl t o false [])
 | q (t:TC) (o:Nat) (l:List (T t)):Wk (.sl t o true l) (.sl t o false l)
 | gr (t:TC) (o o':Nat) (qn:Bool) (l:List (T t)) (h:full t+2<=o) (h':full t+2<=o'):Wk (.sl t o' qn l) (.sl t o false l)
def bJ(xs ys:List V):Prop:=xs.length=ys.length/\∀ (j:Nat) (x y:V),xs[j]?=some x->ys[j]?=some y->Wk x y
theorem bJ.nil:bJ [] []:=⟨rfl,by simp⟩
theorem bJ.cons{x y:V}{xs ys:List V}(h:Wk x y)(k:bJ xs ys):bJ (x :: xs) (y :: ys):=by
 refine⟨by simp[k.1],fun j a b ha hb=>?_⟩
 cases j with
 | zero=>simp at ha hb;subst ha;subst hb;exact h
 | succ j=>simp at ha hb;exact k.2 j a b ha hb
theorem V.aO{x:V}{n:Int}(h:x.aM=some n):Wk x (.int .i64 n):=by
 unfold V.aM at h;split at h <;>first | (injection h with h;subst h;exact .same _) | cases h
theorem V.agV{x:V}{n:Int}(h:x.Mp=some n):Wk x (.int .u8 n):=by
 unfold V.Mp at h;split at h <;>first | (injection h with h;subst h;exact .same _) | cases h
theorem V.lZ{x:V}{n:Bool}(h:x.kL=some n):Wk x (.bool n):=by
 unfold V.kL at h;split at h <;>first | (injection h with h;subst h;exact .same _) | cases h
theorem V.agW{x:V}{n:ByteArray}(h:x.Mq=some n):Wk x (.str n):=by
 unfold V.Mq at h;split at h <;>first | (injection h with h;subst h;exact .same _) | cases h
theorem V.dD{x:V}{t:TC}{o:Nat}{l:List (T t)}(h:x.dh t o=some l):Wk x (.sl t o false l):=by
 unfold V.dh at h
 split at h
 ·rename_i t' o' q l'
  cases hc:(Nat.beq o' o || (Nat.ble (full t+2) o'&&Nat.ble (full t+2) o))with
  | false=>rw[hc]at h;cases h
  | true=>
   rw[hc,cond_true]at h
   split at h
   ·rename_i ht
    subst ht
    injection h with h
    subst h
    rw[Bool.or_eq_true,Bool.and_eq_true]at hc
    rcases hc with hc | hc
    ·obtain rfl:=Nat.eq_of_beq_eq_true hc
     cases q
     ·exact .same _
     ·exact .q _ _ _
    ·exact .gr _ _ _ _ _ (Nat.le_of_ble_eq_true hc.2) (Nat.le_of_ble_eq_true hc.1)
   ·cases h
 ·injection h with h;subst h;exact .nil _ _
 ·cases h
def Af(o:Nat)(x:bg):List V:=[.int .i64 x.cQ,.int .i64 x.av,.int .i64 x.rows,.int .i64 x.aS]
def vn(o:Nat)(x:aU):List V:=[.int .i64 x.ay,.int .i64 x.row,.int .i64 x.cB]
def Ag(o:Nat)(x:iT):List V:=[.int .i64 x.order,.bool x.hash]
def Cx(o:Nat)(x:G2):List V:=[.sl .int o false x.owner]
def vo(o:Nat)(x:az):List V:=[.int .i64 x.kind,.int .i64 x.ay,.int .i64 x.row,.int .i64 x.cB]
def Ah(o:Nat)(x:cI):List V:=[.int .i64 x.iU,.int .i64 x.rp,.int .i64 x.fj,.int .i64 x.kG,.int .i64 x.iV,.int .i64 x.hG,.int .i64 x.kH,.int .i64 x.kI,.int .i64 x.iA,.int .i64 x.wr,.int .i64 x.lV,.int .i64 x.lW,.int .i64 x.oA,.int .i64 x.lX,.int .i64 x.mF,.int .i64 x.xp,.int .i64 x.xs]
def Ai(o:Nat)(x:dY):List V:=[.bool x.open_,.int .i64 x.row]
def Cy(o:Nat)(x:cV):List V:=[.sl .eF o false x.av,.int .i64 x.aZ]
def Aj(o:Nat)(x:gK):List V:=[.int .i64 x.at_,.int .i64 x.cmd.kind,.int .i64 x.cmd.ay,.int .i64 x.cmd.row,.int .i64 x.cmd.cB]
def Cz(o:Nat)(x:gj):List V:=[.sl .int o false x.last,.sl .int o false x.cF]
def CA(o:Nat)(x:en):List V:=[.sl .int o false x.symbols,.bool x.Ab]
def CB(o:Nat)(x:jx):List V:=[.sl .Cell o false x.cells,.sl .int o false x.dz,.sl .int o false x.dA]
def Ak(o:Nat)(x:pN):List V:=[.int .i64 x.dz,.int .i64 x.dA]
def CC(o:Nat)(x:eD):List V:=[.sl .int o false x.rows,.sl .int o false x.counts,.int .i64 x.jh]
def CD(o:Nat)(x:ee):List V:=[.int .i64 x.bP,.sl .int o false x.map]
def CE(o:Nat)(x:fA):List V:=[.sl .int o false x.aL,.int .i64 x.wait,.bool x.iB]
def vp(o:Nat)(x:bL):List V:=[.int .i64 x.id,.int .i64 x.bz,.int .i64 x.line,.bool x.write,.int .i64 x.data,.int .i64 x.at_]
def Al(o:Nat)(x:bA):List V:=[.int .i64 x.weight,.int .i64 x.fW]
def Am(o:Nat)(x:iC):List V:=[.bool x.on,.int .i64 x.low,.int .i64 x.high]
def CF(o:Nat)(x:G3):List V:=[.sl .int o false x.owner,.int .i64 x.length]
def An(o:Nat)(x:G4):List V:=[.int .i64 x.id,.int .i64 x.at_]
def Ao(o:Nat)(x:iW):List V:=[.int .i64 x.state,.int .i64 x.since,.int .i64 x.idle]
def Ap(o:Nat)(x:iX):List V:=[.int .i64 x.down,.int .i64 x.sleep]
def Aq(o:Nat)(x:dB):List V:=[.int .i64 x.line,.int .i64 x.code,.int .i64 x.times]
def CG(o:Nat)(x:G5):List V:=[.sl .str o false x.agS]
def CH(o:Nat)(x:G6):List V:=[.sl .int o false x.agT,.int .i64 x.next]
def CI(o:Nat)(x:G7):List V:=[.int .i64 x.count,.sl .Command o false x.commands]
def As(o:Nat)(x:Ac):List V:=[.int .i64 x.count,.int .i64 x.tag]
def CJ(o:Nat)(x:Cw):List V:=[.int .i64 x.root,.sl .Node o false x.mid,.sl .Node o false x.leaf]
def CK(o:Nat)(x:G8):List V:=[.int .i64 x.key,.int .i64 x.tree.root,.sl .Node o false x.tree.mid,.sl .Node o false x.tree.leaf,.sl .int o false x.data,.sl .int o false x.tags]
def At(o:Nat)(x:pO):List V:=[.int .i64 x.next,.int .i64 x.every,.int .i64 x.wait]
def CL(o:Nat)(x:G9):List V:=[.int .i64 x.index,.sl .int o false x.before.symbols,.bool x.before.Ab,.sl .int o false x.after.symbols,.bool x.after.Ab,.int .i64 x.code]
def Au(o:Nat)(x:He):List V:=[.int .i64 x.ay,.int .i64 x.from_,.int .i64 x.to,.int .i64 x.next]
def CM(o:Nat)(x:fS):List V:=[.int .i64 x.eU,.int .i64 x.cap,.int .i64 x.iD,.int .i64 x.low,.int .i64 x.high,.sl .int o false x.weights,.int .i64 x.fH.down,.int .i64 x.fH.sleep]
def CN(o:Nat)(x:lY):List V:=[.int .i64 x.cC.eU,.int .i64 x.cC.cap,.int .i64 x.cC.iD,.int .i64 x.cC.low,.int .i64 x.cC.high,.sl .int o false x.cC.weights,.int .i64 x.cC.fH.down,.int .i64 x.cC.fH.sleep,.int .i64 x.next.eU,.int .i64 x.next.cap,.int .i64 x.next.iD,.int .i64 x.next.low,.int .i64 x.next.high,.sl .int o false x.next.weights,.int .i64 x.next.fH.down,.int .i64 x.next.fH.sleep,.bool x.waits]
def Av(o:Nat)(x:gL):List V:=[.int .i64 x.aY.cQ,.int .i64 x.aY.av,.int .i64 x.aY.rows,.int .i64 x.aY.aS,.int .i64 x.cy.iU,.int .i64 x.cy.rp,.int .i64 x.cy.fj,.int .i64 x.cy.kG,.int .i64 x.cy.iV,.int .i64 x.cy.hG,.int .i64 x.cy.kH,.int .i64 x.cy.kI,.int .i64 x.cy.iA,.int .i64 x.cy.wr,.int .i64 x.cy.lV,.int .i64 x.cy.lW,.int .i64 x.cy.oA,.int .i64 x.cy.lX,.int .i64 x.cy.mF,.int .i64 x.cy.xp,.int .i64 x.cy.xs,.int .i64 x.mapping.order,.bool x.mapping.hash,.int .i64 x.bP,.int .i64 x.interval,.int .i64 x.nv,.int .i64 x.ji.dz,.int .i64 x.ji.dA]
def Aw(o:Nat)(x:gU):List V:=[.int .i64 x.id,.int .i64 x.at_,.int .i64 x.data,.int .i64 x.code]
def vr(o:Nat)(x:aQ):List V:=[.int .i64 x.config.aY.cQ,.int .i64 x.config.aY.av,.int .i64 x.config.aY.rows,.int .i64 x.config.aY.aS,.int .i64 x.config.cy.iU,.int .i64 x.config.cy.rp,.int .i64 x.config.cy.fj,.int .i64 x.config.cy.kG,.int .i64 x.config.cy.iV,.int .i64 x.config.cy.hG,.int .i64 x.config.cy.kH,.int .i64 x.config.cy.kI,.int .i64 x.config.cy.iA,.int .i64 x.config.cy.wr,.int .i64 x.config.cy.lV,.int .i64 x.config.cy.lW,.int .i64 x.config.cy.oA,.int .i64 x.config.cy.lX,.int .i64 x.config.cy.mF,.int .i64 x.config.cy.xp,.int .i64 x.config.cy.xs,.int .i64 x.config.mapping.order,.bool x.config.mapping.hash,.int .i64 x.config.bP,.int .i64 x.config.interval,.int .i64 x.config.nv,.int .i64 x.config.ji.dz,.int .i64 x.config.ji.dA,.int .i64 x.box.cC.eU,.int .i64 x.box.cC.cap,.int .i64 x.box.cC.iD,.int .i64 x.box.cC.low,.int .i64 x.box.cC.high,.sl .int o false x.box.cC.weights,.int .i64 x.box.cC.fH.down,.int .i64 x.box.cC.fH.sleep,.int .i64 x.box.next.eU,.int .i64 x.box.next.cap,.int .i64 x.box.next.iD,.int .i64 x.box.next.low,.int .i64 x.box.next.high,.sl .int o false x.box.next.weights,.int .i64 x.box.next.fH.down,.int .i64 x.box.next.fH.sleep,.bool x.box.waits,.int .i64 x.now,.sl .eF o false x.bx.av,.int .i64 x.bx.aZ,.sl .int o false x.ready.last,.sl .int o false x.ready.cF,.sl .Cell o false x.array.cells,.sl .int o false x.array.dz,.sl .int o false x.array.dA,.int .i64 x.spare.bP,.sl .int o false x.spare.map,.sl .int o false x.bu.aL,.int .i64 x.bu.wait,.bool x.bu.iB,.sl .gy o false x.eV,.sl .int o false x.guard,.sl .Addr o false x.pending,.sl .cZ o false x.queue,.sl .dI o false x.shares,.bool x.drain.on,.int .i64 x.drain.low,.int .i64 x.drain.high,.int .i64 x.aZ.state,.int .i64 x.aZ.since,.int .i64 x.aZ.idle,.int .i64 x.jy.next,.int .i64 x.jy.every,.int .i64 x.jy.wait,.sl .eG o false x.errors,.sl .Event o false x.trace,.sl .hJ o false x.nx]
def CO(o:Nat)(x:Hf):List V:=[.int .i64 x.kind,.int .i64 x.request.id,.int .i64 x.request.bz,.int .i64 x.request.line,.bool x.request.write,.int .i64 x.request.data,.int .i64 x.request.at_,.int .i64 x.n,.int .i64 x.agU,.int .i64 x.addr.ay,.int .i64 x.addr.row,.int .i64 x.addr.cB,.int .i64 x.vc.eU,.int .i64 x.vc.cap,.int .i64 x.vc.iD,.int .i64 x.vc.low,.int .i64 x.vc.high,.sl .int o false x.vc.weights,.int .i64 x.vc.fH.down,.int .i64 x.vc.fH.sleep]
def Ax(o:Nat)(x:Hg):List V:=[.int .i64 x.line,.int .i64 x.data,.int .i64 x.code]
def CP(o:Nat)(x:Hh):List V:=[.sl .u8 o false x.b,.int .i64 x.i,.int .i64 x.h]
def enc:(t:TC)->(o:Nat)->T t->List V
 | .int,_,x=>[.int .i64 x]
 | .u8,_,x=>[.int .u8 x]
 | .bool,_,x=>[.bool x]
 | .str,_,x=>[.str x]
 | .dO,o,x=>Af o x
 | .Addr,o,x=>vn o x
 | .lD,o,x=>Ag o x
 | .ve,o,x=>Cx o x
 | .Command,o,x=>vo o x
 | .fB,o,x=>Ah o x
 | .eF,o,x=>Ai o x
 | .gM,o,x=>Cy o x
 | .Event,o,x=>Aj o x
 | .kJ,o,x=>Cz o x
 | .Cell,o,x=>CA o x
 | .Array,o,x=>CB o x
 | .oB,o,x=>Ak o x
 | .gy,o,x=>CC o x
 | .jk,o,x=>CD o x
 | .jH,o,x=>CE o x
 | .cZ,o,x=>vp o x
 | .dI,o,x=>Al o x
 | .lE,o,x=>Am o x
 | .vf,o,x=>CF o x
 | .vg,o,x=>An o x
 | .Power,o,x=>Ao o x
 | .lF,o,x=>Ap o x
 | .eG,o,x=>Aq o x
 | .vh,o,x=>CG o x
 | .vi,o,x=>CH o x
 | .Receiver,o,x=>CI o x
 | .Node,o,x=>As o x
 | .Tree,o,x=>CJ o x
 | .vj,o,x=>CK o x
 | .oC,o,x=>At o x
 | .vk,o,x=>CL o x
 | .Move,o,x=>Au o x
 | .kK,o,x=>CM o x
 | .ny,o,x=>CN o x
 | .Config,o,x=>Av o x
 | .hJ,o,x=>Aw o x
 | .cG,o,x=>vr o x
 | .Act,o,x=>CO o x
 | .Fact,o,x=>Ax o x
 | .vl,o,x=>CP o x
 | .sl t,o,x=>[.sl t o false x]
 | .jT,o,x=>.bool true :: vr o x
 | .vm g,o,x=>.bool false :: .int .i64 (g:Int) :: [.int .i64 x]
 | .Ad g,o,x=>.bool false :: .int .i64 (g:Int) :: vp o x
 | .Ae g,o,x=>.bool false :: .int .i64 (g:Int) :: vn o x
 | .fnCommand g,o,x=>.bool false :: .int .i64 (g:Int) :: vo o x
def Mr(o:Nat)(cs:List V):Option bg:=match cs with
 | a0 :: a1 :: a2 :: a3 :: []=>(a0.aM).bind fun x0=>(a1.aM).bind fun x1=>(a2.aM).bind fun x2=>(a3.aM).bind fun x3=>some ⟨x0,x1,x2,x3⟩
 | _=>none
def Hi(o:Nat)(cs:List V):Option aU:=match cs with
 | a0 :: a1 :: a2 :: []=>(a0.aM).bind fun x0=>(a1.aM).bind fun x1=>(a2.aM).bind fun x2=>some ⟨x0,x1,x2⟩
 | _=>none
def Ms(o:Nat)(cs:List V):Option iT:=match cs with
 | a0 :: a1 :: []=>(a0.aM).bind fun x0=>(a1.kL).bind fun x1=>some ⟨x0,x1⟩
 | _=>none
def Mt(o:Nat)(cs:List V):Option G2:=match cs with
 | a0 :: []=>(a0.dh .int o).bind fun x0=>some ⟨x0⟩
 | _=>none
def Hj(o:Nat)(cs:List V):Option az:=match cs with
 | a0 :: a1 :: a2 :: a3 :: []=>(a0.aM).bind fun x0=>(a1.aM).bind fun x1=>(a2.aM).bind fun x2=>(a3.aM).bind fun x3=>some ⟨x0,x1,x2,x3⟩
 | _=>none
def Mv(o:Nat)(cs:List V):Option cI:=match cs with
 | a0 :: a1 :: a2 :: a3 :: a4 :: a5 :: a6 :: a7 :: a8 :: a9 :: mG :: mH :: mI :: oD :: oE :: nA :: mJ :: []=>(a0.aM).bind fun x0=>(a1.aM).bind fun x1=>(a2.aM).bind fun x2=>(a3.aM).bind fun x3=>(a4.aM).bind fun x4=>(a5.aM).bind fun x5=>(a6.aM).bind fun x6=>(a7.aM).bind fun x7=>(a8.aM).bind fun x8=>(a9.aM).bind fun x9=>(mG.aM).bind fun nB=>(mH.aM).bind fun nD=>(mI.aM).bind fun nE=>(oD.aM).bind fun nG=>(oE.aM).bind fun nH=>(nA.aM).bind fun nI=>(mJ.aM).bind fun nJ=>some ⟨x0,x1,x2,x3,x4,x5,x6,x7,x8,x9,nB,nD,nE,nG,nH,nI,nJ⟩
 | _=>none
def Mw(o:Nat)(cs:List V):Option dY:=match cs with
 | a0 :: a1 :: []=>(a0.kL).bind fun x0=>(a1.aM).bind fun x1=>some ⟨x0,x1⟩
 | _=>none
def Mx(o:Nat)(cs:List V):Option cV:=match cs with
 | a0 :: a1 :: []=>(a0.dh .eF o).bind fun x0=>(a1.aM).bind fun x1=>some ⟨x0,x1⟩
 | _=>none
def My(o:Nat)(cs:List V):Option gK:=match cs with
 | a0 :: a1 :: a2 :: a3 :: a4 :: []=>(a0.aM).bind fun x0=>(a1.aM).bind fun x1=>(a2.aM).bind fun x2=>(a3.aM).bind fun x3=>(a4.aM).bind fun x4=>some ⟨x0,⟨x1,x2,x3,x4⟩⟩
 | _=>none
def Mz(o:Nat)(cs:List V):Option gj:=match cs with
 | a0 :: a1 :: []=>(a0.dh .int o).bind fun x0=>(a1.dh .int o).bind fun x1=>some ⟨x0,x1⟩
 | _=>none
def MA(o:Nat)(cs:List V):Option en:=match cs with
 | a0 :: a1 :: []=>(a0.dh .int o).bind fun x0=>(a1.kL).bind fun x1=>some ⟨x0,x1⟩
 | _=>none
def MB(o:Nat)(cs:List V):Option jx:=match cs with
 | a0 :: a1 :: a2 :: []=>(a0.dh .Cell o).bind fun x0=>(a1.dh .int o).bind fun x1=>(a2.dh .int o).bind fun x2=>some ⟨x0,x1,x2⟩
 | _=>none
def MC(o:Nat)(cs:List V):Option pN:=match cs with
 | a0 :: a1 :: []=>(a0.aM).bind fun x0=>(a1.aM).bind fun x1=>some ⟨x0,x1⟩
 | _=>none
def MD(o:Nat)(cs:List V):Option eD:=match cs with
 | a0 :: a1 :: a2 :: []=>(a0.dh .int o).bind fun x0=>(a1.dh .int o).bind fun x1=>(a2.aM).bind fun x2=>some ⟨x0,x1,x2⟩
 | _=>none
def ME(o:Nat)(cs:List V):Option ee:=match cs with
 | a0 :: a1 :: []=>(a0.aM).bind fun x0=>(a1.dh .int o).bind fun x1=>some ⟨x0,x1⟩
 | _=>none
def MF(o:Nat)(cs:List V):Option fA:=match cs with
 | a0 :: a1 :: a2 :: []=>(a0.dh .int o).bind fun x0=>(a1.aM).bind fun x1=>(a2.kL).bind fun x2=>some ⟨x0,x1,x2⟩
 | _=>none
def Hl(o:Nat)(cs:List V):Option bL:=match cs with
 | a0 :: a1 :: a2 :: a3 :: a4 :: a5 :: []=>(a0.aM).bind fun x0=>(a1.aM).bind fun x1=>(a2.aM).bind fun x2=>(a3.kL).bind fun x3=>(a4.aM).bind fun x4=>(a5.aM).bind fun x5=>some ⟨x0,x1,x2,x3,x4,x5⟩
 | _=>none
def MG(o:Nat)(cs:List V):Option bA:=match cs with
 | a0 :: a1 :: []=>(a0.aM).bind fun x0=>(a1.aM).bind fun x1=>some ⟨x0,x1⟩
 | _=>none
def MH(o:Nat)(cs:List V):Option iC:=match cs with
 | a0 :: a1 :: a2 :: []=>(a0.kL).bind fun x0=>(a1.aM).bind fun x1=>(a2.aM).bind fun x2=>some ⟨x0,x1,x2⟩
 | _=>none
def MI(o:Nat)(cs:List V):Option G3:=match cs with
 | a0 :: a1 :: []=>(a0.dh .int o).bind fun x0=>(a1.aM).bind fun x1=>some ⟨x0,x1⟩
 | _=>none
def MJ(o:Nat)(cs:List V):Option G4:=match cs with
 | a0 :: a1 :: []=>(a0.aM).bind fun x0=>(a1.aM).bind fun x1=>some ⟨x0,x1⟩
 | _=>none
def MK(o:Nat)(cs:List V):Option iW:=match cs with
 | a0 :: a1 :: a2 :: []=>(a0.aM).bind fun x0=>(a1.aM).bind fun x1=>(a2.aM).bind fun x2=>some ⟨x0,x1,x2⟩
 | _=>none
def ML(o:Nat)(cs:List V):Option iX:=match cs with
 | a0 :: a1 :: []=>(a0.aM).bind fun x0=>(a1.aM).bind fun x1=>some ⟨x0,x1⟩
 | _=>none
def MM(o:Nat)(cs:List V):Option dB:=match cs with
 | a0 :: a1 :: a2 :: []=>(a0.aM).bind fun x0=>(a1.aM).bind fun x1=>(a2.aM).bind fun x2=>some ⟨x0,x1,x2⟩
 | _=>none
def MN(o:Nat)(cs:List V):Option G5:=match cs with
 | a0 :: []=>(a0.dh .str o).bind fun x0=>some ⟨x0⟩
 | _=>none
def MO(o:Nat)(cs:List V):Option G6:=match cs with
 | a0 :: a1 :: []=>(a0.dh .int o).bind fun x0=>(a1.aM).bind fun x1=>some ⟨x0,x1⟩
 | _=>none
def MP(o:Nat)(cs:List V):Option G7:=match cs with
 | a0 :: a1 :: []=>(a0.aM).bind fun x0=>(a1.dh .Command o).bind fun x1=>some ⟨x0,x1⟩
 | _=>none
def MQ(o:Nat)(cs:List V):Option Ac:=match cs with
 | a0 :: a1 :: []=>(a0.aM).bind fun x0=>(a1.aM).bind fun x1=>some ⟨x0,x1⟩
 | _=>none
def MR(o:Nat)(cs:List V):Option Cw:=match cs with
 | a0 :: a1 :: a2 :: []=>(a0.aM).bind fun x0=>(a1.dh .Node o).bind fun x1=>(a2.dh .Node o).bind fun x2=>some ⟨x0,x1,x2⟩
 | _=>none
def MS(o:Nat)(cs:List V):Option G8:=match cs with
 | a0 :: a1 :: a2 :: a3 :: a4 :: a5 :: []=>(a0.aM).bind fun x0=>(a1.aM).bind fun x1=>(a2.dh .Node o).bind fun x2=>(a3.dh .Node o).bind fun x3=>(a4.dh .int o).bind fun x4=>(a5.dh .int o).bind fun x5=>some ⟨x0,⟨x1,x2,x3⟩,x4,x5⟩
 | _=>none
def MT(o:Nat)(cs:List V):Option pO:=match cs with
 | a0 :: a1 :: a2 :: []=>(a0.aM).bind fun x0=>(a1.aM).bind fun x1=>(a2.aM).bind fun x2=>some ⟨x0,x1,x2⟩
 | _=>none
def MU(o:Nat)(cs:List V):Option G9:=match cs with
 | a0 :: a1 :: a2 :: a3 :: a4 :: a5 :: []=>(a0.aM).bind fun x0=>(a1.dh .int o).bind fun x1=>(a2.kL).bind fun x2=>(a3.dh .int o).bind fun x3=>(a4.kL).bind fun x4=>(a5.aM).bind fun x5=>some ⟨x0,⟨x1,x2⟩,⟨x3,x4⟩,x5⟩
 | _=>none
def MV(o:Nat)(cs:List V):Option He:=match cs with
 | a0 :: a1 :: a2 :: a3 :: []=>(a0.aM).bind fun x0=>(a1.aM).bind fun x1=>(a2.aM).bind fun x2=>(a3.aM).bind fun x3=>some ⟨x0,x1,x2,x3⟩
 | _=>none
def MW(o:Nat)(cs:List V):Option fS:=match cs with
 | a0 :: a1 :: a2 :: a3 :: a4 :: a5 :: a6 :: a7 :: []=>(a0.aM).bind fun x0=>(a1.aM).bind fun x1=>(a2.aM).bind fun x2=>(a3.aM).bind fun x3=>(a4.aM).bind fun x4=>(a5.dh .int o).bind fun x5=>(a6.aM).bind fun x6=>(a7.aM).bind fun x7=>some ⟨x0,x1,x2,x3,x4,x5,⟨x6,x7⟩⟩
 | _=>none
def MX(o:Nat)(cs:List V):Option lY:=match cs with
 | a0 :: a1 :: a2 :: a3 :: a4 :: a5 :: a6 :: a7 :: a8 :: a9 :: mG :: mH :: mI :: oD :: oE :: nA :: mJ :: []=>(a0.aM).bind fun x0=>(a1.aM).bind fun x1=>(a2.aM).bind fun x2=>(a3.aM).bind fun x3=>(a4.aM).bind fun x4=>(a5.dh .int o).bind fun x5=>(a6.aM).bind fun x6=>(a7.aM).bind fun x7=>(a8.aM).bind fun x8=>(a9.aM).bind fun x9=>(mG.aM).bind fun nB=>(mH.aM).bind fun nD=>(mI.aM).bind fun nE=>(oD.dh .int o).bind fun nG=>(oE.aM).bind fun nH=>(nA.aM).bind fun nI=>(mJ.kL).bind fun nJ=>some ⟨⟨x0,x1,x2,x3,x4,x5,⟨x6,x7⟩⟩,⟨x8,x9,nB,nD,nE,nG,⟨nH,nI⟩⟩,nJ⟩
 | _=>none
def MY(o:Nat)(cs:List V):Option gL:=match cs with
 | a0 :: a1 :: a2 :: a3 :: a4 :: a5 :: a6 :: a7 :: a8 :: a9 :: mG :: mH :: mI :: oD :: oE :: nA :: mJ :: s5 :: s6 :: CQ :: MZ :: M0 :: M1 :: M3 :: M4 :: M5 :: M6 :: M7 :: []=>(a0.aM).bind fun x0=>(a1.aM).bind fun x1=>(a2.aM).bind fun x2=>(a3.aM).bind fun x3=>(a4.aM).bind fun x4=>(a5.aM).bind fun x5=>(a6.aM).bind fun x6=>(a7.aM).bind fun x7=>(a8.aM).bind fun x8=>(a9.aM).bind fun x9=>(mG.aM).bind fun nB=>(mH.aM).bind fun nD=>(mI.aM).bind fun nE=>(oD.aM).bind fun nG=>(oE.aM).bind fun nH=>(nA.aM).bind fun nI=>(mJ.aM).bind fun nJ=>(s5.aM).bind fun vt=>(s6.aM).bind fun vu=>(CQ.aM).bind fun vw=>(MZ.aM).bind fun CR=>(M0.aM).bind fun CS=>(M1.kL).bind fun CT=>(M3.aM).bind fun CU=>(M4.aM).bind fun CV=>(M5.aM).bind fun CW=>(M6.aM).bind fun CX=>(M7.aM).bind fun CY=>some ⟨⟨x0,x1,x2,x3⟩,⟨x4,x5,x6,x7,x8,x9,nB,nD,nE,nG,nH,nI,nJ,vt,vu,vw,CR⟩,⟨CS,CT⟩,CU,CV,CW,⟨CX,CY⟩⟩
 | _=>none
def M8(o:Nat)(cs:List V):Option gU:=match cs with
 | a0 :: a1 :: a2 :: a3 :: []=>(a0.aM).bind fun x0=>(a1.aM).bind fun x1=>(a2.aM).bind fun x2=>(a3.aM).bind fun x3=>some ⟨x0,x1,x2,x3⟩
 | _=>none
def Ho(o:Nat)(cs:List V):Option aQ:=match cs with
 | a0 :: a1 :: a2 :: a3 :: a4 :: a5 :: a6 :: a7 :: a8 :: a9 :: mG :: mH :: mI :: oD :: oE :: nA :: mJ :: s5 :: s6 :: CQ :: MZ :: M0 :: M1 :: M3 :: M4 :: M5 :: M6 :: M7 :: a28 :: a29 :: a30 :: a31 :: a32 :: a33 :: a34 :: a35 :: a36 :: a37 :: a38 :: a39 :: a40 :: a41 :: a42 :: a43 :: a44 :: a45 :: a46 :: a47 :: a48 :: a49 :: a50 :: a51 :: a52 :: a53 :: a54 :: a55 :: a56 :: a57 :: a58 :: a59 :: a60 :: a61 :: a62 :: a63 :: a64 :: a65 :: a66 :: a67 :: a68 :: a69 :: a70 :: a71 :: a72 :: a73 :: a74 :: []=>(a0.aM).bind fun x0=>(a1.aM).bind fun x1=>(a2.aM).bind fun x2=>(a3.aM).bind fun x3=>(a4.aM).bind fun x4=>(a5.aM).bind fun x5=>(a6.aM).bind fun x6=>(a7.aM).bind fun x7=>(a8.aM).bind fun x8=>(a9.aM).bind fun x9=>(mG.aM).bind fun nB=>(mH.aM).bind fun nD=>(mI.aM).bind fun nE=>(oD.aM).bind fun nG=>(oE.aM).bind fun nH=>(nA.aM).bind fun nI=>(mJ.aM).bind fun nJ=>(s5.aM).bind fun vt=>(s6.aM).bind fun vu=>(CQ.aM).bind fun vw=>(MZ.aM).bind fun CR=>(M0.aM).bind fun CS=>(M1.kL).bind fun CT=>(M3.aM).bind fun CU=>(M4.aM).bind fun CV=>(M5.aM).bind fun CW=>(M6.aM).bind fun CX=>(M7.aM).bind fun CY=>(a28.aM).bind fun Tw=>(a29.aM).bind fun Tx=>(a30.aM).bind fun Ty=>(a31.aM).bind fun Tz=>(a32.aM).bind fun TA=>(a33.dh .int o).bind fun TB=>(a34.aM).bind fun TD=>(a35.aM).bind fun TE=>(a36.aM).bind fun TF=>(a37.aM).bind fun TG=>(a38.aM).bind fun TH=>(a39.aM).bind fun TI=>(a40.aM).bind fun TJ=>(a41.dh .int o).bind fun TK=>(a42.aM).bind fun TL=>(a43.aM).bind fun TM=>(a44.kL).bind fun TN=>(a45.aM).bind fun TO=>(a46.dh .eF o).bind fun TP=>(a47.aM).bind fun TQ=>(a48.dh .int o).bind fun TR=>(a49.dh .int o).bind fun TS=>(a50.dh .Cell o).bind fun TT=>(a51.dh .int o).bind fun TU=>(a52.dh .int o).bind fun TV=>(a53.aM).bind fun TW=>(a54.dh .int o).bind fun TX=>(a55.dh .int o).bind fun TY=>(a56.aM).bind fun TZ=>(a57.kL).bind fun T0=>(a58.dh .gy o).bind fun T1=>(a59.dh .int o).bind fun T2=>(a60.dh .Addr o).bind fun T3=>(a61.dh .cZ o).bind fun T4=>(a62.dh .dI o).bind fun T5=>(a63.kL).bind fun T6=>(a64.aM).bind fun T7=>(a65.aM).bind fun T8=>(a66.aM).bind fun T9=>(a67.aM).bind fun Ua=>(a68.aM).bind fun Ub=>(a69.aM).bind fun Uc=>(a70.aM).bind fun Ud=>(a71.aM).bind fun Ue=>(a72.dh .eG o).bind fun Uf=>(a73.dh .Event o).bind fun Ug=>(a74.dh .hJ o).bind fun Uh=>some ⟨⟨⟨x0,x1,x2,x3⟩,⟨x4,x5,x6,x7,x8,x9,nB,nD,nE,nG,nH,nI,nJ,vt,vu,vw,CR⟩,⟨CS,CT⟩,CU,CV,CW,⟨CX,CY⟩⟩,⟨⟨Tw,Tx,Ty,Tz,TA,TB,⟨TD,TE⟩⟩,⟨TF,TG,TH,TI,TJ,TK,⟨TL,TM⟩⟩,TN⟩,TO,⟨TP,TQ⟩,⟨TR,TS⟩,⟨TT,TU,TV⟩,⟨TW,TX⟩,⟨TY,TZ,T0⟩,T1,T2,T3,T4,T5,⟨T6,T7,T8⟩,⟨T9,Ua,Ub⟩,⟨Uc,Ud,Ue⟩,Uf,Ug,Uh⟩
 | _=>none
def M9(o:Nat)(cs:List V):Option Hf:=match cs with
 | a0 :: a1 :: a2 :: a3 :: a4 :: a5 :: a6 :: a7 :: a8 :: a9 :: mG :: mH :: mI :: oD :: oE :: nA :: mJ :: s5 :: s6 :: CQ :: []=>(a0.aM).bind fun x0=>(a1.aM).bind fun x1=>(a2.aM).bind fun x2=>(a3.aM).bind fun x3=>(a4.kL).bind fun x4=>(a5.aM).bind fun x5=>(a6.aM).bind fun x6=>(a7.aM).bind fun x7=>(a8.aM).bind fun x8=>(a9.aM).bind fun x9=>(mG.aM).bind fun nB=>(mH.aM).bind fun nD=>(mI.aM).bind fun nE=>(oD.aM).bind fun nG=>(oE.aM).bind fun nH=>(nA.aM).bind fun nI=>(mJ.aM).bind fun nJ=>(s5.dh .int o).bind fun vt=>(s6.aM).bind fun vu=>(CQ.aM).bind fun vw=>some ⟨x0,⟨x1,x2,x3,x4,x5,x6⟩,x7,x8,⟨x9,nB,nD⟩,⟨nE,nG,nH,nI,nJ,vt,⟨vu,vw⟩⟩⟩
 | _=>none
def Na(o:Nat)(cs:List V):Option Hg:=match cs with
 | a0 :: a1 :: a2 :: []=>(a0.aM).bind fun x0=>(a1.aM).bind fun x1=>(a2.aM).bind fun x2=>some ⟨x0,x1,x2⟩
 | _=>none
def Nb(o:Nat)(cs:List V):Option Hh:=match cs with
 | a0 :: a1 :: a2 :: []=>(a0.dh .u8 o).bind fun x0=>(a1.aM).bind fun x1=>(a2.aM).bind fun x2=>some ⟨x0,x1,x2⟩
 | _=>none
def vz{α:Type}(f:V->Option α):List V->Option α
 | [a]=>f a
 | _=>none
def Nc{α:Type}(f:List V->Option α):List V->Option α
 | .bool true :: cs=>f cs
 | _=>none
def Ay{α:Type}(g:Nat)(f:List V->Option α):List V->Option α
 | .bool false :: .int .i64 n :: cs=>if n=(g:Int)then f cs else none
 | _=>none
def dec:(t:TC)->(o:Nat)->List V->Option (T t)
 | .int,_,cs=>vz V.aM cs
 | .u8,_,cs=>vz V.Mp cs
 | .bool,_,cs=>vz V.kL cs
 | .str,_,cs=>vz V.Mq cs
 | .dO,o,cs=>Mr o cs
 | .Addr,o,cs=>Hi o cs
 | .lD,o,cs=>Ms o cs
 | .ve,o,cs=>Mt o cs
 | .Command,o,cs=>Hj o cs
 | .fB,o,cs=>Mv o cs
 | .eF,o,cs=>Mw o cs
 | .gM,o,cs=>Mx o cs
 | .Event,o,cs=>My o cs
 | .kJ,o,cs=>Mz o cs
 | .Cell,o,cs=>MA o cs
 | .Array,o,cs=>MB o cs
 | .oB,o,cs=>MC o cs
 | .gy,o,cs=>MD o cs
 | .jk,o,cs=>ME o cs
 | .jH,o,cs=>MF o cs
 | .cZ,o,cs=>Hl o cs
 | .dI,o,cs=>MG o cs
 | .lE,o,cs=>MH o cs
 | .vf,o,cs=>MI o cs
 | .vg,o,cs=>MJ o cs
 | .Power,o,cs=>MK o cs
 | .lF,o,cs=>ML o cs
 | .eG,o,cs=>MM o cs
 | .vh,o,cs=>MN o cs
 | .vi,o,cs=>MO o cs
 | .Receiver,o,cs=>MP o cs
 | .Node,o,cs=>MQ o cs
 | .Tree,o,cs=>MR o cs
 | .vj,o,cs=>MS o cs
 | .oC,o,cs=>MT o cs
 | .vk,o,cs=>MU o cs
 | .Move,o,cs=>MV o cs
 | .kK,o,cs=>MW o cs
 | .ny,o,cs=>MX o cs
 | .Config,o,cs=>MY o cs
 | .hJ,o,cs=>M8 o cs
 | .cG,o,cs=>Ho o cs
 | .Act,o,cs=>M9 o cs
 | .Fact,o,cs=>Na o cs
 | .vl,o,cs=>Nb o cs
 | .sl t,o,cs=>vz (V.dh t o) cs
 | .jT,o,cs=>Nc (Ho o) cs
 | .vm g,o,cs=>Ay g (vz V.aM) cs
 | .Ad g,o,cs=>Ay g (Hl o) cs
 | .Ae g,o,cs=>Ay g (Hi o) cs
 | .fnCommand g,o,cs=>Ay g (Hj o) cs
def Ui:TC->Nat->List V
 | .cG,o=>vr o ⟨⟨⟨0,0,0,0⟩,⟨0,0,0,0,0,0,0,0,0,0,0,0,0,0,0,0,0⟩,⟨0,false⟩,0,0,0,⟨0,0⟩⟩,⟨⟨0,0,0,0,0,[],⟨0,0⟩⟩,⟨0,0,0,0,0,[],⟨0,0⟩⟩,false⟩,0,⟨[],0⟩,⟨[],[]⟩,⟨[],[],[]⟩,⟨0,[]⟩,⟨[],0,false⟩,[],[],[],[],[],⟨false,0,0⟩,⟨0,0,0⟩,⟨0,0,0⟩,[],[],[]⟩
 | _,_=>[]
theorem kM(t:TC)(o:Nat)(x:T t):(enc t o x).length=aB t:=by cases t <;>rfl
theorem oF(t:TC):0<aB t:=by cases t <;>simp[aB]
theorem bind_some{α β:Type}{a:Option α}{f:α->Option β}{b:β}(h:a.bind f=some b):∃ x,a=some x/\f x=some b:=by
 cases a with
 | none=>cases h
 | some x=>exact⟨x,rfl,h⟩
theorem agX(o:Nat)(cs:List V)(x:bg)(h:Mr o cs=some x):bJ cs (Af o x):=by
 unfold Mr at h
 split at h
 ·obtain⟨x0,h0,h⟩:=bind_some h
  obtain⟨x1,h1,h⟩:=bind_some h
  obtain⟨x2,h2,h⟩:=bind_some h
  obtain⟨x3,h3,h⟩:=bind_some h
  injection h with h
  subst h
  exact(.cons (V.aO h0) (.cons (V.aO h1) (.cons (V.aO h2) (.cons (V.aO h3) bJ.nil))))
 ·cases h
theorem Uj(o:Nat)(cs:List V)(x:aU)(h:Hi o cs=some x):bJ cs (vn o x):=by
 unfold Hi at h
 split at h
 ·obtain⟨x0,h0,h⟩:=bind_some h
  obtain⟨x1,h1,h⟩:=bind_some h
  obtain⟨x2,h2,h⟩:=bind_some h
  injection h with h
  subst h
  exact(.cons (V.aO h0) (.cons (V.aO h1) (.cons (V.aO h2) bJ.nil)))
 ·cases h
theorem agY(o:Nat)(cs:List V)(x:iT)(h:Ms o cs=some x):bJ cs (Ag o x):=by
 unfold Ms at h
 split at h
 ·obtain⟨x0,h0,h⟩:=bind_some h
  obtain⟨x1,h1,h⟩:=bind_some h
  injection h with h
  subst h
  exact(.cons (V.aO h0) (.cons (V.lZ h1) bJ.nil))
 ·cases h
theorem agZ(o:Nat)(cs:List V)(x:G2)(h:Mt o cs=some x):bJ cs (Cx o x):=by
 unfold Mt at h
 split at h
 ·obtain⟨x0,h0,h⟩:=bind_some h
  injection h with h
  subst h
  exact(.cons (V.dD h0) bJ.nil)
 ·cases h
theorem Uk(o:Nat)(cs:List V)(x:az)(h:Hj o cs=some x):bJ cs (vo o x):=by
 unfold Hj at h
 split at h
 ·obtain⟨x0,h0,h⟩:=bind_some h
  obtain⟨x1,h1,h⟩:=bind_some h
  obtain⟨x2,h2,h⟩:=bind_some h
  obtain⟨x3,h3,h⟩:=bind_some h
  injection h with h
  subst h
  exact(.cons (V.aO h0) (.cons (V.aO h1) (.cons (V.aO h2) (.cons (V.aO h3) bJ.nil))))
 ·cases h
theorem ag0(o:Nat)(cs:List V)(x:cI)(h:Mv o cs=some x):bJ cs (Ah o x):=by
 unfold Mv at h
 split at h
 ·obtain⟨x0,h0,h⟩:=bind_some h
  obtain⟨x1,h1,h⟩:=bind_some h
  obtain⟨x2,h2,h⟩:=bind_some h
  obtain⟨x3,h3,h⟩:=bind_some h
  obtain⟨x4,h4,h⟩:=bind_some h
  obtain⟨x5,h5,h⟩:=bind_some h
  obtain⟨x6,h6,h⟩:=bind_some h
  obtain⟨x7,h7,h⟩:=bind_some h
  obtain⟨x8,h8,h⟩:=bind_some h
  obtain⟨x9,h9,h⟩:=bind_some h
  obtain⟨nB,fI,h⟩:=bind_some h
  obtain⟨nD,fT,h⟩:=bind_some h
  obtain⟨nE,fX,h⟩:=bind_some h
  obtain⟨nG,ia,h⟩:=bind_some h
  obtain⟨nH,gN,h⟩:=bind_some h
  obtain⟨nI,fC,h⟩:=bind_some h
  obtain⟨nJ,iY,h⟩:=bind_some h
  injection h with h
  subst h
  exact(.cons (V.aO h0) (.cons (V.aO h1) (.cons (V.aO h2) (.cons (V.aO h3) (.cons (V.aO h4) (.cons (V.aO h5) (.cons (V.aO h6) (.cons (V.aO h7) (.cons (V.aO h8) (.cons (V.aO h9) (.cons (V.aO fI) (.cons (V.aO fT) (.cons (V.aO fX) (.cons (V.aO ia) (.cons (V.aO gN) (.cons (V.aO fC) (.cons (V.aO iY) bJ.nil)))))))))))))))))
 ·cases h
theorem ag1(o:Nat)(cs:List V)(x:dY)(h:Mw o cs=some x):bJ cs (Ai o x):=by
 unfold Mw at h
 split at h
 ·obtain⟨x0,h0,h⟩:=bind_some h
  obtain⟨x1,h1,h⟩:=bind_some h
  injection h with h
  subst h
  exact(.cons (V.lZ h0) (.cons (V.aO h1) bJ.nil))
 ·cases h
theorem ag2(o:Nat)(cs:List V)(x:cV)(h:Mx o cs=some x):bJ cs (Cy o x):=by
 unfold Mx at h
 split at h
 ·obtain⟨x0,h0,h⟩:=bind_some h
  obtain⟨x1,h1,h⟩:=bind_some h
  injection h with h
  subst h
  exact(.cons (V.dD h0) (.cons (V.aO h1) bJ.nil))
 ·cases h
theorem ag3(o:Nat)(cs:List V)(x:gK)(h:My o cs=some x):bJ cs (Aj o x):=by
 unfold My at h
 split at h
 ·obtain⟨x0,h0,h⟩:=bind_some h
  obtain⟨x1,h1,h⟩:=bind_some h
  obtain⟨x2,h2,h⟩:=bind_some h
  obtain⟨x3,h3,h⟩:=bind_some h
  obtain⟨x4,h4,h⟩:=bind_some h
  injection h with h
  subst h
  exact(.cons (V.aO h0) (.cons (V.aO h1) (.cons (V.aO h2) (.cons (V.aO h3) (.cons (V.aO h4) bJ.nil)))))
 ·cases h
theorem ag4(o:Nat)(cs:List V)(x:gj)(h:Mz o cs=some x):bJ cs (Cz o x):=by
 unfold Mz at h
 split at h
 ·obtain⟨x0,h0,h⟩:=bind_some h
  obtain⟨x1,h1,h⟩:=bind_some h
  injection h with h
  subst h
  exact(.cons (V.dD h0) (.cons (V.dD h1) bJ.nil))
 ·cases h
theorem ag5(o:Nat)(cs:List V)(x:en)(h:MA o cs=some x):bJ cs (CA o x):=by
 unfold MA at h
 split at h
 ·obtain⟨x0,h0,h⟩:=bind_some h
  obtain⟨x1,h1,h⟩:=bind_some h
  injection h with h
  subst h
  exact(.cons (V.dD h0) (.cons (V.lZ h1) bJ.nil))
 ·cases h
theorem ag6(o:Nat)(cs:List V)(x:jx)(h:MB o cs=some x):bJ cs (CB o x):=by
 unfold MB at h
 split at h
 ·obtain⟨x0,h0,h⟩:=bind_some h
  obtain⟨x1,h1,h⟩:=bind_some h
  obtain⟨x2,h2,h⟩:=bind_some h
  injection h with h
  subst h
  exact(.cons (V.dD h0) (.cons (V.dD h1) (.cons (V.dD h2) bJ.nil)))
 ·cases h
theorem ag7(o:Nat)(cs:List V)(x:pN)(h:MC o cs=some x):bJ cs (Ak o x):=by
 unfold MC at h
 split at h
 ·obtain⟨x0,h0,h⟩:=bind_some h
  obtain⟨x1,h1,h⟩:=bind_some h
  injection h with h
  subst h
  exact(.cons (V.aO h0) (.cons (V.aO h1) bJ.nil))
 ·cases h
theorem ag8(o:Nat)(cs:List V)(x:eD)(h:MD o cs=some x):bJ cs (CC o x):=by
 unfold MD at h
 split at h
 ·obtain⟨x0,h0,h⟩:=bind_some h
  obtain⟨x1,h1,h⟩:=bind_some h
  obtain⟨x2,h2,h⟩:=bind_some h
  injection h with h
  subst h
  exact(.cons (V.dD h0) (.cons (V.dD h1) (.cons (V.aO h2) bJ.nil)))
 ·cases h
theorem ag9(o:Nat)(cs:List V)(x:ee)(h:ME o cs=some x):bJ cs (CD o x):=by
 unfold ME at h
 split at h
 ·obtain⟨x0,h0,h⟩:=bind_some h
  obtain⟨x1,h1,h⟩:=bind_some h
  injection h with h
  subst h
  exact(.cons (V.aO h0) (.cons (V.dD h1) bJ.nil))
 ·cases h
theorem aha(o:Nat)(cs:List V)(x:fA)(h:MF o cs=some x):bJ cs (CE o x):=by
 unfold MF at h
 split at h
 ·obtain⟨x0,h0,h⟩:=bind_some h
  obtain⟨x1,h1,h⟩:=bind_some h
  obtain⟨x2,h2,h⟩:=bind_some h
  injection h with h
  subst h
  exact(.cons (V.dD h0) (.cons (V.aO h1) (.cons (V.lZ h2) bJ.nil)))
 ·cases h
theorem Ul(o:Nat)(cs:List V)(x:bL)(h:Hl o cs=some x):bJ cs (vp o x):=by
 unfold Hl at h
 split at h
 ·obtain⟨x0,h0,h⟩:=bind_some h
  obtain⟨x1,h1,h⟩:=bind_some h
  obtain⟨x2,h2,h⟩:=bind_some h
  obtain⟨x3,h3,h⟩:=bind_some h
  obtain⟨x4,h4,h⟩:=bind_some h
  obtain⟨x5,h5,h⟩:=bind_some h
  injection h with h
  subst h
  exact(.cons (V.aO h0) (.cons (V.aO h1) (.cons (V.aO h2) (.cons (V.lZ h3) (.cons (V.aO h4) (.cons (V.aO h5) bJ.nil))))))
 ·cases h
theorem ahb(o:Nat)(cs:List V)(x:bA)(h:MG o cs=some x):bJ cs (Al o x):=by
 unfold MG at h
 split at h
 ·obtain⟨x0,h0,h⟩:=bind_some h
  obtain⟨x1,h1,h⟩:=bind_some h
  injection h with h
  subst h
  exact(.cons (V.aO h0) (.cons (V.aO h1) bJ.nil))
 ·cases h
theorem ahc(o:Nat)(cs:List V)(x:iC)(h:MH o cs=some x):bJ cs (Am o x):=by
 unfold MH at h
 split at h
 ·obtain⟨x0,h0,h⟩:=bind_some h
  obtain⟨x1,h1,h⟩:=bind_some h
  obtain⟨x2,h2,h⟩:=bind_some h
  injection h with h
  subst h
  exact(.cons (V.lZ h0) (.cons (V.aO h1) (.cons (V.aO h2) bJ.nil)))
 ·cases h
theorem ahd(o:Nat)(cs:List V)(x:G3)(h:MI o cs=some x):bJ cs (CF o x):=by
 unfold MI at h
 split at h
 ·obtain⟨x0,h0,h⟩:=bind_some h
  obtain⟨x1,h1,h⟩:=bind_some h
  injection h with h
  subst h
  exact(.cons (V.dD h0) (.cons (V.aO h1) bJ.nil))
 ·cases h
theorem ahe(o:Nat)(cs:List V)(x:G4)(h:MJ o cs=some x):bJ cs (An o x):=by
 unfold MJ at h
 split at h
 ·obtain⟨x0,h0,h⟩:=bind_some h
  obtain⟨x1,h1,h⟩:=bind_some h
  injection h with h
  subst h
  exact(.cons (V.aO h0) (.cons (V.aO h1) bJ.nil))
 ·cases h
theorem ahf(o:Nat)(cs:List V)(x:iW)(h:MK o cs=some x):bJ cs (Ao o x):=by
 unfold MK at h
 split at h
 ·obtain⟨x0,h0,h⟩:=bind_some h
  obtain⟨x1,h1,h⟩:=bind_some h
  obtain⟨x2,h2,h⟩:=bind_some h
  injection h with h
  subst h
  exact(.cons (V.aO h0) (.cons (V.aO h1) (.cons (V.aO h2) bJ.nil)))
 ·cases h
theorem ahg(o:Nat)(cs:List V)(x:iX)(h:ML o cs=some x):bJ cs (Ap o x):=by
 unfold ML at h
 split at h
 ·obtain⟨x0,h0,h⟩:=bind_some h
  obtain⟨x1,h1,h⟩:=bind_some h
  injection h with h
  subst h
  exact(.cons (V.aO h0) (.cons (V.aO h1) bJ.nil))
 ·cases h
theorem ahh(o:Nat)(cs:List V)(x:dB)(h:MM o cs=some x):bJ cs (Aq o x):=by
 unfold MM at h
 split at h
 ·obtain⟨x0,h0,h⟩:=bind_some h
  obtain⟨x1,h1,h⟩:=bind_some h
  obtain⟨x2,h2,h⟩:=bind_some h
  injection h with h
  subst h
  exact(.cons (V.aO h0) (.cons (V.aO h1) (.cons (V.aO h2) bJ.nil)))
 ·cases h
theorem ahi(o:Nat)(cs:List V)(x:G5)(h:MN o cs=some x):bJ cs (CG o x):=by
 unfold MN at h
 split at h
 ·obtain⟨x0,h0,h⟩:=bind_some h
  injection h with h
  subst h
  exact(.cons (V.dD h0) bJ.nil)
 ·cases h
theorem ahj(o:Nat)(cs:List V)(x:G6)(h:MO o cs=some x):bJ cs (CH o x):=by
 unfold MO at h
 split at h
 ·obtain⟨x0,h0,h⟩:=bind_some h
  obtain⟨x1,h1,h⟩:=bind_some h
  injection h with h
  subst h
  exact(.cons (V.dD h0) (.cons (V.aO h1) bJ.nil))
 ·cases h
theorem ahk(o:Nat)(cs:List V)(x:G7)(h:MP o cs=some x):bJ cs (CI o x):=by
 unfold MP at h
 split at h
 ·obtain⟨x0,h0,h⟩:=bind_some h
  obtain⟨x1,h1,h⟩:=bind_some h
  injection h with h
  subst h
  exact(.cons (V.aO h0) (.cons (V.dD h1) bJ.nil))
 ·cases h
theorem ahl(o:Nat)(cs:List V)(x:Ac)(h:MQ o cs=some x):bJ cs (As o x):=by
 unfold MQ at h
 split at h
 ·obtain⟨x0,h0,h⟩:=bind_some h
  obtain⟨x1,h1,h⟩:=bind_some h
  injection h with h
  subst h
  exact(.cons (V.aO h0) (.cons (V.aO h1) bJ.nil))
 ·cases h
theorem ahm(o:Nat)(cs:List V)(x:Cw)(h:MR o cs=some x):bJ cs (CJ o x):=by
 unfold MR at h
 split at h
 ·obtain⟨x0,h0,h⟩:=bind_some h
  obtain⟨x1,h1,h⟩:=bind_some h
  obtain⟨x2,h2,h⟩:=bind_some h
  injection h with h
  subst h
  exact(.cons (V.aO h0) (.cons (V.dD h1) (.cons (V.dD h2) bJ.nil)))
 ·cases h
theorem ahn(o:Nat)(cs:List V)(x:G8)(h:MS o cs=some x):bJ cs (CK o x):=by
 unfold MS at h
 split at h
 ·obtain⟨x0,h0,h⟩:=bind_some h
  obtain⟨x1,h1,h⟩:=bind_some h
  obtain⟨x2,h2,h⟩:=bind_some h
  obtain⟨x3,h3,h⟩:=bind_some h
  obtain⟨x4,h4,h⟩:=bind_some h
  obtain⟨x5,h5,h⟩:=bind_some h
  injection h with h
  subst h
  exact(.cons (V.aO h0) (.cons (V.aO h1) (.cons (V.dD h2) (.cons (V.dD h3) (.cons (V.dD h4) (.cons (V.dD h5) bJ.nil))))))
 ·cases h
theorem aho(o:Nat)(cs:List V)(x:pO)(h:MT o cs=some x):bJ cs (At o x):=by
 unfold MT at h
 split at h
 ·obtain⟨x0,h0,h⟩:=bind_some h
  obtain⟨x1,h1,h⟩:=bind_some h
  obtain⟨x2,h2,h⟩:=bind_some h
  injection h with h
  subst h
  exact(.cons (V.aO h0) (.cons (V.aO h1) (.cons (V.aO h2) bJ.nil)))
 ·cases h
theorem ahp(o:Nat)(cs:List V)(x:G9)(h:MU o cs=some x):bJ cs (CL o x):=by
 unfold MU at h
 split at h
 ·obtain⟨x0,h0,h⟩:=bind_some h
  obtain⟨x1,h1,h⟩:=bind_some h
  obtain⟨x2,h2,h⟩:=bind_some h
  obtain⟨x3,h3,h⟩:=bind_some h
  obtain⟨x4,h4,h⟩:=bind_some h
  obtain⟨x5,h5,h⟩:=bind_some h
  injection h with h
  subst h
  exact(.cons (V.aO h0) (.cons (V.dD h1) (.cons (V.lZ h2) (.cons (V.dD h3) (.cons (V.lZ h4) (.cons (V.aO h5) bJ.nil))))))
 ·cases h
theorem ahq(o:Nat)(cs:List V)(x:He)(h:MV o cs=some x):bJ cs (Au o x):=by
 unfold MV at h
 split at h
 ·obtain⟨x0,h0,h⟩:=bind_some h
  obtain⟨x1,h1,h⟩:=bind_some h
  obtain⟨x2,h2,h⟩:=bind_some h
  obtain⟨x3,h3,h⟩:=bind_some h
  injection h with h
  subst h
  exact(.cons (V.aO h0) (.cons (V.aO h1) (.cons (V.aO h2) (.cons (V.aO h3) bJ.nil))))
 ·cases h
theorem ahr(o:Nat)(cs:List V)(x:fS)(h:MW o cs=some x):bJ cs (CM o x):=by
 unfold MW at h
 split at h
 ·obtain⟨x0,h0,h⟩:=bind_some h
  obtain⟨x1,h1,h⟩:=bind_some h
  obtain⟨x2,h2,h⟩:=bind_some h
  obtain⟨x3,h3,h⟩:=bind_some h
  obtain⟨x4,h4,h⟩:=bind_some h
  obtain⟨x5,h5,h⟩:=bind_some h
  obtain⟨x6,h6,h⟩:=bind_some h
  obtain⟨x7,h7,h⟩:=bind_some h
  injection h with h
  subst h
  exact(.cons (V.aO h0) (.cons (V.aO h1) (.cons (V.aO h2) (.cons (V.aO h3) (.cons (V.aO h4) (.cons (V.dD h5) (.cons (V.aO h6) (.cons (V.aO h7) bJ.nil))))))))
 ·cases h
theorem ahs(o:Nat)(cs:List V)(x:lY)(h:MX o cs=some x):bJ cs (CN o x):=by
 unfold MX at h
 split at h
 ·obtain⟨x0,h0,h⟩:=bind_some h
  obtain⟨x1,h1,h⟩:=bind_some h
  obtain⟨x2,h2,h⟩:=bind_some h
  obtain⟨x3,h3,h⟩:=bind_some h
  obtain⟨x4,h4,h⟩:=bind_some h
  obtain⟨x5,h5,h⟩:=bind_some h
  obtain⟨x6,h6,h⟩:=bind_some h
  obtain⟨x7,h7,h⟩:=bind_some h
  obtain⟨x8,h8,h⟩:=bind_some h
  obtain⟨x9,h9,h⟩:=bind_some h
  obtain⟨nB,fI,h⟩:=bind_some h
  obtain⟨nD,fT,h⟩:=bind_some h
  obtain⟨nE,fX,h⟩:=bind_some h
  obtain⟨nG,ia,h⟩:=bind_some h
  obtain⟨nH,gN,h⟩:=bind_some h
  obtain⟨nI,fC,h⟩:=bind_some h
  obtain⟨nJ,iY,h⟩:=bind_some h
  injection h with h
  subst h
  exact(.cons (V.aO h0) (.cons (V.aO h1) (.cons (V.aO h2) (.cons (V.aO h3) (.cons (V.aO h4) (.cons (V.dD h5) (.cons (V.aO h6) (.cons (V.aO h7) (.cons (V.aO h8) (.cons (V.aO h9) (.cons (V.aO fI) (.cons (V.aO fT) (.cons (V.aO fX) (.cons (V.dD ia) (.cons (V.aO gN) (.cons (V.aO fC) (.cons (V.lZ iY) bJ.nil)))))))))))))))))
 ·cases h
theorem aht(o:Nat)(cs:List V)(x:gL)(h:MY o cs=some x):bJ cs (Av o x):=by
 unfold MY at h
 split at h
 ·obtain⟨x0,h0,h⟩:=bind_some h
  obtain⟨x1,h1,h⟩:=bind_some h
  obtain⟨x2,h2,h⟩:=bind_some h
  obtain⟨x3,h3,h⟩:=bind_some h
  obtain⟨x4,h4,h⟩:=bind_some h
  obtain⟨x5,h5,h⟩:=bind_some h
  obtain⟨x6,h6,h⟩:=bind_some h
  obtain⟨x7,h7,h⟩:=bind_some h
  obtain⟨x8,h8,h⟩:=bind_some h
  obtain⟨x9,h9,h⟩:=bind_some h
  obtain⟨nB,fI,h⟩:=bind_some h
  obtain⟨nD,fT,h⟩:=bind_some h
  obtain⟨nE,fX,h⟩:=bind_some h
  obtain⟨nG,ia,h⟩:=bind_some h
  obtain⟨nH,gN,h⟩:=bind_some h
  obtain⟨nI,fC,h⟩:=bind_some h
  obtain⟨nJ,iY,h⟩:=bind_some h
  obtain⟨vt,jU,h⟩:=bind_some h
  obtain⟨vu,oG,h⟩:=bind_some h
  obtain⟨vw,rJ,h⟩:=bind_some h
  obtain⟨CR,nK,h⟩:=bind_some h
  obtain⟨CS,qt,h⟩:=bind_some h
  obtain⟨CT,s7,h⟩:=bind_some h
  obtain⟨CU,xA,h⟩:=bind_some h
  obtain⟨CV,oH,h⟩:=bind_some h
  obtain⟨CW,Nd,h⟩:=bind_some h
  obtain⟨CX,CZ,h⟩:=bind_some h
  obtain⟨CY,Nf,h⟩:=bind_some h
  injection h with h
  subst h
  exact(.cons (V.aO h0) (.cons (V.aO h1) (.cons (V.aO h2) (.cons (V.aO h3) (.cons (V.aO h4) (.cons (V.aO h5) (.cons (V.aO h6) (.cons (V.aO h7) (.cons (V.aO h8) (.cons (V.aO h9) (.cons (V.aO fI) (.cons (V.aO fT) (.cons (V.aO fX) (.cons (V.aO ia) (.cons (V.aO gN) (.cons (V.aO fC) (.cons (V.aO iY) (.cons (V.aO jU) (.cons (V.aO oG) (.cons (V.aO rJ) (.cons (V.aO nK) (.cons (V.aO qt) (.cons (V.lZ s7) (.cons (V.aO xA) (.cons (V.aO oH) (.cons (V.aO Nd) (.cons (V.aO CZ) (.cons (V.aO Nf) bJ.nil))))))))))))))))))))))))))))
 ·cases h
theorem ahu(o:Nat)(cs:List V)(x:gU)(h:M8 o cs=some x):bJ cs (Aw o x):=by
 unfold M8 at h
 split at h
 ·obtain⟨x0,h0,h⟩:=bind_some h
  obtain⟨x1,h1,h⟩:=bind_some h
  obtain⟨x2,h2,h⟩:=bind_some h
  obtain⟨x3,h3,h⟩:=bind_some h
  injection h with h
  subst h
  exact(.cons (V.aO h0) (.cons (V.aO h1) (.cons (V.aO h2) (.cons (V.aO h3) bJ.nil))))
 ·cases h
theorem Um(o:Nat)(cs:List V)(x:aQ)(h:Ho o cs=some x):bJ cs (vr o x):=by
 unfold Ho at h
 split at h
 ·obtain⟨x0,h0,h⟩:=bind_some h
  obtain⟨x1,h1,h⟩:=bind_some h
  obtain⟨x2,h2,h⟩:=bind_some h
  obtain⟨x3,h3,h⟩:=bind_some h
  obtain⟨x4,h4,h⟩:=bind_some h
  obtain⟨x5,h5,h⟩:=bind_some h
  obtain⟨x6,h6,h⟩:=bind_some h
  obtain⟨x7,h7,h⟩:=bind_some h
  obtain⟨x8,h8,h⟩:=bind_some h
  obtain⟨x9,h9,h⟩:=bind_some h
  obtain⟨nB,fI,h⟩:=bind_some h
  obtain⟨nD,fT,h⟩:=bind_some h
  obtain⟨nE,fX,h⟩:=bind_some h
  obtain⟨nG,ia,h⟩:=bind_some h
  obtain⟨nH,gN,h⟩:=bind_some h
  obtain⟨nI,fC,h⟩:=bind_some h
  obtain⟨nJ,iY,h⟩:=bind_some h
  obtain⟨vt,jU,h⟩:=bind_some h
  obtain⟨vu,oG,h⟩:=bind_some h
  obtain⟨vw,rJ,h⟩:=bind_some h
  obtain⟨CR,nK,h⟩:=bind_some h
  obtain⟨CS,qt,h⟩:=bind_some h
  obtain⟨CT,s7,h⟩:=bind_some h
  obtain⟨CU,xA,h⟩:=bind_some h
  obtain⟨CV,oH,h⟩:=bind_some h
  obtain⟨CW,Nd,h⟩:=bind_some h
  obtain⟨CX,CZ,h⟩:=bind_some h
  obtain⟨CY,Nf,h⟩:=bind_some h
  obtain⟨Tw,Un,h⟩:=bind_some h
  obtain⟨Tx,Hp,h⟩:=bind_some h
  obtain⟨Ty,Ng,h⟩:=bind_some h
  obtain⟨Tz,Nh,h⟩:=bind_some h
  obtain⟨TA,Uo,h⟩:=bind_some h
  obtain⟨TB,Ni,h⟩:=bind_some h
  obtain⟨TD,h34,h⟩:=bind_some h
  obtain⟨TE,Up,h⟩:=bind_some h
  obtain⟨TF,Nj,h⟩:=bind_some h
  obtain⟨TG,h37,h⟩:=bind_some h
  obtain⟨TH,Nk,h⟩:=bind_some h
  obtain⟨TI,h39,h⟩:=bind_some h
  obtain⟨TJ,Uq,h⟩:=bind_some h
  obtain⟨TK,Nl,h⟩:=bind_some h
  obtain⟨TL,h42,h⟩:=bind_some h
  obtain⟨TM,Nm,h⟩:=bind_some h
  obtain⟨TN,h44,h⟩:=bind_some h
  obtain⟨TO,h45,h⟩:=bind_some h
  obtain⟨TP,Ur,h⟩:=bind_some h
  obtain⟨TQ,Nn,h⟩:=bind_some h
  obtain⟨TR,h48,h⟩:=bind_some h
  obtain⟨TS,Us,h⟩:=bind_some h
  obtain⟨TT,Np,h⟩:=bind_some h
  obtain⟨TU,h51,h⟩:=bind_some h
  obtain⟨TV,Ut,h⟩:=bind_some h
  obtain⟨TW,Nq,h⟩:=bind_some h
  obtain⟨TX,h54,h⟩:=bind_some h
  obtain⟨TY,Nr,h⟩:=bind_some h
  obtain⟨TZ,h56,h⟩:=bind_some h
  obtain⟨T0,Uu,h⟩:=bind_some h
  obtain⟨T1,Ns,h⟩:=bind_some h
  obtain⟨T2,h59,h⟩:=bind_some h
  obtain⟨T3,Nt,h⟩:=bind_some h
  obtain⟨T4,h61,h⟩:=bind_some h
  obtain⟨T5,h62,h⟩:=bind_some h
  obtain⟨T6,xz,h⟩:=bind_some h
  obtain⟨T7,Nu,h⟩:=bind_some h
  obtain⟨T8,h65,h⟩:=bind_some h
  obtain⟨T9,Uv,h⟩:=bind_some h
  obtain⟨Ua,Nv,h⟩:=bind_some h
  obtain⟨Ub,h68,h⟩:=bind_some h
  obtain⟨Uc,Uw,h⟩:=bind_some h
  obtain⟨Ud,Nw,h⟩:=bind_some h
  obtain⟨Ue,h71,h⟩:=bind_some h
  obtain⟨Uf,Nx,h⟩:=bind_some h
  obtain⟨Ug,h73,h⟩:=bind_some h
  obtain⟨Uh,Ux,h⟩:=bind_some h
  injection h with h
  subst h
  exact(.cons (V.aO h0) (.cons (V.aO h1) (.cons (V.aO h2) (.cons (V.aO h3) (.cons (V.aO h4) (.cons (V.aO h5) (.cons (V.aO h6) (.cons (V.aO h7) (.cons (V.aO h8) (.cons (V.aO h9) (.cons (V.aO fI) (.cons (V.aO fT) (.cons (V.aO fX) (.cons (V.aO ia) (.cons (V.aO gN) (.cons (V.aO fC) (.cons (V.aO iY) (.cons (V.aO jU) (.cons (V.aO oG) (.cons (V.aO rJ) (.cons (V.aO nK) (.cons (V.aO qt) (.cons (V.lZ s7) (.cons (V.aO xA) (.cons (V.aO oH) (.cons (V.aO Nd) (.cons (V.aO CZ) (.cons (V.aO Nf) (.cons (V.aO Un) (.cons (V.aO Hp) (.cons (V.aO Ng) (.cons (V.aO Nh) (.cons (V.aO Uo) (.cons (V.dD Ni) (.cons (V.aO h34) (.cons (V.aO Up) (.cons (V.aO Nj) (.cons (V.aO h37) (.cons (V.aO Nk) (.cons (V.aO h39) (.cons (V.aO Uq) (.cons (V.dD Nl) (.cons (V.aO h42) (.cons (V.aO Nm) (.cons (V.lZ h44) (.cons (V.aO h45) (.cons (V.dD Ur) (.cons (V.aO Nn) (.cons (V.dD h48) (.cons (V.dD Us) (.cons (V.dD Np) (.cons (V.dD h51) (.cons (V.dD Ut) (.cons (V.aO Nq) (.cons (V.dD h54) (.cons (V.dD Nr) (.cons (V.aO h56) (.cons (V.lZ Uu) (.cons (V.dD Ns) (.cons (V.dD h59) (.cons (V.dD Nt) (.cons (V.dD h61) (.cons (V.dD h62) (.cons (V.lZ xz) (.cons (V.aO Nu) (.cons (V.aO h65) (.cons (V.aO Uv) (.cons (V.aO Nv) (.cons (V.aO h68) (.cons (V.aO Uw) (.cons (V.aO Nw) (.cons (V.aO h71) (.cons (V.dD Nx) (.cons (V.dD h73) (.cons (V.dD Ux) bJ.nil)))))))))))))))))))))))))))))))))))))))))))))))))))))))))))))))))))))))))))
 ·cases h
theorem ahv(o:Nat)(cs:List V)(x:Hf)(h:M9 o cs=some x):bJ cs (CO o x):=by
 unfold M9 at h
 split at h
 ·obtain⟨x0,h0,h⟩:=bind_some h
  obtain⟨x1,h1,h⟩:=bind_some h
  obtain⟨x2,h2,h⟩:=bind_some h
  obtain⟨x3,h3,h⟩:=bind_some h
  obtain⟨x4,h4,h⟩:=bind_some h
  obtain⟨x5,h5,h⟩:=bind_some h
  obtain⟨x6,h6,h⟩:=bind_some h
  obtain⟨x7,h7,h⟩:=bind_some h
  obtain⟨x8,h8,h⟩:=bind_some h
  obtain⟨x9,h9,h⟩:=bind_some h
  obtain⟨nB,fI,h⟩:=bind_some h
  obtain⟨nD,fT,h⟩:=bind_some h
  obtain⟨nE,fX,h⟩:=bind_some h
  obtain⟨nG,ia,h⟩:=bind_some h
  obtain⟨nH,gN,h⟩:=bind_some h
  obtain⟨nI,fC,h⟩:=bind_some h
  obtain⟨nJ,iY,h⟩:=bind_some h
  obtain⟨vt,jU,h⟩:=bind_some h
  obtain⟨vu,oG,h⟩:=bind_some h
  obtain⟨vw,rJ,h⟩:=bind_some h
  injection h with h
  subst h
  exact(.cons (V.aO h0) (.cons (V.aO h1) (.cons (V.aO h2) (.cons (V.aO h3) (.cons (V.lZ h4) (.cons (V.aO h5) (.cons (V.aO h6) (.cons (V.aO h7) (.cons (V.aO h8) (.cons (V.aO h9) (.cons (V.aO fI) (.cons (V.aO fT) (.cons (V.aO fX) (.cons (V.aO ia) (.cons (V.aO gN) (.cons (V.aO fC) (.cons (V.aO iY) (.cons (V.dD jU) (.cons (V.aO oG) (.cons (V.aO rJ) bJ.nil))))))))))))))))))))
 ·cases h
theorem ahw(o:Nat)(cs:List V)(x:Hg)(h:Na o cs=some x):bJ cs (Ax o x):=by
 unfold Na at h
 split at h
 ·obtain⟨x0,h0,h⟩:=bind_some h
  obtain⟨x1,h1,h⟩:=bind_some h
  obtain⟨x2,h2,h⟩:=bind_some h
  injection h with h
  subst h
  exact(.cons (V.aO h0) (.cons (V.aO h1) (.cons (V.aO h2) bJ.nil)))
 ·cases h
theorem ahx(o:Nat)(cs:List V)(x:Hh)(h:Nb o cs=some x):bJ cs (CP o x):=by
 unfold Nb at h
 split at h
 ·obtain⟨x0,h0,h⟩:=bind_some h
  obtain⟨x1,h1,h⟩:=bind_some h
  obtain⟨x2,h2,h⟩:=bind_some h
  injection h with h
  subst h
  exact(.cons (V.dD h0) (.cons (V.aO h1) (.cons (V.aO h2) bJ.nil)))
 ·cases h
theorem Az{α:Type}{f:V->Option α}{g:α->V}(hf:∀ x a,f x=some a->Wk x (g a)){cs:List V}{x:α}(h:vz f cs=some x):bJ cs [g x]:=by
 unfold vz at h
 split at h
 ·exact .cons (hf _ _ h) .nil
 ·cases h
theorem ahy{α:Type}{f:List V->Option α}{g:α->List V}(hf:∀ x a,f x=some a->bJ x (g a)){cs:List V}{x:α}(h:Nc f cs=some x):bJ cs (.bool true :: g x):=by
 unfold Nc at h
 split at h
 ·exact .cons (.same _) (hf _ _ h)
 ·cases h
theorem Hq{α:Type}{n:Nat}{f:List V->Option α}{g:α->List V}(hf:∀ x a,f x=some a->bJ x (g a)){cs:List V}{x:α}(h:Ay n f cs=some x):bJ cs (.bool false :: .int .i64 (n:Int) :: g x):=by
 unfold Ay at h
 split at h
 ·split at h
  ·rename_i hn
   subst hn
   exact .cons (.same _) (.cons (.same _) (hf _ _ h))
  ·cases h
 ·cases h
theorem mK:(t:TC)->(o:Nat)->(cs:List V)->(x:T t)->dec t o cs=some x->bJ cs (enc t o x)
 | .int,_,_,_,h=>Az (g:=fun n=>.int .i64 n) (fun _ _=>V.aO) h
 | .u8,_,_,_,h=>Az (g:=fun n=>.int .u8 n) (fun _ _=>V.agV) h
 | .bool,_,_,_,h=>Az (g:=fun n=>.bool n) (fun _ _=>V.lZ) h
 | .str,_,_,_,h=>Az (g:=fun n=>.str n) (fun _ _=>V.agW) h
 | .dO,o,cs,x,h=>agX o cs x h
 | .Addr,o,cs,x,h=>Uj o cs x h
 | .lD,o,cs,x,h=>agY o cs x h
 | .ve,o,cs,x,h=>agZ o cs x h
 | .Command,o,cs,x,h=>Uk o cs x h
 | .fB,o,cs,x,h=>ag0 o cs x h
 | .eF,o,cs,x,h=>ag1 o cs x h
 | .gM,o,cs,x,h=>ag2 o cs x h
 | .Event,o,cs,x,h=>ag3 o cs x h
 | .kJ,o,cs,x,h=>ag4 o cs x h
 | .Cell,o,cs,x,h=>ag5 o cs x h
 | .Array,o,cs,x,h=>ag6 o cs x h
 | .oB,o,cs,x,h=>ag7 o cs x h
 | .gy,o,cs,x,h=>ag8 o cs x h
 | .jk,o,cs,x,h=>ag9 o cs x h
 | .jH,o,cs,x,h=>aha o cs x h
 | .cZ,o,cs,x,h=>Ul o cs x h
 | .dI,o,cs,x,h=>ahb o cs x h
 | .lE,o,cs,x,h=>ahc o cs x h
 | .vf,o,cs,x,h=>ahd o cs x h
 | .vg,o,cs,x,h=>ahe o cs x h
 | .Power,o,cs,x,h=>ahf o cs x h
 | .lF,o,cs,x,h=>ahg o cs x h
 | .eG,o,cs,x,h=>ahh o cs x h
 | .vh,o,cs,x,h=>ahi o cs x h
 | .vi,o,cs,x,h=>ahj o cs x h
 | .Receiver,o,cs,x,h=>ahk o cs x h
 | .Node,o,cs,x,h=>ahl o cs x h
 | .Tree,o,cs,x,h=>ahm o cs x h
 | .vj,o,cs,x,h=>ahn o cs x h
 | .oC,o,cs,x,h=>aho o cs x h
 | .vk,o,cs,x,h=>ahp o cs x h
 | .Move,o,cs,x,h=>ahq o cs x h
 | .kK,o,cs,x,h=>ahr o cs x h
 | .ny,o,cs,x,h=>ahs o cs x h
 | .Config,o,cs,x,h=>aht o cs x h
 | .hJ,o,cs,x,h=>ahu o cs x h
 | .cG,o,cs,x,h=>Um o cs x h
 | .Act,o,cs,x,h=>ahv o cs x h
 | .Fact,o,cs,x,h=>ahw o cs x h
 | .vl,o,cs,x,h=>ahx o cs x h
 | .sl t,o,_,_,h=>Az (g:=fun n=>.sl t o false n) (fun _ _=>V.dD) h
 | .jT,o,_,_,h=>ahy (g:=vr o) (Um o) h
 | .vm g,o,_,_,h=>Hq (g:=fun n=>[.int .i64 n]) (fun _ _ h=>Az (g:=fun n=>.int .i64 n) (fun _ _=>V.aO) h) h
 | .Ad g,o,_,_,h=>Hq (g:=vp o) (Ul o) h
 | .Ae g,o,_,_,h=>Hq (g:=vn o) (Uj o) h
 | .fnCommand g,o,_,_,h=>Hq (g:=vo o) (Uk o) h
def V.low(n:Nat):V->Bool
 | .sl t _ _ _=>Nat.ble (full t+2) n
 | _=>true
theorem Hr(t:TC)(o:Nat)(x:T t):∀ y∈enc t o x,y.low (full t)=true:=by
 cases t <;>simp[enc,V.low,full,Af,vn,Ag,Cx,vo,Ah,Ai,Cy,Aj,Cz,CA,CB,Ak,CC,CD,CE,vp,Al,Am,CF,An,Ao,Ap,Aq,CG,CH,CI,As,CJ,CK,At,CL,Au,CM,CN,Av,Aw,vr,CO,Ax,CP]
def V.plain:V->Bool
 | .int _ _ | .bool _ | .str _=>true
 | _=>false
theorem C0(t:TC)(o:Nat)(x:T t)(h:full t=0):∀ y∈enc t o x,y.plain=true:=by
 cases t <;>first | (simp[full]at h;done) | simp[enc,V.plain,Af,vn,Ag,vo,Ah,Ai,Aj,Ak,vp,Al,Am,An,Ao,Ap,Aq,As,At,Au,Av,Aw,Ax]
def V.rK:V->Bool
 | .nil=>false
 | _=>true
theorem Uy(t:TC)(o:Nat)(x:T t):∀ y∈enc t o x,y.rK=true:=by
 cases t <;>simp[enc,V.rK,Af,vn,Ag,Cx,vo,Ah,Ai,Cy,Aj,Cz,CA,CB,Ak,CC,CD,CE,vp,Al,Am,CF,An,Ao,Ap,Aq,CG,CH,CI,As,CJ,CK,At,CL,Au,CM,CN,Av,Aw,vr,CO,Ax,CP]
def tcs:List TC:=[.int,.u8,.bool,.str,.sl .int,.sl .bool,.sl .str,.dO,.Addr,.lD,.ve,.Command,.fB,.eF,.gM,.Event,.kJ,.Cell,.Array,.oB,.gy,.jk,.jH,.cZ,.dI,.lE,.vf,.vg,.Power,.lF,.eG,.vh,.vi,.Receiver,.Node,.Tree,.vj,.oC,.vk,.Move,.kK,.ny,.Config,.hJ,.cG,.Act,.Fact,.vl]
def Uz(e:TypeId):Option TC:=tcs.find? fun t=>Nat.beq (tid t) e
theorem ahz{e:TypeId}{t:TC}(h:Uz e=some t):tid t=e:=Nat.eq_of_beq_eq_true (List.find?_some (p:=fun t=>Nat.beq (tid t) e) h)
def V.gr(o:Nat):V->Bool
 | .sl _ o' _ _=>o'==o
 | _=>true
theorem s8(t:TC)(o:Nat)(x:T t):∀ y∈enc t o x,y.gr o=true:=by
 cases t <;>simp[enc,V.gr,Af,vn,Ag,Cx,vo,Ah,Ai,Cy,Aj,Cz,CA,CB,Ak,CC,CD,CE,vp,Al,Am,CF,An,Ao,Ap,Aq,CG,CH,CI,As,CJ,CK,At,CL,Au,CM,CN,Av,Aw,vr,CO,Ax,CP]
def V.ah:V->Bool
 | .sl _ o _ _=>decide (o<2)
 | _=>true
def V.iZ:V->V
 | .sl t _ q l=>.sl t 0 q l
 | x=>x
theorem jl(t:TC)(o:Nat)(x:T t)(ho:o<2)(j:Nat)(y:V)(h:(enc t o x)[j]?=some y):y.ah=true:=by
 have:=s8 t o x y (List.mem_of_getElem? h)
 cases y <;>simp_all [V.gr,V.ah]
theorem UA(t:TC)(o:Nat)(x:T t):enc t 0 x=(enc t o x).map V.iZ:=by cases t <;>rfl
theorem s9(t:TC)(o:Nat)(x:T t)(j:Nat)(y:V)(h:(enc t 0 x)[j]?=some y):∃ z,(enc t o x)[j]?=some z/\y=z.iZ:=by
 rw[UA t o x,List.getElem?_map]at h
 cases hz:(enc t o x)[j]? with
 | none=>rw[hz]at h;cases h
 | some z=>rw[hz]at h;injection h with h;exact⟨z,rfl,h.symm⟩
def inner:Nat->Nat
 | 0=>0
 | 1=>1
 | n+2=>n
abbrev bq:=Nat->Option (List Nat)
inductive RV (w:World) (B:Nat) (af:bq):List Nat->V->Value->Prop
 | int (q:List Nat) (k:IntKind) (n:Int):RV w B af q (.int k n) (.int k n)
 | bool (q:List Nat) (b:Bool):RV w B af q (.bool b) (.bool b)
 | str (q:List Nat) (s:ByteArray):RV w B af q (.str s) (.string s)
 | nil (q:List Nat):RV w B af q .nil (.slice none 0 0)
 | cD (q:List Nat) (t:TC) (o:Nat):RV w B af q (.sl t o false []) (.slice none 0 0)
 | cK (q:List Nat) (t:TC) (o:Nat) (A:Addr) (c:Nat) (ho:o<2):RV w B af q (.sl t o false []) (.slice (some A) 0 c)
 | cW (q:List Nat) (t:TC) (o:Nat) (A:Addr) (c:Nat) (ho:o<2):RV w B af q (.sl t o true []) (.slice (some A) 0 c)
 | ah (q:List Nat) (t:TC) (o:Nat) (qn:Bool) (l:List (T t)) (b off cap:Nat) (u:Nat->Nat->Value) (ho:o<2) (hl:af b=none) (hb:b<w.heap.size) (h1:o=1->B<=b) (dP:l.length<=cap)
   (hc:∀ i (h:i<l.length) j x,(enc t o l[i])[j]?=some x->w.cell? ⟨b,off+(i*aB t+j),none⟩=some (u i j))
   (hr:∀ i (h:i<l.length) j x,(enc t o l[i])[j]?=some x->RV w B af [] x (u i j)):RV w B af q (.sl t o qn l) (.slice (some ⟨b,off,none⟩) l.length cap)
 | own (q:List Nat) (t:TC) (o:Nat) (qn:Bool) (l:List (T t)) (b cap:Nat) (cs:Array Value) (u:Nat->Nat->Value) (hl:af b=some q) (hh:w.heap[b]?=some (.cells cs (tid t) (0,0)))
   (hs:cs.size=cap*aB t) (hn:l.length<=cap) (hm:cap<=maxLen/\(qn=true->cap=l.length))
   (hc:∀ i (h:i<l.length) j x,(enc t o l[i])[j]?=some x->cs[i*aB t+j]?=some (u i j))
   (hr:∀ i (h:i<l.length) j x,(enc t o l[i])[j]?=some x->RV w B af (j :: i :: aB t :: q) x (u i j)):RV w B af q (.sl t (o+2) qn l) (.slice (some ⟨b,0,none⟩) l.length cap)
section
variable {w w':World} {B:Nat} {af ax:bq}
def V.C1(n:Nat):V->V
 | .sl t _ q l=>.sl t n q l
 | x=>x
theorem ahA(t:TC)(o n:Nat)(x:T t):enc t n x=(enc t o x).map (V.C1 n):=by cases t <;>rfl
def V.fu(n:Nat):V->Prop
 | .sl t o _ _=>full t+2<=o/\full t+2<=n
 | _=>True
theorem RV.C1{q:List Nat}{x:V}{v:Value}(h:RV w B af q x v):∀ n,x.fu n->RV w B af q (x.C1 n) v:=by
 induction h with
 | int=>exact fun _ _=>.int _ _ _
 | bool=>exact fun _ _=>.bool _ _
 | str=>exact fun _ _=>.str _ _
 | nil=>exact fun _ _=>.nil _
 | cD=>exact fun _ _=>.cD _ _ _
 | cK q t o A c ho=>exact fun n hn=>by have:=hn.1;omega
 | cW q t o A c ho=>exact fun n hn=>by have:=hn.1;omega
 | ah q t o qn l b off cap u ho hl hb h1 dP hc hr ih=>exact fun n hn=>by have:=hn.1;omega
 | own q t o qn l b cap cs u hl hh hs hn hm hc hr ih=>
  intro n hf
  obtain⟨h1,h2⟩:=hf
  obtain⟨m,rfl⟩:∃ m,n=m+2:=⟨n-2,by omega⟩
  have key:∀ (i:Nat) (h:i<l.length) (j:Nat) (x:V),(enc t m l[i])[j]?=some x->∃ y:V,(enc t o l[i])[j]?=some y/\y.C1 m=x/\y.fu m:=by
   intro i h j x hx
   rw[ahA t o m l[i],List.getElem?_map]at hx
   cases hy:(enc t o l[i])[j]? with
   | none=>rw[hy]at hx;cases hx
   | some y=>
    rw[hy]at hx
    injection hx with hx
    refine⟨y,rfl,hx,?_⟩
    have g1:=s8 t o l[i] y (List.mem_of_getElem? hy)
    have g2:=Hr t o l[i] y (List.mem_of_getElem? hy)
    cases y with
    | sl t' o' q' l'=>
     have e:o'=o:=by simpa [V.gr]using g1
     have:=Nat.le_of_ble_eq_true (show Nat.ble (full t'+2) (full t)=true from g2)
     exact⟨by omega,by omega⟩
    | _=>trivial
  refine .own _ _ _ _ _ _ _ cs u hl hh hs hn hm (fun i h j x hx=>?_) (fun i h j x hx=>?_)
  ·obtain⟨y,hy,_⟩:=key i h j x hx
   exact hc i h j y hy
  ·obtain⟨y,hy,rfl,hf⟩:=key i h j x hx
   exact ih i h j y hy m hf
theorem RV.wk{q:List Nat}{x y:V}{v:Value}(h:RV w B af q x v)(k:Wk x y):RV w B af q y v:=by
 cases k with
 | same=>exact h
 | nil t o=>cases h;exact .cD _ _ _
 | gr t o o' qn l h1 h2=>
  have h:=h.C1 o ⟨h2,h1⟩
  have h:RV w B af q (.sl t o qn l) v:=h
  cases h with
  | cD=>exact .cD _ _ _
  | cK q t o A c ho=>exact .cK _ _ _ _ _ ho
  | cW q t o A c ho=>exact .cK _ _ _ _ _ ho
  | ah q t o qn l b off cap u ho hl hb h1 dP hc hr=>exact .ah _ _ _ _ _ _ _ _ u ho hl hb h1 dP hc hr
  | own q t o qn l b cap cs u hl hh hs hn hm hc hr=>exact .own _ _ _ _ _ _ _ cs u hl hh hs hn ⟨hm.1,fun h=>by cases h⟩ hc hr
 | q t o l=>
  cases h with
  | cW q t o A c ho=>exact .cK _ _ _ _ _ ho
  | ah q t o qn l b off cap u ho hl hb h1 dP hc hr=>exact .ah _ _ _ _ _ _ _ _ u ho hl hb h1 dP hc hr
  | own q t o qn l b cap cs u hl hh hs hn hm hc hr=>exact .own _ _ _ _ _ _ _ cs u hl hh hs hn ⟨hm.1,fun h=>by cases h⟩ hc hr
theorem RV.key{q q':List Nat}{x:V}{v:Value}(h:RV w B af q x v)(hf:x.ah=true):RV w B af q' x v:=by
 cases h with
 | int=>exact .int _ _ _
 | bool=>exact .bool _ _
 | str=>exact .str _ _
 | nil=>exact .nil _
 | cD=>exact .cD _ _ _
 | cK=>exact .cK _ _ _ _ _ (by first | assumption | omega)
 | cW=>exact .cW _ _ _ _ _ (by first | assumption | omega)
 | ah q t o qn l b off cap u ho hl hb h1 dP hc hr=>exact .ah _ _ _ _ _ _ _ _ u ho hl hb h1 dP hc hr
 | own q t o qn l b cap cs u hl hh hs hn hm hc hr=>simp[V.ah]at hf;omega
def jV:Value->Bool
 | .slice ..=>true
 | _=>false
theorem RV.Hs{q:List Nat}{x:V}{u:Value}(h:RV w B af q x u)(hf:x.ah=false):jV u=true:=by
 cases h <;>first | rfl | cases hf
theorem RV.one{q:List Nat}{x:V}{u:Value}(h:RV w B af q x u):u.oneCell'=true:=by
 cases h <;>rfl
theorem RV.fk{q:List Nat}{x:V}{v:Value}(h:RV w B af q x v)(hz:w.heap.size<=w'.heap.size)(hk:∀ b,b<w.heap.size->w'.heap[b]?=w.heap[b]?/\ax b=af b):RV w' B ax q x v:=by
 induction h with
 | int=>exact .int _ _ _
 | bool=>exact .bool _ _
 | str=>exact .str _ _
 | nil=>exact .nil _
 | cD=>exact .cD _ _ _
 | cK=>exact .cK _ _ _ _ _ (by first | assumption | omega)
 | cW=>exact .cW _ _ _ _ _ (by first | assumption | omega)
 | ah q t o qn l b off cap u ho hl hb h1 dP hc hr ih=>
  exact .ah _ _ _ _ _ _ _ _ u ho ((hk b hb).2.trans hl) (Nat.lt_of_lt_of_le hb hz) h1 dP (fun i h j x hx=>(World.cell?_of_block (a:=⟨b,_,none⟩) (hk b hb).1).trans (hc i h j x hx)) ih
 | own q t o qn l b cap cs u hl hh hs hn hm hc hr ih=>
  have hb:b<w.heap.size:=(Array.getElem?_eq_some_iff.1 hh).1
  exact .own _ _ _ _ _ _ _ cs u ((hk b hb).2.trans hl) ((hk b hb).1.trans hh) hs hn hm hc ih
theorem RV.apart{q kt:List Nat}{x:V}{v:Value}{bt:Nat}(h:RV w B af q x v)(AA:af bt=some kt)(hq:¬ q <:+ kt\/x.ah=true)(hz:w.heap.size<=w'.heap.size)(hk:∀ b,b≠bt->w'.heap[b]?=w.heap[b]?):RV w' B af q x v:=by
 induction h with
 | int=>exact .int _ _ _
 | bool=>exact .bool _ _
 | str=>exact .str _ _
 | nil=>exact .nil _
 | cD=>exact .cD _ _ _
 | cK=>exact .cK _ _ _ _ _ (by first | assumption | omega)
 | cW=>exact .cW _ _ _ _ _ (by first | assumption | omega)
 | ah q t o qn l b off cap u ho hl hb h1 dP hc hr ih=>
  have aV:b≠bt:=by rintro rfl;rw[hl]at AA;cases AA
  refine .ah _ _ _ _ _ _ _ _ u ho hl (Nat.lt_of_lt_of_le hb hz) h1 dP (fun i h j x hx=>(World.cell?_of_block (a:=⟨b,_,none⟩) (hk b aV)).trans (hc i h j x hx)) (fun i h j x hx=>ih i h j x hx (.inr (jl t o l[i] ho j x hx)))
 | own q t o qn l b cap cs u hl hh hs hn hm hc hr ih=>
  have jW:¬ q <:+ kt:=by
   rcases hq with hq | hq
   ·exact hq
   ·simp[V.ah]at hq;omega
  have aV:b≠bt:=by rintro rfl;rw[hl]at AA;injection AA with AA;subst AA;exact jW (List.suffix_refl _)
  refine .own _ _ _ _ _ _ _ cs u hl ((hk b aV).trans hh) hs hn hm hc (fun i h j x hx=>ih i h j x hx (.inl fun hs=>jW (List.IsSuffix.trans ⟨[j,i,aB t],rfl⟩ hs)))
theorem RV.iZ{q q':List Nat}{x:V}{v:Value}(h:RV w B af q x v){B':Nat}:RV w B' (fun _=>none) q' x.iZ v:=by
 induction h generalizing q' with
 | int=>exact .int _ _ _
 | bool=>exact .bool _ _
 | str=>exact .str _ _
 | nil=>exact .nil _
 | cD=>exact .cD _ _ _
 | cK=>exact .cK _ _ _ _ _ (by first | assumption | omega)
 | cW=>exact .cW _ _ _ _ _ (by first | assumption | omega)
 | ah q t o qn l b off cap u ho hl hb h1 dP hc hr ih=>
  refine .ah _ _ _ _ _ _ _ _ u (by omega) rfl hb (by omega) dP (fun i h j x hx=>?_) (fun i h j x hx=>?_)
  ·obtain⟨y,hy,_⟩:=s9 t o l[i] j x hx
   exact hc i h j y hy
  ·obtain⟨y,hy,rfl⟩:=s9 t o l[i] j x hx
   exact ih i h j y hy
 | own q t o qn l b cap cs u hl hh hs hn hm hc hr ih=>
  refine .ah _ _ _ _ _ _ _ _ u (by omega) rfl (Array.getElem?_eq_some_iff.1 hh).1 (by omega) hn (fun i h j x hx=>?_) (fun i h j x hx=>?_)
  ·obtain⟨y,hy,_⟩:=s9 t o l[i] j x hx
   have:=hc i h j y hy
   rw[Nat.zero_add,cell_of_row w b _ cs _ _ hh]
   exact this
  ·obtain⟨y,hy,rfl⟩:=s9 t o l[i] j x hx
   exact ih i h j y hy
end
end Go.Proofs.YtinbifpbkcbnkaaGreat
namespace Go.Proofs.YtinbifpbkcbnkaaGreat
open Go.RowKit
set_option linter.unusedVariables false
inductive Lf where
 | v (x:V)
 | own (k:List Nat)
 | dead
inductive A where
 | undef
 | skip
 | lf (x:Lf)
 | agg (cs:List Lf)
 | cq (xs:List (Bool×List Lf))
 | ptr (k:List Nat)
 | aC (r j:Nat)
 | gz (cs:List V)
 | kN (f:Nat) (cs:List V)
 | pk (r n:Nat)
 | view (k:List Nat) (s i j:Nat)
 | fn (f:Nat) (cap:List (Nat×Nat))
inductive aP where
 | ak (cs:List Lf)
 | sl (y:V)
 | mp (l:List (Int×Bool))
 | gh (xs:List A)
structure S where
 t:Nat->A
 m:Nat->Option aP
inductive Loc where
 | ak (b off:Nat)
 | dJ (v:Value)
 | bZ (us:List Value)
def addrAt(w:World)(af:bq)(ρ:Nat->Loc):List Nat->Option Addr
 | j :: i :: s :: [r]=>match ρ r with
  | .dJ (.slice (some ⟨b,0,none⟩) _ _)=>if af b=some [r]then some ⟨b,i*s+j,none⟩else none
  | _=>none
 | j :: i :: s :: q=>match (addrAt w af ρ q).bind w.cell? with
  | some (.slice (some ⟨b,0,none⟩) _ _)=>if af b=some q then some ⟨b,i*s+j,none⟩else none
  | _=>none
 | _=>none
def cc(w:World)(af:bq)(ρ:Nat->Loc):List Nat->Option Value
 | [r]=>match ρ r with
  | .dJ v=>some v
  | _=>none
 | q=>(addrAt w af ρ q).bind w.cell?
def cL(w:World)(B:Nat)(af:bq)(ρ:Nat->Loc):Lf->Value->Prop
 | .v x,u=>x.ah=true/\RV w B af [] x u
 | .own k,u=>jV u=true/\cc w af ρ k=some u
 | .dead,_=>True
def cX(w:World)(B:Nat)(af:bq)(ρ:Nat->Loc)(cs:List Lf)(us:Array Value):Prop:=
 us.size=cs.length/\∀ (j:Nat) x,cs[j]?=some x->∃ u,us[j]?=some u/\cL w B af ρ x u
def RP(w:World)(B:Nat)(af:bq)(ρ:Nat->Loc)(p:Bool×List Lf)(u:Value):Prop:=
 match p with
 | (true,cs)=>∃ us,u = .agg us/\cX w B af ρ cs us
 | (false,cs)=>cX w B af ρ cs #[u]
def nL:Nat:=4294967296
def Ht(b n:Nat):Value:=bif Nat.beq n nL then .map (some b)else .slice (some ⟨b,0,none⟩) n n
theorem Ny{b n:Nat}(h:n<nL):Ht b n = .slice (some ⟨b,0,none⟩) n n:=by
 unfold Ht
 cases hb:Nat.beq n nL with
 | true=>have:=Nat.eq_of_beq_eq_true hb;omega
 | false=>rfl
theorem Nz(b:Nat):Ht b nL = .map (some b):=rfl
def RF(w:World)(B:Nat)(af:bq)(cs:List V)(u:Value):Prop:=
 ∃ b off,u = .pointer (some ⟨b,off,none⟩)/\b<w.heap.size/\af b=none/\∀ (j:Nat) x,cs[j]?=some x->x.ah=true/\∃ v,w.cell? ⟨b,off+j,none⟩=some v/\RV w B af [] x v
def RA(w:World)(B:Nat)(af:bq)(ρ:Nat->Loc):A->Value->Prop
 | .undef,_=>True
 | .skip,u=>u=Go.undef
 | .lf x,u=>cL w B af ρ x u
 | .agg cs,u=>RP w B af ρ (true,cs) u
 | .cq xs,u=>∃ us:Array Value,u = .tuple us/\us.size=xs.length/\∀ (j:Nat) p,xs[j]?=some p->∃ v,us[j]?=some v/\RP w B af ρ p v
 | .ptr k,u=>∃ ad,u = .pointer (some ad)/\addrAt w af ρ k=some ad
 | .aC r j,u=>∃ b off,ρ r = .ak b off/\u = .pointer (some ⟨b,off+j,none⟩)
 | .gz cs,u=>RF w B af cs u
 | .kN f cs,u=>∃ pv,u = .func (.func f) #[] #[pv]/\RF w B af cs pv
 | .pk r n,u=>∃ b,ρ r = .ak b 0/\u=Ht b n
 | .view k s i j,u=>∃ A n c,cc w af ρ k=some (.slice A n c)/\i<=j/\j<=n/\u=sliced A i j c s
 | .fn f cap,u=>∃ vs:Array Value,u = .func (.func f) #[] vs/\vs.size=cap.length/\∀ (j:Nat) p,cap[j]?=some p->∃ b off,ρ p.1 = .ak b off/\vs[j]?=some (.pointer (some ⟨b,off+p.2,none⟩))
inductive dK (w:World) (B:Nat) (af:bq) (ρ:Nat->Loc) (r:Nat):aP->Prop
 | ak (b off:Nat) (cells:Array Value) (e:TypeId) (cs:List Lf) (us:Nat->Value) (aK:ρ r = .ak b off) (hl:af b=some [r]) (hh:w.heap[b]?=some (.cells cells e (0,0))) (hs:off+cs.length<=cells.size)
   (hc:∀ (j:Nat) x,cs[j]?=some x->cells[off+j]?=some (us j)/\cL w B af ρ x (us j)):dK w B af ρ r (.ak cs)
 | sl (v:Value) (y:V) (aK:ρ r = .dJ v) (hr:RV w B af [r] y v):dK w B af ρ r (.sl y)
 | mp (b clock:Nat) (es:Array MapEntry) (l:List (Int×Bool)) (aK:ρ r = .ak b 0) (hl:af b=some [r]) (hh:w.heap[b]?=some (.map es clock)) (he:es.toList.map (fun e=>(e.key,e.val))=l.map fun p=>(.int .i64 p.1,.bool p.2)):dK w B af ρ r (.mp l)
 | gh (us:List Value) (xs:List A) (aK:ρ r = .bZ us) (hx:∀ (j:Nat) x,xs[j]?=some x->RA w B af ρ x (us.getD j undef)):dK w B af ρ r (.gh xs)
def Qw(_:World):Prop:=True
structure ahB (n:Nat) (L:bq) (w w':World):Prop where
 os:w'.os=w.os
 tape:w'.tape=w.tape
 output:w'.output=w.output
 size:w.heap.size<=w'.heap.size
 block:∀ k,k<n->L k=none->w'.heap[k]?=w.heap[k]?
def Hd(w:World)(L:bq):Prop:=∀ w',ahB w.heap.size L w w'->Qw w'
theorem ahC(w:World)(L:bq):Hd w L:=fun _ _=>trivial
structure Wd where
 w:World
 L:bq
 F:Nat->Option Loc
 held:Hd w L
 low:∀ r,r<20000->F r=none
def Wd.heap(d:Wd):Array Obj:=d.w.heap
def Wd.of(w:World)(h:Hd w fun _=>none):Wd:=⟨w,fun _=>none,fun _=>none,h,fun _ _=>rfl⟩
structure iE (d:Wd) (w w':World):Prop where
 os:w'.os=w.os
 tape:w'.tape=w.tape
 output:w'.output=w.output
 size:w.heap.size<=w'.heap.size
 block:∀ k,k<d.heap.size->d.L k=none->w'.heap[k]?=w.heap[k]?
theorem iE.trans{d:Wd}{a b c:World}(h:iE d a b)(k:iE d b c):iE d a c:=
 ⟨k.os.trans h.os,k.tape.trans h.tape,k.output.trans h.output,Nat.le_trans h.size k.size,fun i hi hl=>(k.block i hi hl).trans (h.block i hi hl)⟩
theorem Wd.on(d:Wd){w:World}(h:iE d d.w w){L:bq}(hL:∀ b k,L b=some k->d.heap.size<=b\/d.L b≠none):Hd w L:=fun w' hb=>
 d.held w' ⟨hb.os.trans h.os,hb.tape.trans h.tape,hb.output.trans h.output,Nat.le_trans h.size hb.size,fun k hk hl=>by
  have e:L k=none:=by
   cases e:L k with
   | none=>rfl
   | some q=>
    rcases hL k q e with h1 | h1
    ·exact absurd hk (Nat.not_lt.2 h1)
    ·exact absurd hl h1
  exact(hb.block k (Nat.lt_of_lt_of_le hk h.size) e).trans (h.block k hk hl)⟩
theorem iE.of{d:Wd}{a b:World}{B:Nat}(h:Below B a b)(hB:d.heap.size<=B):iE d a b:=
 ⟨h.os,h.tape,h.output,h.size,fun i hi _=>h.block i (Nat.lt_of_lt_of_le hi hB)⟩
structure Rl (w0:Wd) (N:Nat) (af:bq) (ρ:Nat->Loc) (σ:S) (a:Act) (w:World):Prop where
 below:iE w0 w0.w w
 cH:∀ b k,af b=some k->(w0.heap.size<=b\/w0.L b≠none)/\b<w.heap.size/\k≠[]
 root:∀ r x,σ.m r=some x->dK w w0.heap.size af ρ r x
 tmp:∀ k,RA w w0.heap.size af ρ (σ.t k) (a.tmps.getD k undef)
 size:a.tmps.size=N
 defers:a.defers=[]
 fix:∀ r l,w0.F r=some l->ρ r=l
 eg:∀ r,(r<N\/60000<=r)->w0.F r=none
def R(w0:Wd)(N:Nat)(σ:S)(a:Act)(w:World):Prop:=∃ af ρ,Rl w0 N af ρ σ a w
/-! Reading along a key. -/
inductive rL (m:Nat->Option aP):List Nat->V->Prop
 | root (r:Nat) (y:V) (h:m r=some (.sl y)):rL m [r] y
 | elem (j i:Nat) (q:List Nat) (t:TC) (o:Nat) (qn:Bool) (l:List (T t)) (y:V) (h:rL m q (.sl t (o+2) qn l)) (hi:i<l.length) (hy:(enc t o l[i])[j]?=some y):rL m (j :: i :: aB t :: q) y
section
variable {w w':World} {w0:Wd} {B N:Nat} {af ax:bq} {ρ ρ':Nat->Loc} {m:Nat->Option aP} {σ:S} {a:Act}
theorem xB{q:List Nat}(j i s:Nat){b n c:Nat}(h:cc w af ρ q=some (.slice (some ⟨b,0,none⟩) n c))(hl:af b=some q):addrAt w af ρ (j :: i :: s :: q)=some ⟨b,i*s+j,none⟩:=by
 match q,h,hl with
 | [r],h,hl=>
  simp only[cc]at h
  simp only[addrAt]
  cases hr:ρ r with
  | ak b off=>rw[hr]at h;cases h
  | dJ v=>rw[hr]at h;injection h with h;subst h;simp[hl]
  | bZ us=>rw[hr]at h;cases h
 | [],h,hl=>simp[cc,addrAt]at h
 | x :: y :: q,h,hl=>
  simp only[cc]at h
  simp only[addrAt,h,hl,if_true]
theorem Hu{j i s:Nat}{q:List Nat}:cc w af ρ (j :: i :: s :: q)=(addrAt w af ρ (j :: i :: s :: q)).bind w.cell?:=rfl
theorem rL.ok{k:List Nat}{y:V}(h:rL m k y)(hm:∀ r x,m r=some x->dK w B af ρ r x):∃ u,cc w af ρ k=some u/\RV w B af k y u:=by
 induction h with
 | root r y h=>
  cases hm _ _ h with
  | sl v y aK hr=>exact⟨v,by simp[cc,aK],hr⟩
 | elem j i q t o qn l y h hi hy ih=>
  obtain⟨u,hu,hr⟩:=ih
  cases hr with
  | cD=>simp at hi
  | cK=>simp at hi
  | cW=>simp at hi
  | ah _ _ _ _ _ _ _ _ _ ho=>omega
  | own _ _ _ _ _ b cap cs us hl hh hs hn hm hc hr=>
   refine⟨us i j,?_,hr i hi j y hy⟩
   rw[Hu,xB j i (aB t) hu hl]
   show w.cell? _=_
   rw[cell_of_row w b _ cs _ _ hh]
   exact hc i hi j y hy
theorem vA:∀ (k:List Nat) (ad:Addr),addrAt w af ρ k=some ad->∃ j i s q,k=j :: i :: s :: q/\af ad.block=some q/\ad.off=i*s+j/\ad.spot=none/\(∀ r,q=[r]->∃ v,ρ r = .dJ v)
 | [],_,h=>by simp[addrAt]at h
 | [_],_,h=>by simp[addrAt]at h
 | [_,_],_,h=>by simp[addrAt]at h
 | [_,_,_],_,h=>by simp[addrAt]at h
 | [j,i,s,r],ad,h=>by
  simp only[addrAt]at h
  split at h
  ·rename_i v b n c hr
   split at h
   ·rename_i hl
    injection h with h
    subst h
    exact⟨j,i,s,[r],rfl,hl,rfl,rfl,fun r' e=>by injection e with e;subst e;exact⟨_,hr⟩⟩
   ·cases h
  ·cases h
 | j :: i :: s :: x :: y :: q,ad,h=>by
  simp only[addrAt]at h
  split at h
  ·split at h
   ·rename_i hl
    injection h with h
    subst h
    exact⟨j,i,s,x :: y :: q,rfl,hl,rfl,rfl,fun r' e=>by injection e with _ e;cases e⟩
   ·cases h
  ·cases h
theorem NA(hk:∀ b,b<w.heap.size->w'.heap[b]?=w.heap[b]?/\ax b=af b)(hg:∀ b k,af b=some k->b<w.heap.size):∀ (k:List Nat) (ad:Addr),addrAt w af ρ k=some ad->addrAt w' ax ρ k=some ad
 | [],_,h=>h
 | [_],_,h=>h
 | [_,_],_,h=>h
 | [_,_,_],_,h=>by simp only[addrAt]at h ⊢;exact h
 | [j,i,s,r],_,h=>by
  simp only[addrAt]at h ⊢
  split at h
  ·rename_i v b n c hr
   split at h
   ·rename_i hl
    rw[if_pos ((hk _ (hg _ _ hl)).2.trans hl)]
    exact h
   ·cases h
  ·cases h
 | j :: i :: s :: x :: y :: q,ad,h=>by
  simp only[addrAt]at h ⊢
  cases ha:addrAt w af ρ (x :: y :: q)with
  | none=>rw[ha]at h;cases h
  | some mL=>
   rw[NA hk hg _ _ ha]
   rw[ha]at h
   cases hc:w.cell? mL with
   | none=>simp[hc]at h
   | some v=>
    have e:w'.cell? mL=some v:=(World.cell?_of_block (hk _ (block_lt_of_cell hc)).1).trans hc
    simp only[Option.bind_some,hc]at h
    simp only[Option.bind_some,e]
    split at h
    ·split at h
     ·rename_i hl
      rw[if_pos ((hk _ (hg _ _ hl)).2.trans hl)]
      exact h
     ·cases h
    ·cases h
theorem UB(hk:∀ b,b<w.heap.size->w'.heap[b]?=w.heap[b]?/\ax b=af b)(hg:∀ b k,af b=some k->b<w.heap.size)(k:List Nat)(u:Value)(h:cc w af ρ k=some u):cc w' ax ρ k=some u:=by
 match k,h with
 | [],h=>simp[cc,addrAt]at h
 | [r],h=>exact h
 | x :: y :: q,h=>
  simp only[cc]at h ⊢
  cases ha:addrAt w af ρ (x :: y :: q)with
  | none=>rw[ha]at h;cases h
  | some ad=>
   rw[NA hk hg _ _ ha]
   rw[ha]at h
   have h:w.cell? ad=some u:=h
   exact(World.cell?_of_block (hk _ (block_lt_of_cell h)).1).trans h
theorem cL.fk{x:Lf}{u:Value}(h:cL w B af ρ x u)(hz:w.heap.size<=w'.heap.size)(hk:∀ b,b<w.heap.size->w'.heap[b]?=w.heap[b]?/\ax b=af b)(hg:∀ b k,af b=some k->b<w.heap.size):cL w' B ax ρ x u:=by
 cases x with
 | v x=>exact⟨h.1,h.2.fk hz hk⟩
 | own k=>exact⟨h.1,UB hk hg _ _ h.2⟩
 | dead=>trivial
theorem cX.fk{cs:List Lf}{us:Array Value}(h:cX w B af ρ cs us)(hz:w.heap.size<=w'.heap.size)(hk:∀ b,b<w.heap.size->w'.heap[b]?=w.heap[b]?/\ax b=af b)(hg:∀ b k,af b=some k->b<w.heap.size):cX w' B ax ρ cs us:=
 ⟨h.1,fun j x hx=>let ⟨u,hu,r⟩:=h.2 j x hx;⟨u,hu,r.fk hz hk hg⟩⟩
theorem RP.fk{p:Bool×List Lf}{u:Value}(h:RP w B af ρ p u)(hz:w.heap.size<=w'.heap.size)(hk:∀ b,b<w.heap.size->w'.heap[b]?=w.heap[b]?/\ax b=af b)(hg:∀ b k,af b=some k->b<w.heap.size):RP w' B ax ρ p u:=by
 obtain⟨b,cs⟩:=p
 cases b with
 | true=>obtain⟨us,e,h⟩:=h;exact⟨us,e,h.fk hz hk hg⟩
 | false=>exact cX.fk h hz hk hg
theorem RF.fk{cs:List V}{u:Value}(h:RF w B af cs u)(hz:w.heap.size<=w'.heap.size)(hk:∀ b,b<w.heap.size->w'.heap[b]?=w.heap[b]?/\ax b=af b):RF w' B ax cs u:=by
 obtain⟨b,off,e,hb,hl,h⟩:=h
 refine⟨b,off,e,Nat.lt_of_lt_of_le hb hz,((hk b hb).2).trans hl,fun j x hx=>?_⟩
 obtain⟨hf,v,hv,hr⟩:=h j x hx
 exact⟨hf,v,(World.cell?_of_block (a:=⟨b,_,none⟩) (hk b hb).1).trans hv,hr.fk hz hk⟩
theorem RA.fk{x:A}{u:Value}(h:RA w B af ρ x u)(hz:w.heap.size<=w'.heap.size)(hk:∀ b,b<w.heap.size->w'.heap[b]?=w.heap[b]?/\ax b=af b)(hg:∀ b k,af b=some k->b<w.heap.size):RA w' B ax ρ x u:=by
 cases x with
 | undef=>trivial
 | skip=>exact h
 | lf x=>exact cL.fk h hz hk hg
 | agg cs=>exact RP.fk (p:=(true,cs)) h hz hk hg
 | cq xs=>obtain⟨us,e,hs,h⟩:=h;exact⟨us,e,hs,fun j p hp=>let ⟨v,hv,r⟩:=h j p hp;⟨v,hv,r.fk hz hk hg⟩⟩
 | ptr k=>obtain⟨ad,e,h⟩:=h;exact⟨ad,e,NA hk hg _ _ h⟩
 | view k s i j=>obtain⟨A,n,c,h,g⟩:=h;exact⟨A,n,c,UB hk hg _ _ h,g⟩
 | pk r n=>exact h
 | aC r j=>exact h
 | gz cs=>exact RF.fk h hz hk
 | kN f cs=>obtain⟨pv,e,h⟩:=h;exact⟨pv,e,h.fk hz hk⟩
 | fn f cap=>exact h
theorem dK.fk{r:Nat}{x:aP}(h:dK w B af ρ r x)(hz:w.heap.size<=w'.heap.size)(hk:∀ b,b<w.heap.size->w'.heap[b]?=w.heap[b]?/\ax b=af b)(hg:∀ b k,af b=some k->b<w.heap.size):dK w' B ax ρ r x:=by
 cases h with
 | ak b off cells e cs us aK hl hh hs hc=>
  have hb:b<w.heap.size:=(Array.getElem?_eq_some_iff.1 hh).1
  exact .ak b off cells e cs us aK ((hk b hb).2.trans hl) ((hk b hb).1.trans hh) hs (fun j x hx=>⟨(hc j x hx).1,(hc j x hx).2.fk hz hk hg⟩)
 | sl v y aK hr=>exact .sl v y aK (hr.fk hz hk)
 | mp b c es l aK hl hh he=>
  have hb:b<w.heap.size:=(Array.getElem?_eq_some_iff.1 hh).1
  exact .mp b c es l aK ((hk b hb).2.trans hl) ((hk b hb).1.trans hh) he
 | gh us xs aK hx=>exact .gh us xs aK fun j x hj=>(hx j x hj).fk hz hk hg
/-! A root's name is given anew: what named it before is forgotten. -/
def aX(d:Nat)(k:List Nat):Bool:=k.getLast?==some d
def Lf.drop(d:Nat):Lf->Lf
 | .own k=>bif aX d k then .dead else .own k
 | x=>x
def A.drop(d:Nat):A->A
 | .lf x=>.lf (x.drop d)
 | .agg cs=>.agg (cs.map (Lf.drop d))
 | .cq xs=>.cq (xs.map fun p=>(p.1,p.2.map (Lf.drop d)))
 | .ptr k=>bif aX d k then .undef else .ptr k
 | .aC r j=>bif Nat.beq r d then .undef else .aC r j
 | .pk r n=>bif Nat.beq r d then .undef else .pk r n
 | .view k s i j=>bif aX d k then .undef else .view k s i j
 | .fn f cap=>bif cap.any (fun p=>Nat.beq p.1 d)then .undef else .fn f cap
 | x=>x
def aP.drop(d:Nat):aP->aP
 | .ak cs=>.ak (cs.map (Lf.drop d))
 | .gh xs=>.gh (xs.map (A.drop d))
 | x=>x
theorem NB{d:Nat}(aK:∀ r,r≠d->ρ' r=ρ r):∀ (k:List Nat),aX d k=false->addrAt w af ρ' k=addrAt w af ρ k
 | [],_=>rfl
 | [_],_=>rfl
 | [_,_],_=>rfl
 | [_,_,_],_=>rfl
 | [j,i,s,r],h=>by
  have hr:r≠d:=by rintro rfl;simp[aX]at h
  simp only[addrAt,aK r hr]
 | j :: i :: s :: x :: y :: q,h=>by
  have h':aX d (x :: y :: q)=false:=by simpa [aX]using h
  simp only[addrAt,NB aK (x :: y :: q) h']
theorem UC{d:Nat}(aK:∀ r,r≠d->ρ' r=ρ r)(k:List Nat)(h:aX d k=false):cc w af ρ' k=cc w af ρ k:=by
 match k,h with
 | [],_=>rfl
 | [r],h=>
  have hr:r≠d:=by rintro rfl;simp[aX]at h
  simp only[cc,aK r hr]
 | x :: y :: q,h=>simp only[cc,NB aK _ h]
theorem cL.dF{d:Nat}(aK:∀ r,r≠d->ρ' r=ρ r){x:Lf}{u:Value}(h:cL w B af ρ x u):cL w B af ρ' (x.drop d) u:=by
 cases x with
 | v x=>exact h
 | dead=>trivial
 | own k=>
  have e:Lf.drop d (.own k)=(bif aX d k then .dead else .own k):=rfl
  rw[e]
  cases hl:aX d k with
  | true=>trivial
  | false=>exact⟨h.1,(UC aK k hl).trans h.2⟩
theorem cX.dF{d:Nat}(aK:∀ r,r≠d->ρ' r=ρ r){cs:List Lf}{us:Array Value}(h:cX w B af ρ cs us):cX w B af ρ' (cs.map (Lf.drop d)) us:=by
 refine⟨by rw[List.length_map];exact h.1,fun j x hx=>?_⟩
 rw[List.getElem?_map]at hx
 cases hy:cs[j]? with
 | none=>rw[hy]at hx;cases hx
 | some y=>
  rw[hy]at hx
  injection hx with hx
  subst hx
  obtain⟨u,hu,r⟩:=h.2 j y hy
  exact⟨u,hu,r.dF aK⟩
theorem RP.dF{d:Nat}(aK:∀ r,r≠d->ρ' r=ρ r){p:Bool×List Lf}{u:Value}(h:RP w B af ρ p u):RP w B af ρ' (p.1,p.2.map (Lf.drop d)) u:=by
 obtain⟨b,cs⟩:=p
 cases b with
 | true=>obtain⟨us,e,h⟩:=h;exact⟨us,e,h.dF aK⟩
 | false=>exact cX.dF aK h
theorem RA.dF{d:Nat}(aK:∀ r,r≠d->ρ' r=ρ r){x:A}{u:Value}(h:RA w B af ρ x u):RA w B af ρ' (x.drop d) u:=by
 cases x with
 | undef=>trivial
 | skip=>exact h
 | lf x=>exact cL.dF aK h
 | agg cs=>exact RP.dF (p:=(true,cs)) aK h
 | cq xs=>
  obtain⟨us,e,hs,h⟩:=h
  refine⟨us,e,by rw[List.length_map];exact hs,fun j p hp=>?_⟩
  rw[List.getElem?_map]at hp
  cases hy:xs[j]? with
  | none=>rw[hy]at hp;cases hp
  | some y=>
   rw[hy]at hp
   injection hp with hp
   subst hp
   obtain⟨v,hv,r⟩:=h j y hy
   exact⟨v,hv,r.dF aK⟩
 | ptr k=>
  have e:A.drop d (.ptr k)=(bif aX d k then .undef else .ptr k):=rfl
  rw[e]
  cases hl:aX d k with
  | true=>trivial
  | false=>obtain⟨ad,e,h⟩:=h;exact⟨ad,e,(NB aK k hl).trans h⟩
 | view k s i j=>
  have e:A.drop d (.view k s i j)=(bif aX d k then .undef else .view k s i j):=rfl
  rw[e]
  cases hl:aX d k with
  | true=>trivial
  | false=>obtain⟨A,n,c,h,g⟩:=h;exact⟨A,n,c,(UC aK k hl).trans h,g⟩
 | pk r n=>
  have e:A.drop d (.pk r n)=(bif Nat.beq r d then .undef else .pk r n):=rfl
  rw[e]
  cases hl:Nat.beq r d with
  | true=>trivial
  | false=>
   have hr:r≠d:=by rintro rfl;simp at hl
   obtain⟨b,e,h⟩:=h
   exact⟨b,(aK r hr).trans e,h⟩
 | aC r j=>
  have e:A.drop d (.aC r j)=(bif Nat.beq r d then .undef else .aC r j):=rfl
  rw[e]
  cases hl:Nat.beq r d with
  | true=>trivial
  | false=>
   have hr:r≠d:=by rintro rfl;simp at hl
   obtain⟨b,off,e,h⟩:=h
   exact⟨b,off,(aK r hr).trans e,h⟩
 | gz cs=>exact h
 | kN f cs=>exact h
 | fn f cap=>
  have e:A.drop d (.fn f cap)=(bif cap.any (fun p=>Nat.beq p.1 d)then .undef else .fn f cap):=rfl
  rw[e]
  cases hl:cap.any (fun p=>Nat.beq p.1 d)with
  | true=>trivial
  | false=>
   obtain⟨vs,e,hs,h⟩:=h
   refine⟨vs,e,hs,fun j p hp=>?_⟩
   obtain⟨b,off,e2,h2⟩:=h j p hp
   have hr:p.1≠d:=by
    rintro rfl
    have:=List.any_eq_false.1 hl p (List.mem_of_getElem? hp)
    simp at this
   exact⟨b,off,(aK _ hr).trans e2,h2⟩
theorem dK.dF{d r:Nat}(aK:∀ r,r≠d->ρ' r=ρ r)(hr:r≠d){x:aP}(h:dK w B af ρ r x):dK w B af ρ' r (x.drop d):=by
 cases h with
 | ak b off cells e cs us fY hl hh hs hc=>
  refine .ak b off cells e _ us ((aK r hr).trans fY) hl hh (by rw[List.length_map];exact hs) (fun j x hx=>?_)
  rw[List.getElem?_map]at hx
  cases hy:cs[j]? with
  | none=>rw[hy]at hx;cases hx
  | some y=>
   rw[hy]at hx
   injection hx with hx
   subst hx
   exact⟨(hc j y hy).1,(hc j y hy).2.dF aK⟩
 | sl v y fY C2=>exact .sl v y ((aK r hr).trans fY) C2
 | mp b c es l fY hl hh he=>exact .mp b c es l ((aK r hr).trans fY) hl hh he
 | gh us xs fY hx=>
  refine .gh us _ ((aK r hr).trans fY) (fun j x hj=>?_)
  rw[List.getElem?_map]at hj
  cases hy:xs[j]? with
  | none=>rw[hy]at hj;cases hj
  | some y=>
   rw[hy]at hj
   injection hj with hj
   subst hj
   exact(hx j y hy).dF aK
def bG{α:Type}(f:Nat->α)(d:Nat)(x:α):Nat->α:=fun k=>bif Nat.beq k d then x else f k
theorem bK{α:Type}(f:Nat->α)(d:Nat)(x:α):bG f d x d=x:=by simp[bG]
theorem cm{α:Type}(f:Nat->α)(d:Nat)(x:α){k:Nat}(h:k≠d):bG f d x k=f k:=by
 have:Nat.beq k d=false:=by
  cases hb:Nat.beq k d with
  | false=>rfl
  | true=>exact absurd (Nat.eq_of_beq_eq_true hb) h
 simp only[bG,this,cond_false]
def S.set(σ:S)(d:Nat)(x:A):S:={ σ with t:=bG σ.t d x }
def S.drop(σ:S)(d:Nat):S:=⟨fun k=>(σ.t k).drop d,fun r=>bif Nat.beq r d then none else (σ.m r).map (aP.drop d)⟩
def S.root(σ:S)(d:Nat)(x:aP):S:={ σ with m:=bG σ.m d (some x) }
theorem Rl.set{x:A}{v:Value}{d:Nat}(h:Rl w0 N af ρ σ a w)(hx:RA w w0.heap.size af ρ x v)(hd:d<N):Rl w0 N af ρ (σ.set d x) (a.put (some d) v) w:=by
 refine⟨h.below,h.cH,h.root,fun k=>?_,?_,h.defers,h.fix,h.eg⟩
 ·show RA w w0.heap.size af ρ (bG σ.t d x k) ((a.tmps.setIfInBounds d v).getD k undef)
  by_cases hk:k=d
  ·subst hk
   rw[bK,Array.getD_eq_getD_getElem?,Array.getElem?_setIfInBounds_self]
   have:k<a.tmps.size:=by rw[h.size];exact hd
   simp only[this,if_true,Option.getD_some]
   exact hx
  ·rw[cm _ _ _ hk,Array.getD_eq_getD_getElem?,Array.getElem?_setIfInBounds_ne (Ne.symm hk),<-Array.getD_eq_getD_getElem?]
   exact h.tmp k
 ·show (a.tmps.setIfInBounds d v).size=N
  rw[Array.size_setIfInBounds]
  exact h.size
theorem Rl.grow(h:Rl w0 N af ρ σ a w)(hb:Below w.heap.size w w')(hl:∀ b,b<w.heap.size->ax b=af b)(hg:∀ b k,w.heap.size<=b->ax b=some k->b<w'.heap.size/\k≠[]):Rl w0 N ax ρ σ a w':=by
 have hk:∀ b,b<w.heap.size->w'.heap[b]?=w.heap[b]?/\ax b=af b:=fun b l5=>⟨hb.block b l5,hl b l5⟩
 refine⟨h.below.trans (.of hb h.below.size),fun b k jX=>?_,fun r x hx=>(h.root r x hx).fk hb.size hk (fun b k hb=>(h.cH b k hb).2.1),fun k=>(h.tmp k).fk hb.size hk (fun b k hb=>(h.cH b k hb).2.1),h.size,h.defers,h.fix,h.eg⟩
 rcases Nat.lt_or_ge b w.heap.size with bw | mM
 ·rw[hl b bw]at jX
  have:=h.cH b k jX
  exact⟨this.1,Nat.lt_of_lt_of_le this.2.1 hb.size,this.2.2⟩
 ·have:=hg b k mM jX
  exact⟨.inl (Nat.le_trans h.below.size mM),this.1,this.2⟩
theorem Rl.new{d:Nat}{x:aP}(h:Rl w0 N af ρ σ a w)(l:Loc)(hx:dK w w0.heap.size af (bG ρ d l) d x)(hF:w0.F d=none):Rl w0 N af (bG ρ d l) ((σ.drop d).root d x) a w:=by
 have aK:∀ r,r≠d->bG ρ d l r=ρ r:=fun r hr=>cm _ _ _ hr
 refine⟨h.below,h.cH,fun r y hy=>?_,fun k=>(h.tmp k).dF aK,h.size,h.defers,fun r l' hr=>(aK r (by rintro rfl;rw[hF]at hr;cases hr)).trans (h.fix r l' hr),h.eg⟩
 by_cases hr:r=d
 ·subst hr
  have e:(bG (σ.drop r).m r (some x)) r=some x:=bK _ _ _
  have hy:(bG (σ.drop r).m r (some x)) r=some y:=hy
  rw[e]at hy
  injection hy with hy
  subst hy
  exact hx
 ·have hy:(bG (σ.drop d).m d (some x)) r=some y:=hy
  rw[cm _ _ _ hr]at hy
  have hb:Nat.beq r d=false:=by
   cases hb:Nat.beq r d with
   | false=>rfl
   | true=>exact absurd (Nat.eq_of_beq_eq_true hb) hr
  simp only[S.drop,hb,cond_false]at hy
  cases hm:σ.m r with
  | none=>rw[hm]at hy;cases hy
  | some z=>
   rw[hm]at hy
   injection hy with hy
   subst hy
   exact(h.root r z hm).dF aK hr
end
end Go.Proofs.YtinbifpbkcbnkaaGreat
namespace Go.Proofs.YtinbifpbkcbnkaaGreat
open Go.RowKit
set_option linter.unusedVariables false
def eH{α:Type}(l:List α)(j:Nat)(xs:List α):List α:=l.take j++xs++l.drop (j+xs.length)
theorem xC{α:Type}(l:List α)(j:Nat)(xs:List α)(h:j+xs.length<=l.length):(eH l j xs).length=l.length:=by
 simp[eH];omega
theorem xD{α:Type}(l:List α)(j:Nat)(xs:List α)(h:j+xs.length<=l.length)(n:Nat):
  (eH l j xs)[n]?=if n<j then l[n]? else if n<j+xs.length then xs[n-j]? else l[n]?:=by
 unfold eH
 have ht:(l.take j).length=j:=by simp;omega
 split
 ·rename_i hn
  rw[List.append_assoc,List.getElem?_append_left (by rw[ht];exact hn),List.getElem?_take,if_pos hn]
 ·split
  ·rename_i h1 h2
   rw[List.append_assoc,List.getElem?_append_right (by rw[ht];omega),ht,List.getElem?_append_left (by omega)]
  ·rename_i h1 h2
   rw[List.getElem?_append_right (by simp;omega),List.getElem?_drop]
   congr 1
   simp
   omega
structure rM (w w':World) (bt:Nat):Prop where
 size:w'.heap.size=w.heap.size
 os:w'.os=w.os
 tape:w'.tape=w.tape
 output:w'.output=w.output
 block:∀ k,k≠bt->w'.heap[k]?=w.heap[k]?
theorem NC(w:World)(b o:Nat)(l:List Value):rM w (w.setCells b o l) b:=by
 have g:=Tv b l o w
 have s:=Tu b l o w
 refine⟨s,g.os,g.tape,g.output,fun k hk=>?_⟩
 rcases Nat.lt_or_ge k w.heap.size with bw | mM
 ·exact g.block k bw (by intro e;injection e with e;exact hk e)
 ·rw[Array.getElem?_eq_none mM,Array.getElem?_eq_none (by rw[s];exact mM)]
section
variable {w w':World} {w0:Wd} {B N:Nat} {af:bq} {ρ:Nat->Loc} {m m':Nat->Option aP} {σ:S} {a:Act} {bt:Nat} {kt:List Nat}
def pP(w w':World)(af:bq)(ρ:Nat->Loc):Prop:=∀ k ad v,addrAt w af ρ k=some ad->w.cell? ad=some v->jV v=true->w'.cell? ad=some v
theorem ND(hC:pP w w' af ρ):∀ (k:List Nat) (ad:Addr),addrAt w af ρ k=some ad->addrAt w' af ρ k=some ad
 | [],_,h=>h
 | [_],_,h=>h
 | [_,_],_,h=>h
 | [_,_,_],_,h=>by simp only[addrAt]at h ⊢;exact h
 | [j,i,s,r],_,h=>by simp only[addrAt]at h ⊢;exact h
 | j :: i :: s :: x :: y :: q,ad,h=>by
  simp only[addrAt]at h ⊢
  cases ha:addrAt w af ρ (x :: y :: q)with
  | none=>rw[ha]at h;cases h
  | some mL=>
   rw[ND hC _ _ ha]
   rw[ha]at h
   cases hc:w.cell? mL with
   | none=>simp[hc]at h
   | some v=>
    simp only[Option.bind_some,hc]at h
    have hv:jV v=true:=by
     split at h
     ·rename_i e;injection e with e;subst e;rfl
     ·cases h
    simp only[Option.bind_some,hC _ _ _ ha hc hv]
    exact h
theorem UD(hC:pP w w' af ρ)(k:List Nat)(u:Value)(hu:jV u=true)(h:cc w af ρ k=some u):cc w' af ρ k=some u:=by
 match k,h with
 | [],h=>simp[cc,addrAt]at h
 | [r],h=>exact h
 | x :: y :: q,h=>
  simp only[cc]at h ⊢
  cases ha:addrAt w af ρ (x :: y :: q)with
  | none=>rw[ha]at h;cases h
  | some ad=>
   rw[ND hC _ _ ha]
   rw[ha]at h
   have h:w.cell? ad=some u:=h
   exact hC _ _ _ ha h hu
theorem cL.wrote{x:Lf}{u:Value}(h:cL w B af ρ x u)(hw:rM w w' bt)(hl:af bt=some kt)(hC:pP w w' af ρ):cL w' B af ρ x u:=by
 cases x with
 | v x=>exact⟨h.1,h.2.apart hl (.inr h.1) (Nat.le_of_eq hw.size.symm) hw.block⟩
 | own k=>exact⟨h.1,UD hC k u h.1 h.2⟩
 | dead=>trivial
theorem cX.wrote{cs:List Lf}{us:Array Value}(h:cX w B af ρ cs us)(hw:rM w w' bt)(hl:af bt=some kt)(hC:pP w w' af ρ):cX w' B af ρ cs us:=
 ⟨h.1,fun j x hx=>let ⟨u,hu,r⟩:=h.2 j x hx;⟨u,hu,r.wrote hw hl hC⟩⟩
theorem RP.wrote{p:Bool×List Lf}{u:Value}(h:RP w B af ρ p u)(hw:rM w w' bt)(hl:af bt=some kt)(hC:pP w w' af ρ):RP w' B af ρ p u:=by
 obtain⟨b,cs⟩:=p
 cases b with
 | true=>obtain⟨us,e,h⟩:=h;exact⟨us,e,h.wrote hw hl hC⟩
 | false=>exact cX.wrote h hw hl hC
theorem RF.wrote{cs:List V}{u:Value}(h:RF w B af cs u)(hw:rM w w' bt)(hl:af bt=some kt):RF w' B af cs u:=by
 obtain⟨b,off,e,hb,fe,h⟩:=h
 have aV:b≠bt:=by rintro rfl;rw[hl]at fe;cases fe
 refine⟨b,off,e,by rw[hw.size];exact hb,fe,fun j x hx=>?_⟩
 obtain⟨hf,v,hv,hr⟩:=h j x hx
 exact⟨hf,v,(World.cell?_of_block (a:=⟨b,_,none⟩) (hw.block b aV)).trans hv,hr.apart hl (.inr hf) (Nat.le_of_eq hw.size.symm) hw.block⟩
theorem RA.wrote{x:A}{u:Value}(h:RA w B af ρ x u)(hw:rM w w' bt)(hl:af bt=some kt)(hC:pP w w' af ρ):RA w' B af ρ x u:=by
 cases x with
 | undef=>trivial
 | skip=>exact h
 | lf x=>exact cL.wrote h hw hl hC
 | agg cs=>exact RP.wrote (p:=(true,cs)) h hw hl hC
 | cq xs=>obtain⟨us,e,hs,h⟩:=h;exact⟨us,e,hs,fun j p hp=>let ⟨v,hv,r⟩:=h j p hp;⟨v,hv,r.wrote hw hl hC⟩⟩
 | ptr k=>obtain⟨ad,e,h⟩:=h;exact⟨ad,e,ND hC _ _ h⟩
 | view k s i j=>obtain⟨A,n,c,h,g⟩:=h;exact⟨A,n,c,UD hC k _ rfl h,g⟩
 | pk r n=>exact h
 | aC r j=>exact h
 | gz cs=>exact RF.wrote h hw hl
 | kN f cs=>obtain⟨pv,e,h⟩:=h;exact⟨pv,e,h.wrote hw hl⟩
 | fn f cap=>exact h
theorem dK.wrote{r:Nat}{x:aP}(h:dK w B af ρ r x)(hw:rM w w' bt)(hl:af bt=some kt)(hC:pP w w' af ρ)(hr:¬ [r] <:+ kt):dK w' B af ρ r x:=by
 cases h with
 | ak b off cells e cs us aK fe hh hs hc=>
  have aV:b≠bt:=by rintro rfl;rw[hl]at fe;injection fe with fe;subst fe;exact hr (List.suffix_refl _)
  exact .ak b off cells e cs us aK fe ((hw.block b aV).trans hh) hs (fun j x hx=>⟨(hc j x hx).1,(hc j x hx).2.wrote hw hl hC⟩)
 | sl v y aK cN=>exact .sl v y aK (cN.apart hl (.inl hr) (Nat.le_of_eq hw.size.symm) hw.block)
 | mp b c es l aK fe hh he=>
  have aV:b≠bt:=by rintro rfl;rw[hl]at fe;injection fe with fe;subst fe;exact hr (List.suffix_refl _)
  exact .mp b c es l aK fe ((hw.block b aV).trans hh) he
 | gh us xs aK hx=>exact .gh us xs aK fun j x hj=>(hx j x hj).wrote hw hl hC
theorem Rl.wrote(h:Rl w0 N af ρ σ a w)(hw:rM w w' bt)(hl:af bt=some kt)(hC:pP w w' af ρ)(hm:∀ r x,m' r=some x->dK w' w0.heap.size af ρ r x):Rl w0 N af ρ ⟨σ.t,m'⟩ a w':=by
 have hb:=(h.cH bt kt hl).1
 have aV:∀ k,k<w0.heap.size->w0.L k=none->k≠bt:=by
  rintro k hk hL rfl
  rcases hb with hb | hb
  ·exact absurd hk (Nat.not_lt.2 hb)
  ·exact hb hL
 refine⟨⟨hw.os.trans h.below.os,hw.tape.trans h.below.tape,hw.output.trans h.below.output,by rw[hw.size];exact h.below.size,fun k hk hL=>(hw.block k (aV k hk hL)).trans (h.below.block k hk hL)⟩,fun b k jX=>?_,hm,fun k=>(h.tmp k).wrote hw hl hC,h.size,h.defers,h.fix,h.eg⟩
 rw[hw.size]
 exact h.cH b k jX
theorem NF{r r':Nat}(h:r'≠r):¬ [r'] <:+ [r]:=by
 intro hs
 have:=hs.eq_of_length rfl
 injection this with this
 exact h this
theorem Rl.C3{r j:Nat}{cs xs:List Lf}{us:Array Value}(h:Rl w0 N af ρ σ a w)(hm:σ.m r=some (.ak cs))(hx:cX w w0.heap.size af ρ xs us)(hj:j+xs.length<=cs.length):
  ∃ b off,ρ r = .ak b off/\w.there b (off+j) us.size/\Rl w0 N af ρ ⟨σ.t,bG σ.m r (some (.ak (eH cs j xs)))⟩ a (w.setCells b (off+j) us.toList):=by
 have hr:=h.root r _ hm
 generalize he:aP.ak cs=x at hr
 cases hr with
 | sl=>cases he
 | mp=>cases he
 | gh=>cases he
 | ak b off cells e fz u aK hl hh hs hc=>
  injection he with he
  subst he
  have hlen:us.size=xs.length:=hx.1
  have jm:off+j+us.toList.length<=cells.size:=by rw[Array.length_toList,hlen];omega
  have hW:=NC w b (off+j) us.toList
  obtain⟨c2,fU,jY⟩:=G1 b e us.toList (off+j) w cells hh jm
  have hC:pP w (w.setCells b (off+j) us.toList) af ρ:=by
   intro k ad v ha hv gk
   obtain⟨j',i',s',q,rfl,hq,_,_,NG⟩:=vA k ad ha
   have aV:ad.block≠b:=by
    intro e
    rw[e,hl]at hq
    injection hq with hq
    obtain⟨v',dR⟩:=NG r hq.symm
    rw[aK]at dR
    cases dR
   exact(World.cell?_of_block (hW.block _ aV)).trans hv
  refine⟨b,off,aK,fun n hn=>⟨?_,frozen_of_row w b _ cells e hh⟩,h.wrote hW hl hC fun r' y hy=>?_⟩
  ·rw[cell_of_row w b _ cells e _ hh]
   simp
   omega
  ·by_cases ic:r'=r
   ·subst ic
    rw[bK]at hy
    injection hy with hy
    subst hy
    refine .ak b off c2 e _ (fun n=>if n<j then u n else if n<j+xs.length then us.getD (n-j) undef else u n) aK hl fU ?_ fun n x ta=>?_
    ·rw[xC _ _ _ hj,<-Array.length_toList,jY]
     have:=xC cells.toList (off+j) us.toList (by simpa using jm)
     simp only[eH]at this
     rw[this]
     simpa using hs
    ·have e2:c2[off+n]?=(eH cells.toList (off+j) us.toList)[off+n]?:=by
      rw[show c2[off+n]?=c2.toList[off+n]? by simp,jY]
      rfl
     rw[e2,xD _ _ _ (by simpa using jm)]
     rw[xD _ _ _ hj]at ta
     by_cases h1:n<j
     ·rw[if_pos (by omega)]
      simp only[h1,if_true]at ta ⊢
      refine⟨?_,(hc n x ta).2.wrote hW hl hC⟩
      rw[Array.getElem?_toList]
      exact(hc n x ta).1
     ·by_cases h2:n<j+xs.length
      ·rw[if_neg (by omega),if_pos (by rw[Array.length_toList,hlen];omega)]
       simp only[h1,h2,if_true,if_false]at ta ⊢
       obtain⟨v,hv,hr⟩:=hx.2 (n-j) x ta
       have hg:us.getD (n-j) undef=v:=by rw[Array.getD_eq_getD_getElem?,hv];rfl
       rw[hg]
       refine⟨?_,hr.wrote hW hl hC⟩
       rw[show off+n-(off+j)=n-j by omega,Array.getElem?_toList]
       exact hv
      ·rw[if_neg (by omega),if_neg (by rw[Array.length_toList,hlen];omega)]
       simp only[h1,h2,if_false]at ta ⊢
       refine⟨?_,(hc n x ta).2.wrote hW hl hC⟩
       rw[Array.getElem?_toList]
       exact(hc n x ta).1
   ·rw[cm _ _ _ ic]at hy
    exact(h.root r' y hy).wrote hW hl hC (NF ic)
inductive xE (m:Nat->Option aP):List Nat->V->(Nat->Option aP)->Prop
 | root (r:Nat) (y0 y:V) (h:m r=some (.sl y0)):xE m [r] y (bG m r (some (.sl y)))
 | elem (j i:Nat) (q:List Nat) (t:TC) (o:Nat) (qn:Bool) (l:List (T t)) (y:V) (e:T t) (m':Nat->Option aP) (h:rL m q (.sl t (o+2) qn l)) (hi:i<l.length) (hj:j<aB t)
   (hd:dec t o (eH (enc t o l[i]) j [y])=some e) (hp:xE m q (.sl t (o+2) qn (l.set i e)) m'):xE m (j :: i :: aB t :: q) y m'
theorem NH{α:Type}{a b c:List α}(ha:a <:+ c)(hb:b <:+ c)(h:a.length=b.length):a=b:=by
 obtain⟨x,hx⟩:=ha
 obtain⟨y,hy⟩:=hb
 rw[<-hx]at hy
 exact((List.append_inj' hy h.symm).2).symm
theorem RV.Hv{q:List Nat}{t:TC}{o:Nat}{qn:Bool}{l:List (T t)}{i j:Nat}{xs:List V}{e:T t}{b cap:Nat}{cs fz:Array Value}{u us:Nat->Nat->Value}
  (hl:af b=some q) (hh:w'.heap[b]?=some (.cells fz (tid t) (0,0))) (hs:fz.size=cap*aB t) (hn:l.length<=cap) (hm:cap<=maxLen/\(qn=true->cap=l.length)) (hi:i<l.length) (hj:j+xs.length<=aB t)
  (hd:dec t o (eH (enc t o l[i]) j xs)=some e)
  (hc:∀ i' (h:i'<l.length) (j':Nat) x,(enc t o l[i'])[j']?=some x->¬ (i'=i/\j<=j'/\j'<j+xs.length)->fz[i'*aB t+j']?=some (u i' j')/\RV w' B af (j' :: i' :: aB t :: q) x (u i' j'))
  (hx:∀ (n:Nat) x,xs[n]?=some x->fz[i*aB t+(j+n)]?=some (us i (j+n))/\RV w' B af ((j+n) :: i :: aB t :: q) x (us i (j+n))):
  RV w' B af q (.sl t (o+2) qn (l.set i e)) (.slice (some ⟨b,0,none⟩) l.length cap):=by
 have hlen:(l.set i e).length=l.length:=List.length_set
 have key:∀ i' (h:i'<(l.set i e).length) (j':Nat) x,(enc t o (l.set i e)[i'])[j']?=some x->
   ∃ v,fz[i'*aB t+j']?=some v/\RV w' B af (j' :: i' :: aB t :: q) x v:=by
  intro i' h j' x cz
  rw[List.getElem_set]at cz
  by_cases UE:i=i'
  ·subst UE
   rw[if_pos rfl]at cz
   have hk:=mK t o _ e hd
   have qu:j'<(enc t o e).length:=(List.getElem?_eq_some_iff.1 cz).1
   rw[<-hk.1]at qu
   have hy:=List.getElem?_eq_getElem qu
   generalize (eH (enc t o l[i]) j xs)[j']=y at hy
   have hw:=hk.2 j' y x hy cz
   rw[xD _ _ _ (by rw[kM];exact hj)]at hy
   by_cases h1:j'<j
   ·rw[if_pos h1]at hy
    obtain⟨h3,h4⟩:=hc i hi j' y hy (by omega)
    exact⟨_,h3,h4.wk hw⟩
   ·by_cases h2:j'<j+xs.length
    ·rw[if_neg h1,if_pos h2]at hy
     obtain⟨h3,h4⟩:=hx (j'-j) y hy
     rw[show j+(j'-j)=j' by omega]at h3 h4
     exact⟨_,h3,h4.wk hw⟩
    ·rw[if_neg h1,if_neg h2]at hy
     obtain⟨h3,h4⟩:=hc i hi j' y hy (by omega)
     exact⟨_,h3,h4.wk hw⟩
  ·rw[if_neg UE]at cz
   obtain⟨h3,h4⟩:=hc i' (by rw[<-hlen];exact h) j' x cz (by omega)
   exact⟨_,h3,h4⟩
 rw[<-hlen]
 refine .own q t o qn (l.set i e) b cap fz (fun i' j'=>(fz[i'*aB t+j']?).getD undef) hl hh hs (by rw[hlen];exact hn) ⟨hm.1,fun h=>by rw[hlen];exact hm.2 h⟩ (fun i' h j' x cz=>?_) (fun i' h j' x cz=>?_)
 ·obtain⟨v,hv,_⟩:=key i' h j' x cz
  rw[hv]
  rfl
 ·obtain⟨v,hv,hr⟩:=key i' h j' x cz
  rw[hv]
  exact hr
theorem UF{r:Nat}{q:List Nat}(h:[r] <:+ q){r':Nat}(h':[r'] <:+ q):r'=r:=by
 have:=NH h' h rfl
 injection this
theorem xE.ok{q:List Nat}{y:V}(h:xE m q y m')(hm:∀ r x,m r=some x->dK w B af ρ r x)(hw:rM w w' bt)(hl:af bt=some kt)(hq:q <:+ kt)(hC:pP w w' af ρ){hv:Value}(eW:cc w af ρ q=some hv)(hy:RV w' B af q y hv):
  ∀ r x,m' r=some x->dK w' B af ρ r x:=by
 induction h generalizing hv with
 | root r y0 y h=>
  intro r' x hx
  by_cases hr:r'=r
  ·subst hr
   rw[bK]at hx
   injection hx with hx
   subst hx
   simp only[cc]at eW
   cases aK:ρ r' with
   | ak b off=>rw[aK]at eW;cases eW
   | bZ us=>rw[aK]at eW;cases eW
   | dJ v=>
    rw[aK]at eW
    injection eW with eW
    subst eW
    exact .sl v y aK hy
  ·rw[cm _ _ _ hr]at hx
   exact(hm r' x hx).wrote hw hl hC (fun hs=>hr (UF hq hs))
 | elem j i q t o qn l y e m' h hi hj hd hp ih=>
  obtain⟨dR,C4,cN⟩:=h.ok hm
  have hqk:q <:+ kt:=List.IsSuffix.trans ⟨[j,i,aB t],rfl⟩ hq
  cases cN with
  | cD=>simp at hi
  | cK=>simp at hi
  | cW=>simp at hi
  | ah _ _ _ _ _ _ _ _ _ ho=>omega
  | own _ _ _ _ _ b cap cs us c9 hh hs hn xF hc hr=>
   have aV:b≠bt:=by
    rintro rfl
    rw[hl]at c9
    injection c9 with c9
    subst c9
    have:=hq.length_le
    simp at this
    omega
   have hz:=Nat.le_of_eq hw.size.symm
   refine ih hqk C4 (RV.Hv (us:=fun _ _=>hv) (u:=us) (cs:=cs) (xs:=[y]) c9 ((hw.block b aV).trans hh) hs hn xF hi (show j+1<=aB t from hj) hd (fun i' h' j' x hx C5=>⟨hc i' h' j' x hx,(hr i' h' j' x hx).apart hl (.inl fun l6=>C5 ?_) hz hw.block⟩) (fun n x hx=>?_))
   ·have:=NH l6 hq rfl
    injection this with e1 e2
    injection e2 with e2 _
    subst e1 e2
    exact⟨rfl,Nat.le_refl _,by simp⟩
   ·cases n with
    | succ n=>simp at hx
    | zero=>
     simp at hx
     subst hx
     refine⟨?_,hy⟩
     rw[Hu,xB j i (aB t) C4 c9]at eW
     have eW:w.cell? ⟨b,i*aB t+j,none⟩=some hv:=eW
     rw[cell_of_row w b _ cs _ _ hh]at eW
     exact eW
theorem RV.ahD{q:List Nat}{x:V}{v:Value}(h:RV w B af q x v)(hx:x.plain=true):jV v=false:=by
 cases h <;>first | rfl | cases hx
theorem RV.xG{q q':List Nat}{x:V}{v:Value}{B':Nat}{ax:bq}(h:RV w B af q x v)(hx:x.plain=true):RV w' B' ax q' x v:=by
 cases h <;>first | exact .int _ _ _ | exact .bool _ _ | exact .str _ _ | cases hx
theorem Rl.ahE{j i:Nat}{q:List Nat}{t:TC}{o:Nat}{qn:Bool}{l:List (T t)}{xs:List V}{us:Array Value}{e:T t}(h:Rl w0 N af ρ σ a w)(hg:rL σ.m q (.sl t (o+2) qn l))(hi:i<l.length)(hj:j+xs.length<=aB t)
  (hd:dec t o (eH (enc t o l[i]) j xs)=some e) (hold:∀ (n:Nat) x,n<xs.length->(enc t o l[i])[j+n]?=some x->x.plain=true) (hxp:∀ x∈xs,x.plain=true) (eo:us.size=xs.length) (hx:∀ (n:Nat) x,xs[n]?=some x->∃ u,us[n]?=some u/\RV w w0.heap.size af [] x u)
  (hp:xE σ.m q (.sl t (o+2) qn (l.set i e)) m'):
  ∃ b,addrAt w af ρ (j :: i :: aB t :: q)=some ⟨b,i*aB t+j,none⟩/\w.there b (i*aB t+j) us.size/\Rl w0 N af ρ ⟨σ.t,m'⟩ a (w.setCells b (i*aB t+j) us.toList):=by
 obtain⟨dR,C4,cN⟩:=hg.ok h.root
 cases cN with
 | cD=>simp at hi
 | cK=>simp at hi
 | cW=>simp at hi
 | ah _ _ _ _ _ _ _ _ _ ho=>omega
 | own _ _ _ _ _ b cap cs u c9 hh hs hn xF hc hr=>
  have rN:i*aB t+aB t<=cap*aB t:=by
   have:(i+1)*aB t<=cap*aB t:=Nat.mul_le_mul_right _ (by omega)
   rw[Nat.succ_mul]at this
   exact this
  have jm:i*aB t+j+us.toList.length<=cs.size:=by rw[Array.length_toList,eo,hs];omega
  have hW:=NC w b (i*aB t+j) us.toList
  obtain⟨c2,fU,jY⟩:=G1 b (tid t) us.toList (i*aB t+j) w cs hh jm
  have AB:∀ n,c2[n]?=if n<i*aB t+j then cs[n]? else if n<i*aB t+j+xs.length then us[n-(i*aB t+j)]? else cs[n]?:=by
   intro n
   have e2:c2[n]?=(eH cs.toList (i*aB t+j) us.toList)[n]?:=by
    rw[show c2[n]?=c2.toList[n]? by simp,jY]
    rfl
   rw[e2,xD _ _ _ (by simpa using jm),Array.length_toList,eo]
   simp
  have NI:c2.size=cs.size:=by
   rw[<-Array.length_toList,jY]
   have:=xC cs.toList (i*aB t+j) us.toList (by simpa using jm)
   simp only[eH]at this
   rw[this]
   simp
  have hC:pP w (w.setCells b (i*aB t+j) us.toList) af ρ:=by
   intro k ad v ha hv gk
   by_cases aV:ad.block=b
   ·obtain⟨j',i',s',q',rfl,jW,azy,td,_⟩:=vA k ad ha
    have iF:ad=⟨b,ad.off,none⟩:=by cases ad;simp_all
    rw[iF,cell_of_row w b _ cs _ _ hh]at hv
    rw[iF,cell_of_row _ b _ c2 _ _ fU,AB]
    by_cases h1:ad.off<i*aB t+j
    ·rw[if_pos h1];exact hv
    ·by_cases h2:ad.off<i*aB t+j+xs.length
     ·exfalso
      have hjs:ad.off-(i*aB t+j)<xs.length:=by omega
      have rO:j+(ad.off-(i*aB t+j))<(enc t o l[i]).length:=by rw[kM];omega
      have hy:=List.getElem?_eq_getElem rO
      generalize (enc t o l[i])[j+(ad.off-(i*aB t+j))]=y at hy
      have gA:=hold _ y hjs hy
      have h3:=hc i hi _ y hy
      rw[show i*aB t+(j+(ad.off-(i*aB t+j)))=ad.off by omega]at h3
      rw[hv]at h3
      injection h3 with h3
      have:=(hr i hi _ y hy).ahD gA
      rw[<-h3,gk]at this
      cases this
     ·rw[if_neg h1,if_neg h2];exact hv
   ·exact(World.cell?_of_block (hW.block _ aV)).trans hv
  refine⟨b,xB j i (aB t) C4 c9,fun n vB=>⟨?_,frozen_of_row w b _ cs _ hh⟩,h.wrote hW c9 hC (hp.ok h.root hW c9 (List.suffix_refl _) hC C4 ?_)⟩
  ·rw[cell_of_row w b _ cs _ _ hh]
   simp
   omega
  ·refine RV.Hv (u:=u) (us:=fun _ n=>us.getD (n-j) undef) (cs:=cs) (xs:=xs) c9 fU (NI.trans hs) hn xF hi hj hd (fun i' h' j' x cz C5=>?_) (fun n x cz=>?_)
   ·have qu:j'<aB t:=by have:=(List.getElem?_eq_some_iff.1 cz).1;rwa [kM]at this
    refine⟨?_,(hr i' h' j' x cz).apart c9 (.inl fun l6=>?_) (Nat.le_of_eq hW.size.symm) hW.block⟩
    ·rw[AB]
     have qv:¬ (¬ i'*aB t+j'<i*aB t+j/\i'*aB t+j'<i*aB t+j+xs.length):=by
      rintro⟨h1,h2⟩
      rcases Nat.lt_trichotomy i' i with bw | heq | AD
      ·have:(i'+1)*aB t<=i*aB t:=Nat.mul_le_mul_right _ bw
       rw[Nat.succ_mul]at this
       omega
      ·subst heq
       exact C5 ⟨rfl,by omega,by omega⟩
      ·have:(i+1)*aB t<=i'*aB t:=Nat.mul_le_mul_right _ AD
       rw[Nat.succ_mul]at this
       omega
     split
     ·exact hc i' h' j' x cz
     ·rw[if_neg (by omega)]
      exact hc i' h' j' x cz
    ·have:=l6.length_le
     simp at this
     omega
   ·obtain⟨v,hv,AE⟩:=hx n x cz
    have vB:n<xs.length:=(List.getElem?_eq_some_iff.1 cz).1
    have qw:us.getD (j+n-j) undef=v:=by rw[show j+n-j=n by omega,Array.getD_eq_getD_getElem?,hv];rfl
    show c2[_]?=some (us.getD (j+n-j) undef)/\RV _ _ _ _ _ (us.getD (j+n-j) undef)
    rw[qw,AB,if_neg (by omega),if_pos (by omega)]
    refine⟨?_,AE.xG (hxp x (List.mem_of_getElem? cz))⟩
    rw[show i*aB t+(j+n)-(i*aB t+j)=n by omega]
    exact hv
end
end Go.Proofs.YtinbifpbkcbnkaaGreat
namespace Go.Proofs.YtinbifpbkcbnkaaGreat
open Go.RowKit
set_option linter.unusedVariables false
def AF:Value->A
 | .bool b=>.lf (.v (.bool b))
 | .int k n=>.lf (.v (.int k n))
 | .string s=>.lf (.v (.str s))
 | .slice none 0 0=>.lf (.v .nil)
 | _=>.undef
def aA(σ:S):Operand->A
 | .tmp t=>σ.t t
 | .const v=>AF v
 | .func f=>.fn f []
 | .global _=>.undef
def ig{X:Type}(N:Nat)(σ:S)(dst:Option Tmp)(x:A)(k:S->Option X):Option X:=
 match dst with
 | none=>k σ
 | some d=>bif Nat.blt d N then k (σ.set d x)else none
def jZ(P:Program)(w0:Wd)(N:Nat)(o:Oper)(σ aj:S):Prop:=
 ∀ a w K Q,R w0 N σ a w->(∀ a' w',R w0 N aj a' w'->K a' w')->o.wp P a w K Q
section
variable {P:Program} {w:World} {w0:Wd} {B N:Nat} {af:bq} {ρ:Nat->Loc} {σ:S} {a:Act} {X:Type} {r:X} {k:S->Option X} {o:Oper}
theorem ahF(v:Value):RA w B af ρ (AF v) v:=by
 unfold AF
 split
 ·exact⟨rfl,.bool _ _⟩
 ·exact⟨rfl,.int _ _ _⟩
 ·exact⟨rfl,.str _ _⟩
 ·exact⟨rfl,.nil _⟩
 ·trivial
theorem Rl.aA(h:Rl w0 N af ρ σ a w)(x:Operand):RA w w0.heap.size af ρ (aA σ x) (a.eval x):=by
 cases x with
 | tmp t=>exact h.tmp t
 | const v=>exact ahF v
 | func f=>exact⟨#[],rfl,rfl,by simp⟩
 | global g=>trivial
theorem jZ.val{x:A}(hk:ig N σ o.dst x k=some r)(h:∀ af ρ a w,Rl w0 N af ρ σ a w->∃ v,(execOp a.eval o).run P w = .ok (.value v) w/\RA w w0.heap.size af ρ x v):∃ aj,k aj=some r/\jZ P w0 N o σ aj:=by
 unfold ig at hk
 split at hk
 ·rename_i hd
  refine⟨σ,hk,fun a w K Q hR hK=>?_⟩
  obtain⟨af,ρ,hl⟩:=hR
  obtain⟨v,hv,hx⟩:=h af ρ a w hl
  unfold Oper.wp
  rw[hv,Oper.upon_value,hd]
  exact hK _ _ ⟨af,ρ,hl⟩
 ·rename_i d hd
  cases hN:Nat.blt d N with
  | false=>rw[hN]at hk;cases hk
  | true=>
   rw[hN]at hk
   refine⟨_,hk,fun a w K Q hR hK=>?_⟩
   obtain⟨af,ρ,hl⟩:=hR
   obtain⟨v,hv,hx⟩:=h af ρ a w hl
   unfold Oper.wp
   rw[hv,Oper.upon_value,hd]
   exact hK _ _ ⟨af,ρ,hl.set hx (by have:=Nat.le_of_ble_eq_true hN;omega)⟩
/-! Contents of leaves. -/
def fl{X:Type}(m:Nat->Option aP):List Nat->(V->Option X)->Option X
 | [r],k=>match m r with
  | some (.sl y)=>k y
  | _=>none
 | j :: i :: s :: q,k=>fl m q fun y=>match y with
  | .sl t (o+2) _ l=>if s=aB t then (if h:i<l.length then (match (enc t o l[i])[j]? with | some z=>k z | none=>none)else none)else none
  | _=>none
 | _,_=>none
theorem qx{m:Nat->Option aP}:∀ (q:List Nat) (k:V->Option X),fl m q k=some r->∃ y,rL m q y/\k y=some r
 | [],_,h=>by simp[fl]at h
 | [x],k,h=>by
  simp only[fl]at h
  split at h
  ·rename_i y hy;exact⟨y,.root x y hy,h⟩
  ·cases h
 | [_,_],_,h=>by simp[fl]at h
 | j :: i :: s :: q,k,h=>by
  simp only[fl]at h
  obtain⟨y,hy,h2⟩:=qx q _ h
  clear h
  split at h2
  ·split at h2
   ·rename_i hs
    subst hs
    split at h2
    ·rename_i hi
     split at h2
     ·rename_i z hz;exact⟨z,.elem j i q _ _ _ _ z hy hi hz,h2⟩
     ·cases h2
    ·cases h2
   ·cases h2
  ·cases h2
def gB{X:Type}(σ:S)(x:Lf)(k:V->Option X):Option X:=
 match x with
 | .v y=>k y
 | .own q=>fl σ.m q k
 | .dead=>none
theorem RV.part{q:List Nat}{tc:TC}{g:Nat}{qn:Bool}{xs:List (T tc)}{A:Option Addr}{n c a h:Nat}(hr:RV w B af q (.sl tc g qn xs) (.slice A n c))(hg:g<2)(h1:a<=h)(h2:h<=xs.length):RV w B af q (.sl tc g false ((xs.take h).drop a)) (sliced A a h c (aB tc))/\n=xs.length/\xs.length<=c:=by
 have hlen:((xs.take h).drop a).length=h-a:=by simp;omega
 cases hr with
 | cD=>
  have:a=0:=by simp at h2;omega
  have:h=0:=by simpa using h2
  subst_vars
  exact⟨.cD _ _ _,rfl,Nat.le_refl _⟩
 | cK=>
  have:h=0:=by simpa using h2
  subst this
  have:a=0:=by omega
  subst this
  exact⟨by unfold sliced;split <;>exact .cK _ _ _ _ _ hg,rfl,Nat.zero_le _⟩
 | cW=>
  have:h=0:=by simpa using h2
  subst this
  have:a=0:=by omega
  subst this
  exact⟨by unfold sliced;split <;>exact .cK _ _ _ _ _ hg,rfl,Nat.zero_le _⟩
 | own=>omega
 | ah _ _ _ _ _ b off cap u ho hl hb hB dP hc hr=>
  refine⟨?_,rfl,dP⟩
  by_cases he:a=h
  ·subst he
   have e0:(xs.take a).drop a=[]:=List.eq_nil_of_length_eq_zero (by rw[hlen];omega)
   rw[e0]
   unfold sliced
   rw[Nat.sub_self]
   split <;>exact .cK _ _ _ _ _ hg
  ·unfold sliced
   rw[if_neg (by omega),<-hlen]
   have vb:(some (⟨b,off,none⟩:Addr)).map (·.add (a*aB tc))=some ⟨b,off+a*aB tc,none⟩:=by
    simp only[Option.map_some]
    unfold Addr.add
    split <;>simp_all
   rw[vb]
   have iG:∀ i (hi:i<((xs.take h).drop a).length),((xs.take h).drop a)[i]=xs[a+i]'(by omega):=by
    intro i hi
    rw[List.getElem_drop,List.getElem_take]
   refine .ah _ _ _ _ _ b (off+a*aB tc) (c-a) (fun i j=>u (a+i) j) ho hl hb hB (by omega) (fun i hi j x hx=>?_) (fun i hi j x hx=>?_)
   ·rw[iG i hi]at hx
    have:=hc (a+i) (by omega) j x hx
    rw[<-this]
    congr 2
    rw[Nat.add_mul]
    omega
   ·rw[iG i hi]at hx
    exact hr (a+i) (by omega) j x hx
def UG(s i j:Nat):V->Option V
 | .sl t _ _ l=>bif Nat.beq s (aB t)then some (.sl t 0 false ((l.take j).drop i))else none
 | _=>none
def pQ{X:Type}(σ:S)(q:List Nat)(s i j:Nat)(k:V->Option X):Option X:=
 fl σ.m q fun y=>match UG s i j y with
  | some z=>k z
  | none=>none
def nM{X:Type}(σ:S)(y:A)(k:V->Option X):Option X:=
 match y with
 | .lf l=>gB σ l k
 | .view q s i j=>pQ σ q s i j k
 | _=>none
theorem UH{q:List Nat}{s i j:Nat}{k:V->Option X}(h:pQ σ q s i j k=some r):∃ z,k z=some r/\z.ah=true/\∀ w0 N af ρ a w,Rl w0 N af ρ σ a w->∀ u,RA w w0.heap.size af ρ (.view q s i j) u->∀ B',RV w B' (fun _=>none) [] z u:=by
 obtain⟨y,hy,h2⟩:=qx q _ h
 clear h
 split at h2
 ·rename_i z hz
  unfold UG at hz
  split at hz
  ·rename_i t g qn l
   cases hs:Nat.beq s (aB t)with
   | false=>rw[hs]at hz;cases hz
   | true=>
    rw[hs,cond_true]at hz
    obtain rfl:=Nat.eq_of_beq_eq_true hs
    injection hz with hz
    subst hz
    refine⟨_,h2,rfl,fun w0 N af ρ a w hR u hu B'=>?_⟩
    obtain⟨A,n,c,hv,h1,h3,rfl⟩:=hu
    obtain⟨v,dR,hr⟩:=hy.ok hR.root
    rw[hv]at dR
    injection dR with dR
    subst dR
    have hf:RV w B' (fun _=>none) [] (.sl t 0 qn l) (.slice A n c):=hr.iZ
    have hn:n=l.length:=by cases hf <;>rfl
    exact(hf.part (by omega) h1 (by omega)).1
  ·cases hz
 ·cases h2
def vK{X:Type}(x:A)(k:V->Option X):Option X:=
 match x with
 | .lf (.v y)=>k y
 | _=>none
theorem Hw{x:A}{k:V->Option X}(h:vK x k=some r):∃ y,x = .lf (.v y)/\k y=some r:=by
 unfold vK at h
 split at h
 ·exact⟨_,rfl,h⟩
 ·cases h
theorem RV.iH{q:List Nat}{k:IntKind}{n:Int}{u:Value}(h:RV w B af q (.int k n) u):u = .int k n:=by cases h;rfl
theorem RV.vC{q:List Nat}{n:Bool}{u:Value}(h:RV w B af q (.bool n) u):u = .bool n:=by cases h;rfl
theorem RV.qy{q:List Nat}{n:ByteArray}{u:Value}(h:RV w B af q (.str n) u):u = .string n:=by cases h;rfl
/-! Arithmetic and comparison. -/
def cu(n:Nat):Bool:=decide (n<1073741824)
def kO{X:Type}(P:Program)(ty:TypeId)(op:BinOp)(x y:V)(k:V->Option X):Option X:=
 match x,y with
 | .int kx a,.int ky b=>match op with
  | .shl=>if b<0 then none else k (.int kx (kx.wrap (a*2 ^ (min b.toNat kx.bits))))
  | .shr=>if b<0 then none else k (.int kx (a.fdiv (2 ^ (min b.toNat kx.bits))))
  | op=>if kx=ky then (match op with
   | .add=>k (.int kx (kx.wrap (a+b)))
   | .sub=>k (.int kx (kx.wrap (a-b)))
   | .mul=>k (.int kx (kx.wrap (a*b)))
   | .quo=>if b=0 then none else k (.int kx (kx.wrap (a.tdiv b)))
   | .rem=>if b=0 then none else k (.int kx (a.tmod b))
   | .and=>k (.int kx (bits .and kx a b))
   | .or=>k (.int kx (bits .or kx a b))
   | .xor=>k (.int kx (bits .xor kx a b))
   | .andNot=>k (.int kx (bits .andNot kx a b))
   | .eql=>k (.bool (a==b))
   | .neq=>k (.bool (a != b))
   | .lss=>k (.bool (decide (a<b)))
   | .leq=>k (.bool (decide (a<=b)))
   | .gtr=>k (.bool (decide (a > b)))
   | .geq=>k (.bool (decide (a >= b)))
   | _=>none)else none
 | .bool a,.bool b=>match P.underlying ty with
  | some .bool=>(match op with
   | .eql=>k (.bool (a==b))
   | .neq=>k (.bool (!(a==b)))
   | _=>none)
  | _=>none
 | .str a,.str b=>match op with
  | .add=>bif cu (a.size+b.size)then k (.str (a++b))else none
  | .eql=>k (.bool (a.toList==b.toList))
  | .neq=>k (.bool (!(a.toList==b.toList)))
  | _=>none
 | _,_=>none
theorem ahG{ty:TypeId}{op:BinOp}{x y:V}{k:V->Option X}(h:kO P ty op x y k=some r):∃ z,k z=some r/\z.plain=true/\∀ (w:World) (B:Nat) (af:bq) (xo yo:Operand) (q q':List Nat) (u v:Value),RV w B af q x u->RV w B af q' y v->
  ∃ t,(do eqGuard op ty xo yo u v;binOp op ty u v:Sem Value).run P w = .ok t w/\RV w B af [] z t:=by
 unfold kO at h
 split at h
 ·rename_i kx a ky b
  split at h
  ·split at h
   ·cases h
   ·rename_i hb
    refine⟨_,h,rfl,fun w B af xo yo q q' u v hu hv=>?_⟩
    obtain rfl:=hu.iH
    obtain rfl:=hv.iH
    exact⟨_,by simp[eqGuard,binOp,Op.shift,hb],.int _ _ _⟩
  ·split at h
   ·cases h
   ·rename_i hb
    refine⟨_,h,rfl,fun w B af xo yo q q' u v hu hv=>?_⟩
    obtain rfl:=hu.iH
    obtain rfl:=hv.iH
    exact⟨_,by simp[eqGuard,binOp,Op.shift,hb],.int _ _ _⟩
  ·rename_i h1 h2
   split at h
   ·rename_i hk
    subst hk
    cases op
    case shl=>exact absurd rfl h1
    case shr=>exact absurd rfl h2
    case quo=>
     by_cases hb:b=0
     ·simp only[hb,if_true]at h;cases h
     ·simp only[hb,if_false]at h
      refine⟨_,h,rfl,fun w B af xo yo q q' u v hu hv=>?_⟩
      obtain rfl:=hu.iH
      obtain rfl:=hv.iH
      exact⟨_,by simp[eqGuard,binOp,Op.intDiv,hb],.int _ _ _⟩
    case rem=>
     by_cases hb:b=0
     ·simp only[hb,if_true]at h;cases h
     ·simp only[hb,if_false]at h
      refine⟨_,h,rfl,fun w B af xo yo q q' u v hu hv=>?_⟩
      obtain rfl:=hu.iH
      obtain rfl:=hv.iH
      exact⟨_,by simp[eqGuard,binOp,Op.intDiv,hb],.int _ _ _⟩
    all_goals first
     | (refine⟨_,h,rfl,fun w B af xo yo q q' u v hu hv=>?_⟩
        obtain rfl:=hu.iH
        obtain rfl:=hv.iH
        first
         | (refine⟨_,?_,.int _ _ _⟩;simp[eqGuard,binOp,Op.intArith];done)
         | (refine⟨_,?_,.int _ _ _⟩;simp[eqGuard,binOp,intBits_and,intBits_or,intBits_xor,intBits_andNot];done)
         | (refine⟨_,?_,.bool _ _⟩;simp[eqGuard,binOp,Op.intCmp];done))
     | cases h
   ·cases h
 ·rename_i a b
  split at h
  ·rename_i C6
   split at h
   ·refine⟨_,h,rfl,fun w B af xo yo q q' u v hu hv=>?_⟩
    obtain rfl:=hu.vC
    obtain rfl:=hv.vC
    have e:binOp .eql ty (.bool a) (.bool b)=(do pure (.bool (<-Op.equal ty (.bool a) (.bool b)))):=rfl
    have g:eqGuard .eql ty xo yo (.bool a) (.bool b)=pure ():=rfl
    exact⟨_,by rw[e,g,Sem.run_bind,Sem.run_pure,Result.andThen_ok,Sem.run_bind,run_equal_bool _ _ _ _ C6];rfl,.bool _ _⟩
   ·refine⟨_,h,rfl,fun w B af xo yo q q' u v hu hv=>?_⟩
    obtain rfl:=hu.vC
    obtain rfl:=hv.vC
    have e:binOp .neq ty (.bool a) (.bool b)=(do pure (.bool (!(<-Op.equal ty (.bool a) (.bool b))))):=rfl
    have g:eqGuard .neq ty xo yo (.bool a) (.bool b)=pure ():=rfl
    exact⟨_,by rw[e,g,Sem.run_bind,Sem.run_pure,Result.andThen_ok,Sem.run_bind,run_equal_bool _ _ _ _ C6];rfl,.bool _ _⟩
   ·cases h
  ·cases h
 ·rename_i a b
  split at h
  ·cases hL:cu (a.size+b.size)with
   | false=>rw[hL]at h;cases h
   | true=>
    rw[hL]at h
    refine⟨_,h,rfl,fun w B af xo yo q q' u v hu hv=>?_⟩
    obtain rfl:=hu.qy
    obtain rfl:=hv.qy
    have hL':a.size+b.size<1073741824:=by simpa [cu]using hL
    refine⟨_,?_,.str _ _⟩
    have h9:IntKind.i64.max=9223372036854775807:=rfl
    simp only[eqGuard,binOp,Op.stringOp,h9]
    simp
    omega
  ·refine⟨_,h,rfl,fun w B af xo yo q q' u v hu hv=>?_⟩
   obtain rfl:=hu.qy
   obtain rfl:=hv.qy
   exact⟨_,by simp[eqGuard,binOp,Op.stringOp],.bool _ _⟩
  ·refine⟨_,h,rfl,fun w B af xo yo q q' u v hu hv=>?_⟩
   obtain rfl:=hu.qy
   obtain rfl:=hv.qy
   exact⟨_,by simp[eqGuard,binOp,Op.stringOp],.bool _ _⟩
  ·cases h
 ·cases h
def AG{X:Type}(op:UnOp)(x:V)(k:V->Option X):Option X:=
 match op,x with
 | .not,.bool b=>k (.bool (!b))
 | .neg,.int kx n=>k (.int kx (kx.wrap (0-n)))
 | _,_=>none
theorem ahH{op:UnOp}{x:V}{k:V->Option X}(h:AG op x k=some r):∃ z,k z=some r/\z.plain=true/\∀ (w:World) (B:Nat) (af:bq) (q:List Nat) (u:Value),RV w B af q x u->∃ t,(Op.unary op u).run P w = .ok t w/\RV w B af [] z t:=by
 unfold AG at h
 split at h
 ·refine⟨_,h,rfl,fun w B af q u hu=>?_⟩
  obtain rfl:=hu.vC
  exact⟨_,by simp[Op.unary],.bool _ _⟩
 ·refine⟨_,h,rfl,fun w B af q u hu=>?_⟩
  obtain rfl:=hu.iH
  exact⟨_,by simp[Op.unary,Op.intArith],.int _ _ _⟩
 ·cases h
theorem V.C7{x:V}(h:x.plain=true):x.ah=true:=by cases x <;>first | rfl | cases h
end
end Go.Proofs.YtinbifpbkcbnkaaGreat
namespace Go.Proofs.YtinbifpbkcbnkaaGreat
open Go.RowKit
set_option linter.unusedVariables false
def jn(P:Program)(t:TypeId):Option Nat:=(P.info? t).map (·.size)
def AH(P:Program)(t:TypeId):Option Bool:=
 match P.underlying t with
 | some (.struct _) | some (.array _ _)=>some true
 | some _=>some false
 | none=>none
def pR(P:Program)(t:TypeId):Option TypeId:=
 match P.underlying t with
 | some (.slice e)=>some e
 | _=>none
def C8(P:Program)(s:TypeId)(f:Nat):Option Field:=
 match P.underlying s with
 | some (.struct fs)=>fs[f]?
 | _=>none
def jo{X:Type}(P:Program)(t:TypeId)(cs:List Lf)(k:A->Option X):Option X:=
 match jn P t with
 | some n=>if cs.length=n then (match AH P t with
  | some true=>k (.agg cs)
  | some false=>(match cs with
   | [y]=>k (.lf y)
   | _=>none)
  | none=>none)else none
 | none=>none
def leaves(key:Nat->List Nat):Nat->List V->List Lf
 | _,[]=>[]
 | j,z :: zs=>(bif z.ah then .v z else .own (key j)) :: leaves key (j+1) zs
def g7{X:Type}(P:Program)(σ:S)(t:TypeId)(x:A)(k:A->Option X):Option X:=
 match jn P t with
 | none=>none
 | some n=>match x with
  | .aC r j=>(match σ.m r with
   | some (.ak cs)=>jo P t ((cs.drop j).take n) k
   | _=>none)
  | .gz cs=>jo P t ((cs.take n).map .v) k
  | .ptr (j :: i :: s :: q)=>fl σ.m q fun y=>(match y with
   | .sl t' (o+2) _ l=>if s=aB t' then (if h:i<l.length then jo P t (leaves (fun j'=>j' :: i :: s :: q) j (((enc t' o l[i]).drop j).take n)) k else none)else none
   | _=>none)
  | _=>none
section
variable {P:Program} {w:World} {w0:Wd} {B N:Nat} {af:bq} {ρ:Nat->Loc} {σ:S} {a:Act} {X:Type} {r:X} {o:Oper}
theorem NJ(key:Nat->List Nat):∀ (j:Nat) (zs:List V) (n:Nat),(leaves key j zs)[n]?=(zs[n]?).map fun z=>bif z.ah then .v z else .own (key (j+n))
 | _,[],n=>by simp[leaves]
 | j,z :: zs,0=>by simp[leaves]
 | j,z :: zs,n+1=>by
  simp only[leaves,List.getElem?_cons_succ,NJ key (j+1) zs n]
  rw[show j+1+n=j+(n+1) by omega]
theorem NK{t:TypeId}{cs:List Lf}{k:A->Option X}(h:jo P t cs k=some r):∃ x,k x=some r/\∀ (w:World) (B:Nat) (af:bq) (ρ:Nat->Loc) (b o:Nat) (vs:List Value),cX w B af ρ cs vs.toArray->w.rangeAt b o vs->
  ∃ v,(Instr.loadAt t (.pointer (some ⟨b,o,none⟩))).run P w = .ok v w/\RA w B af ρ x v:=by
 unfold jo at h
 split at h
 ·rename_i n hn
  split at h
  ·rename_i hlen
   split at h
   ·rename_i jz
    refine⟨_,h,fun w B af ρ b o vs hl hr=>?_⟩
    have pS:vs.length=n:=by have:=hl.1;simpa [hlen]using this
    unfold AH at jz
    split at jz
    ·rename_i fs hu
     exact⟨_,run_loadAt_mid w b o t vs _ hr hu rfl (by rw[pS];exact hn),_,rfl,hl⟩
    ·rename_i c e hu
     exact⟨_,run_loadAt_mid w b o t vs _ hr hu rfl (by rw[pS];exact hn),_,rfl,hl⟩
    ·cases jz
    ·cases jz
   ·rename_i jz
    split at h
    ·rename_i y
     refine⟨_,h,fun w B af ρ b o vs hl hr=>?_⟩
     have pS:vs.length=1:=by have:=hl.1;simpa using this
     obtain⟨v,rfl⟩:=List.length_eq_one_iff.1 pS
     have hv:w.cell? ⟨b,o,none⟩=some v:=hr 0 v rfl
     obtain⟨u,hu,hR⟩:=hl.2 0 y rfl
     have:v=u:=by simpa using hu
     subst this
     refine⟨v,?_,hR⟩
     unfold AH at jz
     split at jz
     ·cases jz
     ·cases jz
     ·rename_i d hs ha hu
      have tf:(isAgg t).run P w = .ok false w:=by
       unfold isAgg
       rw[Sem.run_bind,run_underlying hu w]
       cases d <;>first | rfl | (rename_i x;exact absurd rfl (hs x)) | (rename_i x y;exact absurd rfl (ha x y)) | simp_all
      simp[Instr.loadAt,Instr.sureAddr,loadVar,Sem.run_bind,tf,load,Sem.run,hv]
     ·cases jz
    ·cases h
   ·cases h
  ·cases h
 ·cases h
theorem Hx{α:Type}(l:List α)(j n i:Nat)(x:α)(h:((l.drop j).take n)[i]?=some x):i<n/\l[j+i]?=some x:=by
 rw[List.getElem?_take]at h
 split at h
 ·rename_i hi;rw[List.getElem?_drop]at h;exact⟨hi,h⟩
 ·cases h
theorem UI{t:TypeId}{x:A}{k:A->Option X}(h:g7 P σ t x k=some r):∃ y,k y=some r/\∀ af ρ a w,Rl w0 N af ρ σ a w->∀ u,RA w w0.heap.size af ρ x u->
  ∃ v,(Instr.loadAt t u).run P w = .ok v w/\RA w w0.heap.size af ρ y v:=by
 unfold g7 at h
 split at h
 ·cases h
 ·rename_i n hn
  split at h
  ·rename_i r' j
   split at h
   ·rename_i cs dn
    obtain⟨y,hy,hf⟩:=NK h
    refine⟨y,hy,fun af ρ a w hR u hu=>?_⟩
    obtain⟨b,off,aK,rfl⟩:=hu
    have hr:=hR.root r' _ dn
    generalize he:aP.ak cs=x at hr
    cases hr with
    | sl=>cases he
    | mp=>cases he
    | gh=>cases he
    | ak b' qq cells e fz us gl hl hh hs hc=>
     injection he with he
     subst he
     rw[aK]at gl
     injection gl with e1 e2
     subst e1 e2
     refine hf w _ af ρ b (off+j) (((cs.drop j).take n).mapIdx fun i _=>us (j+i)) ⟨by simp,fun i x hx=>?_⟩ (fun i v hv=>?_)
     ·obtain⟨hi,cz⟩:=Hx _ _ _ _ _ hx
      refine⟨us (j+i),?_,(hc _ x cz).2⟩
      simp only[List.getElem?_toArray,List.getElem?_mapIdx,hx,Option.map_some]
     ·rw[List.getElem?_mapIdx]at hv
      cases hx:((cs.drop j).take n)[i]? with
      | none=>rw[hx]at hv;cases hv
      | some x=>
       rw[hx]at hv
       injection hv with hv
       subst hv
       obtain⟨hi,cz⟩:=Hx _ _ _ _ _ hx
       rw[cell_of_row w b _ cells _ _ hh,Nat.add_assoc]
       exact(hc _ x cz).1
   ·cases h
  ·rename_i cs
   obtain⟨y,hy,hf⟩:=NK h
   refine⟨y,hy,fun af ρ a w hR u hu=>?_⟩
   obtain⟨b,off,rfl,hb,hl,hc⟩:=hu
   have iG:∀ (i:Nat) (x:Lf),((cs.take n).map Lf.v)[i]?=some x->∃ z v,x = .v z/\z.ah=true/\w.cell? ⟨b,off+i,none⟩=some v/\RV w w0.heap.size af [] z v:=by
    intro i x hx
    rw[List.getElem?_map]at hx
    cases hz:(cs.take n)[i]? with
    | none=>rw[hz]at hx;cases hx
    | some z=>
     rw[hz]at hx
     injection hx with hx
     rw[List.getElem?_take]at hz
     split at hz
     ·obtain⟨nN,v,hv,hr⟩:=hc i z hz
      exact⟨z,v,hx.symm,nN,hv,hr⟩
     ·cases hz
   refine hf w _ af ρ b off (((cs.take n).map Lf.v).mapIdx fun i _=>(w.cell? ⟨b,off+i,none⟩).getD undef) ⟨by simp,fun i x hx=>?_⟩ (fun i v hv=>?_)
   ·obtain⟨z,v,rfl,nN,hv,hr⟩:=iG i x hx
    refine⟨v,?_,nN,hr⟩
    simp only[List.getElem?_toArray,List.getElem?_mapIdx,hx,Option.map_some,hv,Option.getD_some]
   ·rw[List.getElem?_mapIdx]at hv
    cases hx:((cs.take n).map Lf.v)[i]? with
    | none=>rw[hx]at hv;cases hv
    | some x=>
     rw[hx]at hv
     obtain⟨z,v',rfl,nN,dR,hr⟩:=iG i x hx
     rw[dR]at hv
     injection hv with hv
     rw[dR]
     exact congrArg some hv
  ·rename_i j i s q
   obtain⟨y0,hg,h2⟩:=qx _ _ h
   clear h
   split at h2
   ·rename_i t' o' qn l
    split at h2
    ·rename_i hs
     subst hs
     split at h2
     ·rename_i hi
      obtain⟨y,hy,hf⟩:=NK h2
      refine⟨y,hy,fun af ρ a w hR u hu=>?_⟩
      obtain⟨ad,rfl,iF⟩:=hu
      obtain⟨hv,eW,lG⟩:=hg.ok hR.root
      cases lG with
      | cD=>simp at hi
      | cK=>simp at hi
      | cW=>simp at hi
      | ah _ _ _ _ _ _ _ _ _ ho=>omega
      | own _ _ _ _ _ b cap cs us c9 hh hs hn xF hc hr=>
       rw[xB j i (aB t') eW c9]at iF
       injection iF with iF
       subst iF
       have iG:∀ (m:Nat) (x:Lf),(leaves (fun j'=>j' :: i :: aB t' :: q) j (((enc t' o' l[i]).drop j).take n))[m]?=some x->cs[i*aB t'+(j+m)]?=some (us i (j+m))/\cL w w0.heap.size af ρ x (us i (j+m)):=by
        intro m x hx
        rw[NJ]at hx
        cases hz:(((enc t' o' l[i]).drop j).take n)[m]? with
        | none=>rw[hz]at hx;cases hx
        | some z=>
         rw[hz]at hx
         injection hx with hx
         have hx:(bif z.ah then Lf.v z else Lf.own ((j+m) :: i :: aB t' :: q))=x:=hx
         obtain⟨_,AI⟩:=Hx _ _ _ _ _ hz
         have h3:=hc i hi _ z AI
         have h4:=hr i hi _ z AI
         refine⟨h3,?_⟩
         cases AJ:z.ah with
         | true=>
          rw[AJ]at hx
          have hx:Lf.v z=x:=hx
          subst hx
          exact⟨AJ,h4.key AJ⟩
         | false=>
          rw[AJ]at hx
          have hx:Lf.own ((j+m) :: i :: aB t' :: q)=x:=hx
          subst hx
          refine⟨?_,?_⟩
          ·exact h4.Hs AJ
          ·rw[Hu,xB (j+m) i (aB t') eW c9]
           show w.cell? _=_
           rw[cell_of_row w b _ cs _ _ hh]
           exact h3
       refine hf w _ af ρ b (i*aB t'+j) ((leaves (fun j'=>j' :: i :: aB t' :: q) j (((enc t' o' l[i]).drop j).take n)).mapIdx fun m _=>us i (j+m)) ⟨by simp,fun m x hx=>?_⟩ (fun m v hv=>?_)
       ·refine⟨us i (j+m),?_,(iG m x hx).2⟩
        simp only[List.getElem?_toArray,List.getElem?_mapIdx,hx,Option.map_some]
       ·rw[List.getElem?_mapIdx]at hv
        cases hx:(leaves (fun j'=>j' :: i :: aB t' :: q) j (((enc t' o' l[i]).drop j).take n))[m]? with
        | none=>rw[hx]at hv;cases hv
        | some x=>
         rw[hx]at hv
         injection hv with hv
         subst hv
         rw[cell_of_row w b _ cs _ _ hh,Nat.add_assoc]
         exact(iG m x hx).1
     ·cases h2
    ·cases h2
   ·cases h2
  ·cases h
end
end Go.Proofs.YtinbifpbkcbnkaaGreat
namespace Go.Proofs.YtinbifpbkcbnkaaGreat
open Go.RowKit
set_option linter.unusedVariables false
def A.vD:A->Option (List Lf)
 | .lf x=>some [x]
 | .agg xs=>some xs
 | _=>none
def Lf.live:Lf->Bool
 | .dead=>false
 | _=>true
def Lf.pl:Lf->Option V
 | .v x=>bif x.plain then some x else none
 | _=>none
def th:List Lf->Option (List V)
 | []=>some []
 | x :: xs=>match x.pl,th xs with
  | some y,some ys=>some (y :: ys)
  | _,_=>none
def mN{X:Type}(m:Nat->Option aP):List Nat->V->((Nat->Option aP)->Option X)->Option X
 | [r],y,k=>match m r with
  | some (.sl _)=>k (bG m r (some (.sl y)))
  | _=>none
 | j :: i :: s :: q,y,k=>fl m q fun z=>match z with
  | .sl t (o+2) qn l=>if s=aB t then (if h:i<l.length then (if j<aB t then (match dec t o (eH (enc t o l[i]) j [y])with
   | some e=>mN m q (.sl t (o+2) qn (l.set i e)) k
   | none=>none)else none)else none)else none
  | _=>none
 | _,_,_=>none
def lH{X:Type}(P:Program)(σ:S)(t:TypeId)(x y:A)(k:S->Option X):Option X:=
 match jn P t,y.vD with
 | some n,some xs=>if xs.length=n then (match x with
  | .aC r j=>(match σ.m r with
   | some (.ak cs)=>if j+n<=cs.length then (bif xs.all Lf.live then k ⟨σ.t,bG σ.m r (some (.ak (eH cs j xs)))⟩else none)else none
   | _=>none)
  | .ptr (j :: i :: s :: q)=>(match th xs with
   | none=>none
   | some vs=>fl σ.m q fun y=>(match y with
    | .sl t' (o+2) qn l=>if s=aB t' then (if h:i<l.length then (if j+vs.length<=aB t' then (bif (((enc t' o l[i]).drop j).take vs.length).all V.plain then (match dec t' o (eH (enc t' o l[i]) j vs)with
     | some e=>mN σ.m q (.sl t' (o+2) qn (l.set i e)) fun m=>k ⟨σ.t,m⟩
     | none=>none)else none)else none)else none)else none
    | _=>none))
  | _=>none)else none
 | _,_=>none
section
variable {P:Program} {w:World} {w0:Wd} {B N:Nat} {af:bq} {ρ:Nat->Loc} {σ:S} {a:Act} {X:Type} {r:X} {o:Oper}
theorem UJ{m:Nat->Option aP}:∀ (q:List Nat) (y:V) (k:(Nat->Option aP)->Option X),mN m q y k=some r->∃ m',xE m q y m'/\k m'=some r
 | [],_,_,h=>by simp[mN]at h
 | [x],y,k,h=>by
  simp only[mN]at h
  split at h
  ·rename_i y0 hy;exact⟨_,.root x y0 y hy,h⟩
  ·cases h
 | [_,_],_,_,h=>by simp[mN]at h
 | j :: i :: s :: q,y,k,h=>by
  simp only[mN]at h
  obtain⟨z,hz,h2⟩:=qx q _ h
  clear h
  split at h2
  ·split at h2
   ·rename_i hs
    subst hs
    split at h2
    ·rename_i hi
     split at h2
     ·rename_i hj
      split at h2
      ·rename_i e he
       obtain⟨m',lI,h3⟩:=UJ q _ k h2
       exact⟨m',.elem j i q _ _ _ _ y e m' hz hi hj he lI,h3⟩
      ·cases h2
     ·cases h2
    ·cases h2
   ·cases h2
  ·cases h2
theorem NL:∀ (xs:List Lf) (vs:List V),th xs=some vs->xs=vs.map .v/\∀ v∈vs,v.plain=true
 | [],vs,h=>by
  simp[th]at h
  subst h
  exact⟨rfl,by simp⟩
 | x :: xs,vs,h=>by
  unfold th at h
  split at h
  ·rename_i y ys hy oJ
   injection h with h
   subst h
   obtain⟨h1,h2⟩:=NL xs ys oJ
   have:x = .v y/\y.plain=true:=by
    cases x with
    | v z=>
     unfold Lf.pl at hy
     cases hz:z.plain with
     | true=>
      simp only[hz,cond_true]at hy
      injection hy with hy
      subst hy
      exact⟨rfl,hz⟩
     | false=>simp[hz]at hy
    | own q=>cases hy
    | dead=>cases hy
   refine⟨by rw[this.1,h1];rfl,fun v hv=>?_⟩
   rcases List.mem_cons.1 hv with rfl | hv
   ·exact this.2
   ·exact h2 v hv
  ·cases h
theorem ahI{u:Value}(h:u.oneCell'=true):u.cells = #[u]:=by cases u <;>first | rfl | cases h
theorem cL.one{x:Lf}{u:Value}(h:cL w B af ρ x u)(hd:x.live=true):u.oneCell'=true:=by
 cases x with
 | v z=>exact h.2.one
 | own k=>
  have:=h.1
  cases u <;>first | rfl | cases this
 | dead=>cases hd
theorem C9{y:A}{xs:List Lf}(h:y.vD=some xs)(hd:xs.all Lf.live=true){u:Value}(hu:RA w B af ρ y u):cX w B af ρ xs u.cells/\u.cells.all (·.oneCell')=true:=by
 have key:∀ us:Array Value,cX w B af ρ xs us->us.all (·.oneCell')=true:=by
  intro us hs
  rw[Array.all_eq_true]
  intro i hi
  have hx:=List.getElem?_eq_getElem (l:=xs) (i:=i) (by rw[<-hs.1];exact hi)
  obtain⟨v,hv,hr⟩:=hs.2 i _ hx
  have:us[i]=v:=by rw[Array.getElem?_eq_getElem hi]at hv;injection hv
  rw[this]
  exact hr.one (List.all_eq_true.1 hd _ (List.getElem_mem _))
 cases y with
 | lf x=>
  injection h with h
  subst h
  have hu:cL w B af ρ x u:=hu
  have h1:=hu.one (by simpa using hd)
  have:cX w B af ρ [x] u.cells:=by
   rw[ahI h1]
   refine⟨rfl,fun j y hy=>?_⟩
   cases j with
   | zero=>simp at hy;subst hy;exact⟨u,rfl,hu⟩
   | succ j=>simp at hy
  exact⟨this,key _ this⟩
 | agg xs'=>
  injection h with h
  subst h
  obtain⟨us,rfl,h⟩:=hu
  exact⟨h,key _ h⟩
 | _=>cases h
theorem NM(w:World)(b o:Nat)(ty:TypeId)(v:Value)(ht:w.there b o v.cells.size)(hi:(P.info? ty).map (·.size)=some v.cells.size)(h1:v.cells.all (·.oneCell')=true):
  (Instr.storeAt ty (.pointer (some ⟨b,o,none⟩)) v).run P w = .ok () (w.setCells b o v.cells.toList):=by
 have:=run_storeCells_cells (P:=P) b o v.cells.toList 0 w (fun j hj=>by simpa using (ht j (by simpa using hj)).1) (fun j hj=>by simpa using (ht j (by simpa using hj)).2)
  (fun v hv=>(Array.all_eq_true_iff_forall_mem.1 h1) v (by simpa using hv))
 cases hq:P.info? ty with
 | none=>simp[hq]at hi
 | some i=>
  have hs:v.cells.size=i.size:=by simp[hq]at hi;omega
  simp only[Nat.add_zero]at this
  simp[Instr.storeAt,Instr.sureAddr,storeVar,sizeOf,typeInfo,hq,hs,this]
theorem UK{t:TypeId}{x y:A}{k:S->Option X}(h:lH P σ t x y k=some r):∃ aj,k aj=some r/\∀ af ρ a w,Rl w0 N af ρ σ a w->∀ u v,RA w w0.heap.size af ρ x u->RA w w0.heap.size af ρ y v->
  ∃ w',(Instr.storeAt t u v).run P w = .ok () w'/\Rl w0 N af ρ aj a w':=by
 unfold lH at h
 split at h
 ·rename_i n xs hn fJ
  split at h
  ·rename_i hlen
   split at h
   ·rename_i r' j
    split at h
    ·rename_i cs dn
     split at h
     ·rename_i hj
      cases ij:xs.all Lf.live with
      | false=>rw[ij]at h;cases h
      | true=>
       rw[ij]at h
       refine⟨_,h,fun af ρ a w hR u v hu hv=>?_⟩
       obtain⟨b,off,aK,rfl⟩:=hu
       obtain⟨hl,ke⟩:=C9 fJ ij hv
       obtain⟨b',qq,gl,Da,aT⟩:=hR.C3 dn hl (by rw[hlen];exact hj)
       rw[aK]at gl
       injection gl with e1 e2
       subst e1 e2
       exact⟨_,NM w b (off+j) t v Da (by rw[hl.1,hlen];exact hn) ke,aT⟩
     ·cases h
    ·cases h
   ·rename_i j i s q
    split at h
    ·cases h
    ·rename_i vs fK
     obtain⟨y0,hg,h2⟩:=qx _ _ h
     clear h
     split at h2
     ·rename_i t' o' qn l
      split at h2
      ·rename_i hs
       subst hs
       split at h2
       ·rename_i hi
        split at h2
        ·rename_i hj
         cases hold:(((enc t' o' l[i]).drop j).take vs.length).all V.plain with
         | false=>rw[hold]at h2;cases h2
         | true=>
          rw[hold,cond_true]at h2
          split at h2
          ·rename_i e he
           obtain⟨m',lI,h3⟩:=UJ q _ _ h2
           refine⟨_,h3,fun af ρ a w hR u v hu hv=>?_⟩
           obtain⟨ad,rfl,iF⟩:=hu
           obtain⟨xH,NN⟩:=NL xs vs fK
           have ij:xs.all Lf.live=true:=by rw[xH];simp[Lf.live]
           obtain⟨hl,ke⟩:=C9 fJ ij hv
           have pS:vs.length=n:=by rw[<-hlen,xH,List.length_map]
           have q1:∀ (n':Nat) x,n'<vs.length->(enc t' o' l[i])[j+n']?=some x->x.plain=true:=by
            intro n' x vB hx
            refine List.all_eq_true.1 hold x (List.mem_of_getElem? (i:=n') ?_)
            rw[List.getElem?_take,if_pos vB,List.getElem?_drop]
            exact hx
           have q2:∀ (n':Nat) x,vs[n']?=some x->∃ u',v.cells[n']?=some u'/\RV w w0.heap.size af [] x u':=by
            intro n' x hx
            obtain⟨u',jI,cN⟩:=hl.2 n' (.v x) (by rw[xH,List.getElem?_map,hx];rfl)
            exact⟨u',jI,cN.2⟩
           obtain⟨b,hb,Da,aT⟩:=hR.ahE (xs:=vs) (us:=v.cells) hg hi hj he q1 NN (by rw[hl.1,xH,List.length_map]) q2 lI
           rw[iF]at hb
           injection hb with hb
           subst hb
           exact⟨_,NM w b _ t v Da (by rw[hl.1,hlen];exact hn) ke,aT⟩
          ·cases h2
        ·cases h2
       ·cases h2
      ·cases h2
     ·cases h2
   ·cases h
  ·cases h
 ·cases h
end
end Go.Proofs.YtinbifpbkcbnkaaGreat
namespace Go.Proofs.YtinbifpbkcbnkaaGreat
open Go.RowKit
set_option linter.unusedVariables false
def qz{X:Type}(P:Program)(s:TypeId)(x:A)(f:Nat)(k:A->Option X):Option X:=
 match C8 P s f with
 | none=>none
 | some fd=>match jn P fd.type with
  | some (_+1)=>(match x with
   | .aC r j=>k (.aC r (j+fd.offset))
   | .gz cs=>k (.gz (cs.drop fd.offset))
   | .ptr (j :: i :: s :: q)=>k (.ptr ((j+fd.offset) :: i :: s :: q))
   | _=>none)
  | _=>none
def mO{X:Type}(P:Program)(σ:S)(t:TypeId)(x i:A)(k:A->Option X):Option X:=
 match pR P t with
 | none=>none
 | some e=>match jn P e,i with
  | some n,.lf (.v (.int _ iv))=>(match x with
   | .lf (.v (.sl t' g _ l))=>if n=aB t' then (bif Nat.blt g 2 then (if h:0<=iv/\iv.toNat<l.length then k (.gz (enc t' g (l[iv.toNat]'h.2)))else none)else none)else none
   | .lf (.own q)=>fl σ.m q fun y=>(match y with
    | .sl t' g _ l=>if n=aB t' then (if h:0<=iv/\iv.toNat<l.length then (bif Nat.blt g 2 then k (.gz (enc t' g (l[iv.toNat]'h.2)))else k (.ptr (0 :: iv.toNat :: aB t' :: q)))else none)else none
    | _=>none)
   | _=>none)
  | _,_=>none
def kP{X:Type}(P:Program)(σ:S)(t:TypeId)(x:A)(k:A->Option X):Option X:=
 match x with
 | .lf y=>gB σ y fun z=>(match z with
  | .sl _ _ _ l=>(match P.underlying t with | some (.slice _)=>k (.lf (.v (.int .i64 (l.length:Int)))) | _=>none)
  | .nil=>(match P.underlying t with | some (.slice _)=>k (.lf (.v (.int .i64 0))) | _=>none)
  | .str s=>(match P.underlying t with | some .string=>k (.lf (.v (.int .i64 (s.size:Int)))) | _=>none)
  | _=>none)
 | .view _ _ i j=>(match P.underlying t with | some (.slice _)=>k (.lf (.v (.int .i64 ((j-i:Nat):Int)))) | _=>none)
 | _=>none
def pT:Bool×List Lf->Option A
 | (true,cs)=>some (.agg cs)
 | (false,[y])=>some (.lf y)
 | _=>none
def xI{X:Type}(x:A)(i:Nat)(k:A->Option X):Option X:=
 match x with
 | .cq xs=>match (xs[i]?).bind pT with
  | some y=>k y
  | none=>none
 | _=>none
section
variable {P:Program} {w:World} {w0:Wd} {B N:Nat} {af:bq} {ρ:Nat->Loc} {σ:S} {a:Act} {X:Type} {r:X} {o:Oper}
theorem ahJ(n:Nat){j i s:Nat}{q:List Nat}{ad:Addr}(h:addrAt w af ρ (j :: i :: s :: q)=some ad):addrAt w af ρ ((j+n) :: i :: s :: q)=some ⟨ad.block,ad.off+n,none⟩:=by
 match q,h with
 | [],h=>simp[addrAt]at h
 | [r],h=>
  simp only[addrAt]at h ⊢
  split at h
  ·split at h
   ·rename_i hl
    injection h with h
    subst h
    rw[if_pos hl,Nat.add_assoc]
   ·cases h
  ·cases h
 | x :: y :: q,h=>
  simp only[addrAt]at h ⊢
  split at h
  ·split at h
   ·rename_i hl
    injection h with h
    subst h
    rw[if_pos hl,Nat.add_assoc]
   ·cases h
  ·cases h
theorem NO(w:World)(s:TypeId)(f:Nat)(fd:Field)(n:Nat)(b off:Nat)(hf:C8 P s f=some fd)(hs:jn P fd.type=some (n+1)):
  (Instr.fieldAt s (.pointer (some ⟨b,off,none⟩)) f).run P w = .ok (.pointer (some ⟨b,off+fd.offset,none⟩)) w:=by
 unfold C8 at hf
 split at hf
 ·rename_i fs hu
  unfold jn at hs
  cases hq:P.info? fd.type with
  | none=>simp[hq]at hs
  | some i=>
   have hi:i.size=n+1:=by simpa [hq]using hs
   simp[Instr.fieldAt,run_underlying hu,hf,Instr.sureAddr,fieldPlace,sizeOf,typeInfo,hq,hi,Addr.add_mid]
 ·cases hf
theorem ahK{s:TypeId}{x:A}{f:Nat}{k:A->Option X}(h:qz P s x f k=some r):∃ y,k y=some r/\∀ (w:World) (B:Nat) (af:bq) (ρ:Nat->Loc) (u:Value),RA w B af ρ x u->
  ∃ v,(Instr.fieldAt s u f).run P w = .ok v w/\RA w B af ρ y v:=by
 unfold qz at h
 split at h
 ·cases h
 ·rename_i fd mP
  split at h
  ·rename_i n hn
   split at h
   ·rename_i r' j
    refine⟨_,h,fun w B af ρ u hu=>?_⟩
    obtain⟨b,off,aK,rfl⟩:=hu
    exact⟨_,NO w s f fd n b _ mP hn,b,off,aK,by rw[Nat.add_assoc]⟩
   ·rename_i cs
    refine⟨_,h,fun w B af ρ u hu=>?_⟩
    obtain⟨b,off,rfl,hb,hl,hc⟩:=hu
    refine⟨_,NO w s f fd n b _ mP hn,b,_,rfl,hb,hl,fun j x hx=>?_⟩
    rw[List.getElem?_drop]at hx
    have:=hc _ x hx
    rw[<-Nat.add_assoc]at this
    exact this
   ·rename_i j i s' q
    refine⟨_,h,fun w B af ρ u hu=>?_⟩
    obtain⟨ad,rfl,iF⟩:=hu
    have h2:=ahJ fd.offset iF
    obtain⟨_,_,_,_,_,_,_,td,_⟩:=vA _ _ iF
    obtain⟨b,off,sp⟩:=ad
    simp only at td
    subst td
    exact⟨_,NO w s f fd n b off mP hn,_,rfl,h2⟩
   ·cases h
  ·cases h
theorem NP(w:World)(t e:TypeId)(n b off len cap:Nat)(kk:IntKind)(iv:Int)(hu:pR P t=some e)(hs:jn P e=some n)(h0:0<=iv)(h1:iv.toNat<len):
  (Instr.indexAt t (.slice (some ⟨b,off,none⟩) len cap) (.int kk iv)).run P w = .ok (.pointer (some ⟨b,off+iv.toNat*n,none⟩)) w:=by
 unfold pR at hu
 split at hu
 ·rename_i e' jI
  injection hu with hu
  subst hu
  unfold jn at hs
  cases hq:P.info? e' with
  | none=>simp[hq]at hs
  | some i=>
   have hi:i.size=n:=by simpa [hq]using hs
   have h2:iv<(len:Int):=by omega
   simp[Instr.indexAt,run_underlying jI,asIntOf,h0,h2,sizeOf,typeInfo,hq,hi,Addr.add_mid]
 ·cases hu
theorem ahL{t:TypeId}{x i:A}{k:A->Option X}(h:mO P σ t x i k=some r):∃ y,k y=some r/\∀ af ρ a w,Rl w0 N af ρ σ a w->∀ u v,RA w w0.heap.size af ρ x u->RA w w0.heap.size af ρ i v->
  ∃ p,(Instr.indexAt t u v).run P w = .ok p w/\RA w w0.heap.size af ρ y p:=by
 unfold mO at h
 split at h
 ·cases h
 ·rename_i e he
  split at h
  ·rename_i n kk iv hn
   split at h
   ·rename_i t' g qn l
    split at h
    ·rename_i kF
     subst kF
     cases hg:Nat.blt g 2 with
     | false=>rw[hg]at h;cases h
     | true=>
      rw[hg,cond_true]at h
      split at h
      ·rename_i hb
       refine⟨_,h,fun af ρ a w hR u v hu hv=>?_⟩
       obtain rfl:=hv.2.iH
       have pU:g<2:=by have:=Nat.le_of_ble_eq_true hg;omega
       cases hu.2 with
       | cD=>simp at hb
       | cK=>simp at hb
       | cW=>simp at hb
       | own=>exact absurd pU (by omega)
       | ah _ _ _ _ _ b off cap us ho hl rP h1 dP hc hr=>
        refine⟨_,NP w t e _ b off _ cap kk iv he hn hb.1 hb.2,b,_,rfl,rP,hl,fun j x hx=>⟨jl t' g _ pU j x hx,us iv.toNat j,?_,hr _ hb.2 j x hx⟩⟩
        rw[Nat.add_assoc]
        exact hc _ hb.2 j x hx
      ·cases h
    ·cases h
   ·rename_i q
    obtain⟨y0,hg,h2⟩:=qx _ _ h
    clear h
    split at h2
    ·rename_i t' o' qn l
     split at h2
     ·rename_i kF
      subst kF
      split at h2
      ·rename_i hb
       cases rQ:Nat.blt o' 2 with
       | true=>
        rw[rQ,cond_true]at h2
        have NQ:o'<2:=Nat.le_of_ble_eq_true rQ
        refine⟨_,h2,fun af ρ a w hR u v hu hv=>?_⟩
        obtain rfl:=hv.2.iH
        obtain⟨dR,eW,lG⟩:=hg.ok hR.root
        have:dR=u:=by
         have h3:=hu.2
         rw[eW]at h3
         injection h3
        subst this
        cases lG with
        | cD=>simp at hb
        | cK=>simp at hb
        | cW=>simp at hb
        | own=>exact absurd NQ (by omega)
        | ah _ _ _ _ _ b off cap us ho hl rP h1 dP hc hr=>
         refine⟨_,NP w t e _ b off _ cap kk iv he hn hb.1 hb.2,b,_,rfl,rP,hl,fun j x hx=>⟨jl t' o' _ NQ j x hx,us iv.toNat j,?_,hr _ hb.2 j x hx⟩⟩
         rw[Nat.add_assoc]
         exact hc _ hb.2 j x hx
       | false=>
        rw[rQ,cond_false]at h2
        have NQ:¬ o'<2:=fun bw=>by have h9:Nat.blt o' 2=true:=Nat.ble_eq_true_of_le bw;rw[h9]at rQ;cases rQ
        refine⟨_,h2,fun af ρ a w hR u v hu hv=>?_⟩
        obtain rfl:=hv.2.iH
        obtain⟨dR,eW,lG⟩:=hg.ok hR.root
        have:dR=u:=by
         have h3:=hu.2
         rw[eW]at h3
         injection h3
        subst this
        cases lG with
        | cD=>simp at hb
        | cK=>simp at hb
        | cW=>simp at hb
        | ah _ _ _ _ _ _ _ _ _ ho=>omega
        | own _ _ _ _ _ b cap cs us c9 hh hs vB xF hc hr=>
         refine⟨_,NP w t e _ b 0 _ cap kk iv he hn hb.1 hb.2,_,rfl,?_⟩
         rw[xB 0 iv.toNat (aB t') eW c9]
         simp
      ·cases h2
     ·cases h2
    ·cases h2
   ·cases h
  ·cases h
theorem ahM{t ty:TypeId}{x:A}{k:A->Option X}(h:kP P σ t x k=some r):∃ y,k y=some r/\∀ af ρ a w,Rl w0 N af ρ σ a w->∀ u,RA w w0.heap.size af ρ x u->
  ∃ v,(Builtin.len_ #[t] ty #[u]).run P w = .ok v w/\RA w w0.heap.size af ρ y v:=by
 unfold kP at h
 split at h
 ·rename_i y
  have key:∃ z,(∀ af ρ a w,Rl w0 N af ρ σ a w->∀ u,cL w w0.heap.size af ρ y u->∃ q,RV w w0.heap.size af q z u)/\(match z with
    | .sl _ _ _ l=>(match P.underlying t with | some (.slice _)=>k (.lf (.v (.int .i64 (l.length:Int)))) | _=>none)
    | .nil=>(match P.underlying t with | some (.slice _)=>k (.lf (.v (.int .i64 0))) | _=>none)
    | .str s=>(match P.underlying t with | some .string=>k (.lf (.v (.int .i64 (s.size:Int)))) | _=>none)
    | _=>none)=some r:=by
   cases y with
   | v z=>exact⟨z,fun af ρ a w _ u hu=>⟨[],hu.2⟩,h⟩
   | dead=>cases h
   | own q=>
    obtain⟨z,hz,h⟩:=qx q _ h
    refine⟨z,fun af ρ a w hR u hu=>?_,h⟩
    obtain⟨v,hv,hr⟩:=hz.ok hR.root
    have h3:=hu.2
    rw[hv]at h3
    injection h3 with h3
    subst h3
    exact⟨q,hr⟩
  obtain⟨z,hz,h2⟩:=key
  clear h
  split at h2
  ·rename_i t' g qn l
   split at h2
   ·rename_i e he
    refine⟨_,h2,fun af ρ a w hR u hu=>?_⟩
    obtain⟨q,hr⟩:=hz af ρ a w hR u hu
    cases hr with
    | cD=>exact⟨_,by simp[Builtin.len_,run_underlying he,goInt],rfl,.int _ _ _⟩
    | cK=>exact⟨_,by simp[Builtin.len_,run_underlying he,goInt],rfl,.int _ _ _⟩
    | cW=>exact⟨_,by simp[Builtin.len_,run_underlying he,goInt],rfl,.int _ _ _⟩
    | ah=>exact⟨_,by simp[Builtin.len_,run_underlying he,goInt],rfl,.int _ _ _⟩
    | own=>exact⟨_,by simp[Builtin.len_,run_underlying he,goInt],rfl,.int _ _ _⟩
   ·cases h2
  ·split at h2
   ·rename_i e he
    refine⟨_,h2,fun af ρ a w hR u hu=>?_⟩
    obtain⟨q,hr⟩:=hz af ρ a w hR u hu
    cases hr
    exact⟨_,by simp[Builtin.len_,run_underlying he,goInt],rfl,.int _ _ _⟩
   ·cases h2
  ·split at h2
   ·rename_i he
    refine⟨_,h2,fun af ρ a w hR u hu=>?_⟩
    obtain⟨q,hr⟩:=hz af ρ a w hR u hu
    obtain rfl:=hr.qy
    exact⟨_,by simp[Builtin.len_,run_underlying he,goInt],rfl,.int _ _ _⟩
   ·cases h2
  ·cases h2
 ·split at h
  ·rename_i e he
   refine⟨_,h,fun af ρ a w hR u hu=>?_⟩
   obtain⟨A,n,c,hv,h1,h2,rfl⟩:=hu
   exact⟨_,by cases A <;>simp[sliced,Builtin.len_,run_underlying he,goInt],rfl,.int _ _ _⟩
  ·cases h
 ·cases h
theorem NR{p:Bool×List Lf}{y:A}(h:pT p=some y){u:Value}(hu:RP w B af ρ p u):RA w B af ρ y u:=by
 unfold pT at h
 split at h
 ·injection h with h
  subst h
  exact hu
 ·rename_i z
  injection h with h
  subst h
  obtain⟨u',jI,hr⟩:=hu.2 0 z rfl
  have:u=u':=by simpa using jI
  subst this
  exact hr
 ·cases h
theorem ahN{x:A}{i:Nat}{k:A->Option X}(h:xI x i k=some r):∃ y,k y=some r/\∀ (w:World) (B:Nat) (af:bq) (ρ:Nat->Loc) (u:Value),RA w B af ρ x u->
  ∃ v,(Instr.extract u i).run P w = .ok v w/\RA w B af ρ y v:=by
 unfold xI at h
 split at h
 ·rename_i xs
  split at h
  ·rename_i y hy
   refine⟨y,h,fun w B af ρ u hu=>?_⟩
   obtain⟨us,rfl,hs,hp⟩:=hu
   cases hx:xs[i]? with
   | none=>rw[hx]at hy;cases hy
   | some p=>
    rw[hx]at hy
    obtain⟨v,hv,hr⟩:=hp i p hx
    exact⟨v,by simp[Instr.extract,hv],NR hy hr⟩
  ·cases h
 ·cases h
end
end Go.Proofs.YtinbifpbkcbnkaaGreat
namespace Go.Proofs.YtinbifpbkcbnkaaGreat
open Go.RowKit
set_option linter.unusedVariables false
section
variable {P:Program} {w w':World} {w0:Wd} {B N:Nat} {af ax:bq} {ρ ρ':Nat->Loc} {σ:S} {a:Act} {X:Type} {d:Nat}
theorem ahO{k:List Nat}(h:[d] <:+ k):aX d k=true:=by
 obtain⟨y,rfl⟩:=h
 simp[aX]
theorem NS{k:List Nat}(h:aX d k=true):[d] <:+ k:=by
 have h:k.getLast?=some d:=by simpa [aX]using h
 obtain⟨y,hy⟩:=List.getLast?_eq_some_iff.1 h
 exact⟨y,hy.symm⟩
theorem Hy{j i s:Nat}{q:List Nat}(hq:q≠[]):aX d (j :: i :: s :: q)=aX d q:=by
 cases q with
 | nil=>exact absurd rfl hq
 | cons x q=>simp[aX]
structure tj (w w':World) (af ax:bq) (d:Nat):Prop where
 size:w.heap.size<=w'.heap.size
 block:∀ b,b<w.heap.size->af b≠some [d]->w'.heap[b]?=w.heap[b]?
 tn:∀ b,b<w.heap.size->ax b=af b
 ne:∀ b,af b≠some []
theorem RV.kf{q:List Nat}{x:V}{v:Value}(h:RV w B af q x v)(hw:tj w w' af ax d)(hq:¬ [d] <:+ q\/x.ah=true):RV w' B ax q x v:=by
 induction h with
 | int=>exact .int _ _ _
 | bool=>exact .bool _ _
 | str=>exact .str _ _
 | nil=>exact .nil _
 | cD=>exact .cD _ _ _
 | cK=>exact .cK _ _ _ _ _ (by first | assumption | omega)
 | cW=>exact .cW _ _ _ _ _ (by first | assumption | omega)
 | ah q t o qn l b off cap u ho hl hb h1 dP hc hr ih=>
  have aV:af b≠some [d]:=by rw[hl];simp
  exact .ah _ _ _ _ _ _ _ _ u ho ((hw.tn b hb).trans hl) (Nat.lt_of_lt_of_le hb hw.size) h1 dP (fun i h j x hx=>(World.cell?_of_block (a:=⟨b,_,none⟩) (hw.block b hb aV)).trans (hc i h j x hx)) (fun i h j x hx=>ih i h j x hx (.inr (jl t o l[i] ho j x hx)))
 | own q t o qn l b cap cs u hl hh hs hn hm hc hr ih=>
  have hb:b<w.heap.size:=(Array.getElem?_eq_some_iff.1 hh).1
  have jW:¬ [d] <:+ q:=by
   rcases hq with hq | hq
   ·exact hq
   ·simp[V.ah]at hq;omega
  have aV:af b≠some [d]:=by
   rw[hl]
   intro e
   injection e with e
   exact jW (by rw[e];exact List.suffix_refl _)
  refine .own _ _ _ _ _ _ _ cs u ((hw.tn b hb).trans hl) ((hw.block b hb aV).trans hh) hs hn hm hc (fun i h j x hx=>ih i h j x hx (.inl fun l6=>jW ?_))
  have hq0:q≠[]:=by rintro rfl;exact hw.ne b hl
  exact NS ((Hy hq0).symm.trans (ahO l6))
theorem ahP{j i s:Nat}{q:List Nat}(hq:q≠[])(h:aX d (j :: i :: s :: q)=false):aX d q=false:=by
 cases q with
 | nil=>exact absurd rfl hq
 | cons x q=>simpa [aX]using h
theorem NT(hw:tj w w' af ax d)(hg:∀ b k,af b=some k->b<w.heap.size)(aK:∀ r,r≠d->ρ' r=ρ r):∀ (k:List Nat) (ad:Addr),aX d k=false->addrAt w af ρ k=some ad->addrAt w' ax ρ' k=some ad
 | [],_,_,h=>h
 | [_],_,_,h=>h
 | [_,_],_,_,h=>h
 | [_,_,_],_,_,h=>by simp only[addrAt]at h ⊢;exact h
 | [j,i,s,r],_,hd,h=>by
  have hr:r≠d:=by rintro rfl;simp[aX]at hd
  simp only[addrAt,aK r hr]at h ⊢
  split at h
  ·rename_i v b n c hr
   split at h
   ·rename_i hl
    rw[if_pos ((hw.tn _ (hg _ _ hl)).trans hl)]
    exact h
   ·cases h
  ·cases h
 | j :: i :: s :: x :: y :: q,ad,hd,h=>by
  have rR:=ahP (by simp) hd
  simp only[addrAt]at h ⊢
  cases ha:addrAt w af ρ (x :: y :: q)with
  | none=>rw[ha]at h;cases h
  | some mL=>
   rw[NT hw hg aK _ _ rR ha]
   rw[ha]at h
   cases hc:w.cell? mL with
   | none=>simp[hc]at h
   | some v=>
    have aV:af mL.block≠some [d]:=by
     obtain⟨j',i',s',q',e,hl,_⟩:=vA _ _ ha
     rw[hl]
     intro e'
     injection e' with e'
     subst e'
     rw[e]at rR
     simp[aX]at rR
    have e:w'.cell? mL=some v:=(World.cell?_of_block (hw.block _ (block_lt_of_cell hc) aV)).trans hc
    simp only[Option.bind_some,hc]at h
    simp only[Option.bind_some,e]
    split at h
    ·split at h
     ·rename_i hl
      rw[if_pos ((hw.tn _ (hg _ _ hl)).trans hl)]
      exact h
     ·cases h
    ·cases h
theorem UL(hw:tj w w' af ax d)(hg:∀ b k,af b=some k->b<w.heap.size)(aK:∀ r,r≠d->ρ' r=ρ r)(k:List Nat)(u:Value)(hd:aX d k=false)(h:cc w af ρ k=some u):cc w' ax ρ' k=some u:=by
 match k,hd,h with
 | [],_,h=>simp[cc,addrAt]at h
 | [r],hd,h=>
  have hr:r≠d:=by rintro rfl;simp[aX]at hd
  simp only[cc,aK r hr]at h ⊢
  exact h
 | x :: y :: q,hd,h=>
  simp only[cc]at h ⊢
  cases ha:addrAt w af ρ (x :: y :: q)with
  | none=>rw[ha]at h;cases h
  | some ad=>
   rw[NT hw hg aK _ _ hd ha]
   rw[ha]at h
   have h:w.cell? ad=some u:=h
   have aV:af ad.block≠some [d]:=by
    obtain⟨j',i',s',q',e,hl,_⟩:=vA _ _ ha
    rw[hl]
    intro e'
    injection e' with e'
    subst e'
    rw[e]at hd
    simp[aX]at hd
   exact(World.cell?_of_block (hw.block _ (block_lt_of_cell h) aV)).trans h
theorem cL.kf{x:Lf}{u:Value}(h:cL w B af ρ x u)(hw:tj w w' af ax d)(hg:∀ b k,af b=some k->b<w.heap.size)(aK:∀ r,r≠d->ρ' r=ρ r):cL w' B ax ρ' (x.drop d) u:=by
 cases x with
 | v x=>exact⟨h.1,h.2.kf hw (.inr h.1)⟩
 | dead=>trivial
 | own k=>
  have e:Lf.drop d (.own k)=(bif aX d k then .dead else .own k):=rfl
  rw[e]
  cases hl:aX d k with
  | true=>trivial
  | false=>exact⟨h.1,UL hw hg aK k u hl h.2⟩
theorem cX.kf{cs:List Lf}{us:Array Value}(h:cX w B af ρ cs us)(hw:tj w w' af ax d)(hg:∀ b k,af b=some k->b<w.heap.size)(aK:∀ r,r≠d->ρ' r=ρ r):cX w' B ax ρ' (cs.map (Lf.drop d)) us:=by
 refine⟨by rw[List.length_map];exact h.1,fun j x hx=>?_⟩
 rw[List.getElem?_map]at hx
 cases hy:cs[j]? with
 | none=>rw[hy]at hx;cases hx
 | some y=>
  rw[hy]at hx
  injection hx with hx
  subst hx
  obtain⟨u,hu,r⟩:=h.2 j y hy
  exact⟨u,hu,r.kf hw hg aK⟩
theorem RP.kf{p:Bool×List Lf}{u:Value}(h:RP w B af ρ p u)(hw:tj w w' af ax d)(hg:∀ b k,af b=some k->b<w.heap.size)(aK:∀ r,r≠d->ρ' r=ρ r):RP w' B ax ρ' (p.1,p.2.map (Lf.drop d)) u:=by
 obtain⟨b,cs⟩:=p
 cases b with
 | true=>obtain⟨us,e,h⟩:=h;exact⟨us,e,h.kf hw hg aK⟩
 | false=>exact cX.kf h hw hg aK
theorem RA.kf{x:A}{u:Value}(h:RA w B af ρ x u)(hw:tj w w' af ax d)(hg:∀ b k,af b=some k->b<w.heap.size)(aK:∀ r,r≠d->ρ' r=ρ r):RA w' B ax ρ' (x.drop d) u:=by
 cases x with
 | undef=>trivial
 | skip=>exact h
 | lf x=>exact cL.kf h hw hg aK
 | agg cs=>exact RP.kf (p:=(true,cs)) h hw hg aK
 | cq xs=>
  obtain⟨us,e,hs,h⟩:=h
  refine⟨us,e,by rw[List.length_map];exact hs,fun j p hp=>?_⟩
  rw[List.getElem?_map]at hp
  cases hy:xs[j]? with
  | none=>rw[hy]at hp;cases hp
  | some y=>
   rw[hy]at hp
   injection hp with hp
   subst hp
   obtain⟨v,hv,r⟩:=h j y hy
   exact⟨v,hv,r.kf hw hg aK⟩
 | ptr k=>
  have e:A.drop d (.ptr k)=(bif aX d k then .undef else .ptr k):=rfl
  rw[e]
  cases hl:aX d k with
  | true=>trivial
  | false=>obtain⟨ad,e,h⟩:=h;exact⟨ad,e,NT hw hg aK k _ hl h⟩
 | view k s i j=>
  have e:A.drop d (.view k s i j)=(bif aX d k then .undef else .view k s i j):=rfl
  rw[e]
  cases hl:aX d k with
  | true=>trivial
  | false=>obtain⟨A,n,c,h,g⟩:=h;exact⟨A,n,c,UL hw hg aK k _ hl h,g⟩
 | pk r n=>
  have e:A.drop d (.pk r n)=(bif Nat.beq r d then .undef else .pk r n):=rfl
  rw[e]
  cases hl:Nat.beq r d with
  | true=>trivial
  | false=>
   have hr:r≠d:=by rintro rfl;simp at hl
   obtain⟨b,e,h⟩:=h
   exact⟨b,(aK r hr).trans e,h⟩
 | aC r j=>
  have e:A.drop d (.aC r j)=(bif Nat.beq r d then .undef else .aC r j):=rfl
  rw[e]
  cases hl:Nat.beq r d with
  | true=>trivial
  | false=>
   have hr:r≠d:=by rintro rfl;simp at hl
   obtain⟨b,off,e,h⟩:=h
   exact⟨b,off,(aK r hr).trans e,h⟩
 | gz cs=>
  obtain⟨b,off,e,hb,hl,h⟩:=h
  have aV:af b≠some [d]:=by rw[hl];simp
  refine⟨b,off,e,Nat.lt_of_lt_of_le hb hw.size,(hw.tn b hb).trans hl,fun j x hx=>?_⟩
  obtain⟨hf,v,hv,hr⟩:=h j x hx
  exact⟨hf,v,(World.cell?_of_block (a:=⟨b,_,none⟩) (hw.block b hb aV)).trans hv,hr.kf hw (.inr hf)⟩
 | kN f cs=>
  obtain⟨pv,e0,h⟩:=h
  refine⟨pv,e0,?_⟩
  obtain⟨b,off,e,hb,hl,h⟩:=h
  have aV:af b≠some [d]:=by rw[hl];simp
  refine⟨b,off,e,Nat.lt_of_lt_of_le hb hw.size,(hw.tn b hb).trans hl,fun j x hx=>?_⟩
  obtain⟨hf,v,hv,hr⟩:=h j x hx
  exact⟨hf,v,(World.cell?_of_block (a:=⟨b,_,none⟩) (hw.block b hb aV)).trans hv,hr.kf hw (.inr hf)⟩
 | fn f cap=>
  have e:A.drop d (.fn f cap)=(bif cap.any (fun p=>Nat.beq p.1 d)then .undef else .fn f cap):=rfl
  rw[e]
  cases hl:cap.any (fun p=>Nat.beq p.1 d)with
  | true=>trivial
  | false=>
   obtain⟨vs,e,hs,h⟩:=h
   refine⟨vs,e,hs,fun j p hp=>?_⟩
   obtain⟨b,off,e2,h2⟩:=h j p hp
   have hr:p.1≠d:=by
    rintro rfl
    have:=List.any_eq_false.1 hl p (List.mem_of_getElem? hp)
    simp at this
   exact⟨b,off,(aK _ hr).trans e2,h2⟩
theorem dK.kf{r:Nat}(hr:r≠d){x:aP}(h:dK w B af ρ r x)(hw:tj w w' af ax d)(hg:∀ b k,af b=some k->b<w.heap.size)(aK:∀ r,r≠d->ρ' r=ρ r):dK w' B ax ρ' r (x.drop d):=by
 have qA:¬ [d] <:+ [r]:=NF (fun e=>hr e.symm)
 cases h with
 | ak b off cells e cs us fY hl hh hs hc=>
  have hb:b<w.heap.size:=(Array.getElem?_eq_some_iff.1 hh).1
  have aV:af b≠some [d]:=by
   rw[hl]
   intro e
   injection e with e
   injection e with e
   exact hr e
  refine .ak b off cells e _ us ((aK r hr).trans fY) ((hw.tn b hb).trans hl) ((hw.block b hb aV).trans hh) (by rw[List.length_map];exact hs) (fun j x hx=>?_)
  rw[List.getElem?_map]at hx
  cases hy:cs[j]? with
  | none=>rw[hy]at hx;cases hx
  | some y=>
   rw[hy]at hx
   injection hx with hx
   subst hx
   exact⟨(hc j y hy).1,(hc j y hy).2.kf hw hg aK⟩
 | sl v y fY C2=>exact .sl v y ((aK r hr).trans fY) (C2.kf hw (.inl qA))
 | mp b c es l fY hl hh he=>
  have hb:b<w.heap.size:=(Array.getElem?_eq_some_iff.1 hh).1
  have aV:af b≠some [d]:=by
   rw[hl]
   intro e
   injection e with e
   injection e with e
   exact hr e
  exact .mp b c es l ((aK r hr).trans fY) ((hw.tn b hb).trans hl) ((hw.block b hb aV).trans hh) he
 | gh us xs fY hx=>
  refine .gh us _ ((aK r hr).trans fY) (fun j x hj=>?_)
  rw[List.getElem?_map]at hj
  cases hy:xs[j]? with
  | none=>rw[hy]at hj;cases hj
  | some y=>
   rw[hy]at hj
   injection hj with hj
   subst hj
   exact(hx j y hy).kf hw hg aK
theorem Rl.tq{x:aP}(h:Rl w0 N af ρ σ a w)(hF:w0.F d=none)(hb:iE w0 w w')(hw:tj w w' af ax d)(hg:∀ b k,w.heap.size<=b->ax b=some k->b<w'.heap.size/\k≠[])(aK:∀ r,r≠d->ρ' r=ρ r)(hx:dK w' w0.heap.size ax ρ' d x):
  Rl w0 N ax ρ' ((σ.drop d).root d x) a w':=by
 have qw:∀ b k,af b=some k->b<w.heap.size:=fun b k hb=>(h.cH b k hb).2.1
 refine⟨h.below.trans hb,fun b k jX=>?_,fun r y hy=>?_,fun k=>(h.tmp k).kf hw qw aK,h.size,h.defers,fun r l' hr=>(aK r (by rintro rfl;rw[hF]at hr;cases hr)).trans (h.fix r l' hr),h.eg⟩
 ·rcases Nat.lt_or_ge b w.heap.size with bw | mM
  ·rw[hw.tn b bw]at jX
   have:=h.cH b k jX
   exact⟨this.1,Nat.lt_of_lt_of_le this.2.1 hw.size,this.2.2⟩
  ·have:=hg b k mM jX
   exact⟨.inl (Nat.le_trans h.below.size mM),this.1,this.2⟩
 ·by_cases hr:r=d
  ·subst hr
   have hy:(bG (σ.drop r).m r (some x)) r=some y:=hy
   rw[bK]at hy
   injection hy with hy
   subst hy
   exact hx
  ·have hy:(bG (σ.drop d).m d (some x)) r=some y:=hy
   rw[cm _ _ _ hr]at hy
   have hb:Nat.beq r d=false:=by
    cases hb:Nat.beq r d with
    | false=>rfl
    | true=>exact absurd (Nat.eq_of_beq_eq_true hb) hr
   simp only[S.drop,hb,cond_false]at hy
   cases hm:σ.m r with
   | none=>rw[hm]at hy;cases hy
   | some z=>
    rw[hm]at hy
    injection hy with hy
    subst hy
    exact(h.root r z hm).kf hr hw qw aK
end
end Go.Proofs.YtinbifpbkcbnkaaGreat
namespace Go.Proofs.YtinbifpbkcbnkaaGreat
open Go.RowKit
set_option linter.unusedVariables false
def gC(q:Nat)(nk k:List Nat):List Nat:=bif aX q k then k.dropLast++nk else k
def bq.gC(af:bq)(q:Nat)(nk:List Nat):bq:=fun b=>(af b).map (Proofs.YtinbifpbkcbnkaaGreat.gC q nk)
section
variable {P:Program} {w w':World} {w0:Wd} {B N:Nat} {af ax:bq} {ρ ρ':Nat->Loc} {σ:S} {a:Act} {X:Type} {d q:Nat} {nk:List Nat}
theorem UM:gC q nk [q]=nk:=by simp[gC,aX]
theorem ahQ{k:List Nat}(h:aX q k=false):gC q nk k=k:=by simp[gC,h]
theorem ahR{j i s:Nat}{k:List Nat}(hk:k≠[]):gC q nk (j :: i :: s :: k)=j :: i :: s :: gC q nk k:=by
 unfold gC
 rw[Hy hk]
 cases aX q k with
 | false=>rfl
 | true=>
  cases k with
  | nil=>exact absurd rfl hk
  | cons x k=>simp
theorem UN{k:List Nat}(hn:nk≠[])(hk:k≠[]):gC q nk k≠[]:=by
 unfold gC
 cases aX q k with
 | false=>simpa using hk
 | true=>simp[hn]
theorem bq.NU{b:Nat}(h:af b=none):af.gC q nk b=none:=by simp[bq.gC,h]
theorem bq.UO{b:Nat}{k:List Nat}(h:af b=some k):af.gC q nk b=some (Proofs.YtinbifpbkcbnkaaGreat.gC q nk k):=by simp[bq.gC,h]
theorem bq.UP{b:Nat}{k:List Nat}(h:af b=some k)(hk:aX q k=false):af.gC q nk b=some k:=by rw[bq.UO h,ahQ hk]
theorem RV.gC{k:List Nat}{x:V}{v:Value}(h:RV w B af k x v)(aV:∀ b,af b≠some []):RV w B (af.gC q nk) (Proofs.YtinbifpbkcbnkaaGreat.gC q nk k) x v:=by
 induction h with
 | int=>exact .int _ _ _
 | bool=>exact .bool _ _
 | str=>exact .str _ _
 | nil=>exact .nil _
 | cD=>exact .cD _ _ _
 | cK=>exact .cK _ _ _ _ _ (by first | assumption | omega)
 | cW=>exact .cW _ _ _ _ _ (by first | assumption | omega)
 | ah k t o qn l b off cap u ho hl hb h1 dP hc hr ih=>
  exact .ah _ _ _ _ _ _ _ _ u ho (bq.NU hl) hb h1 dP hc (fun i h j x hx=>ih i h j x hx)
 | own k t o qn l b cap cs u hl hh hs hn hm hc hr ih=>
  have hk:k≠[]:=by rintro rfl;exact aV b hl
  refine .own _ _ _ _ _ _ _ cs u (bq.UO hl) hh hs hn hm hc (fun i h j x hx=>?_)
  have:=ih i h j x hx
  rw[ahR hk]at this
  exact this
structure Rel (q:Nat) (af ax:bq):Prop where
 ne:∀ b,af b≠some []
 none:∀ b,af b=none->ax b=Option.none
 fk:∀ b k,af b=some k->aX q k=false->ax b=some k
theorem Db(aV:∀ b,af b≠some []):Rel q af (af.gC q nk):=⟨aV,fun _ h=>bq.NU h,fun _ _ h hk=>bq.UP h hk⟩
theorem RV.rel(cr:Rel q af ax){k:List Nat}{x:V}{v:Value}(h:RV w B af k x v)(hk:aX q k=false\/x.ah=true):RV w B ax k x v:=by
 induction h with
 | int=>exact .int _ _ _
 | bool=>exact .bool _ _
 | str=>exact .str _ _
 | nil=>exact .nil _
 | cD=>exact .cD _ _ _
 | cK=>exact .cK _ _ _ _ _ (by first | assumption | omega)
 | cW=>exact .cW _ _ _ _ _ (by first | assumption | omega)
 | ah k t o qn l b off cap u ho hl hb h1 dP hc hr ih=>
  exact .ah _ _ _ _ _ _ _ _ u ho (cr.none _ hl) hb h1 dP hc (fun i h j x hx=>ih i h j x hx (.inr (jl t o l[i] ho j x hx)))
 | own k t o qn l b cap cs u hl hh hs hn hm hc hr ih=>
  have ej:aX q k=false:=by
   rcases hk with hk | hk
   ·exact hk
   ·simp[V.ah]at hk;omega
  refine .own _ _ _ _ _ _ _ cs u (cr.fk _ _ hl ej) hh hs hn hm hc (fun i h j x hx=>ih i h j x hx ?_)
  cases k with
  | nil=>exact absurd hl (cr.ne b)
  | cons z k=>exact .inl (by rw[Hy (by simp)];exact ej)
theorem NV(cr:Rel q af ax):∀ (k:List Nat) (ad:Addr),aX q k=false->addrAt w af ρ k=some ad->addrAt w ax ρ k=some ad
 | [],_,_,h=>h
 | [_],_,_,h=>h
 | [_,_],_,_,h=>h
 | [_,_,_],_,_,h=>by simp only[addrAt]at h ⊢;exact h
 | [j,i,s,r],_,hd,h=>by
  have hr:aX q [r]=false:=by simpa [aX]using hd
  simp only[addrAt]at h ⊢
  split at h
  ·rename_i v b n c e
   split at h
   ·rename_i hl
    rw[if_pos (cr.fk _ _ hl hr)]
    exact h
   ·cases h
  ·cases h
 | j :: i :: s :: x :: y :: k,ad,hd,h=>by
  have rR:aX q (x :: y :: k)=false:=by simpa [aX]using hd
  simp only[addrAt]at h ⊢
  cases ha:addrAt w af ρ (x :: y :: k)with
  | none=>rw[ha]at h;cases h
  | some mL=>
   rw[NV cr _ _ rR ha]
   rw[ha]at h
   split at h
   ·rename_i v b n c e
    split at h
    ·rename_i hl
     rw[if_pos (cr.fk _ _ hl rR)]
     exact h
    ·cases h
   ·cases h
theorem NW(cr:Rel q af ax)(k:List Nat)(u:Value)(hd:aX q k=false)(h:cc w af ρ k=some u):cc w ax ρ k=some u:=by
 match k,hd,h with
 | [],_,h=>simp[cc,addrAt]at h
 | [r],_,h=>exact h
 | x :: y :: k,hd,h=>
  simp only[cc]at h ⊢
  cases ha:addrAt w af ρ (x :: y :: k)with
  | none=>rw[ha]at h;cases h
  | some ad=>
   rw[NV cr _ _ hd ha]
   rw[ha]at h
   exact h
theorem cL.rel(cr:Rel q af ax){x:Lf}{u:Value}(h:cL w B af ρ x u):cL w B ax ρ (x.drop q) u:=by
 cases x with
 | v x=>exact⟨h.1,h.2.rel cr (.inr h.1)⟩
 | dead=>trivial
 | own k=>
  have e:Lf.drop q (.own k)=(bif aX q k then .dead else .own k):=rfl
  rw[e]
  cases hl:aX q k with
  | true=>trivial
  | false=>exact⟨h.1,NW cr k u hl h.2⟩
theorem cX.rel(cr:Rel q af ax){cs:List Lf}{us:Array Value}(h:cX w B af ρ cs us):cX w B ax ρ (cs.map (Lf.drop q)) us:=by
 refine⟨by rw[List.length_map];exact h.1,fun j x hx=>?_⟩
 rw[List.getElem?_map]at hx
 cases hy:cs[j]? with
 | none=>rw[hy]at hx;cases hx
 | some y=>
  rw[hy]at hx
  injection hx with hx
  subst hx
  obtain⟨u,hu,r⟩:=h.2 j y hy
  exact⟨u,hu,r.rel cr⟩
theorem RP.rel(cr:Rel q af ax){p:Bool×List Lf}{u:Value}(h:RP w B af ρ p u):RP w B ax ρ (p.1,p.2.map (Lf.drop q)) u:=by
 obtain⟨b,cs⟩:=p
 cases b with
 | true=>obtain⟨us,e,h⟩:=h;exact⟨us,e,h.rel cr⟩
 | false=>exact cX.rel cr h
theorem RA.rel(cr:Rel q af ax){x:A}{u:Value}(h:RA w B af ρ x u):RA w B ax ρ (x.drop q) u:=by
 cases x with
 | undef=>trivial
 | skip=>exact h
 | lf x=>exact cL.rel cr h
 | agg cs=>exact RP.rel cr (p:=(true,cs)) h
 | cq xs=>
  obtain⟨us,e,hs,h⟩:=h
  refine⟨us,e,by rw[List.length_map];exact hs,fun j p hp=>?_⟩
  rw[List.getElem?_map]at hp
  cases hy:xs[j]? with
  | none=>rw[hy]at hp;cases hp
  | some y=>
   rw[hy]at hp
   injection hp with hp
   subst hp
   obtain⟨v,hv,r⟩:=h j y hy
   exact⟨v,hv,r.rel cr⟩
 | ptr k=>
  have e:A.drop q (.ptr k)=(bif aX q k then .undef else .ptr k):=rfl
  rw[e]
  cases hl:aX q k with
  | true=>trivial
  | false=>obtain⟨ad,e,h⟩:=h;exact⟨ad,e,NV cr k ad hl h⟩
 | view k s i j=>
  have e:A.drop q (.view k s i j)=(bif aX q k then .undef else .view k s i j):=rfl
  rw[e]
  cases hl:aX q k with
  | true=>trivial
  | false=>obtain⟨A,n,c,h,r⟩:=h;exact⟨A,n,c,NW cr k _ hl h,r⟩
 | aC r j=>
  have e:A.drop q (.aC r j)=(bif Nat.beq r q then .undef else .aC r j):=rfl
  rw[e]
  cases hl:Nat.beq r q with
  | true=>trivial
  | false=>exact h
 | pk r n=>
  have e:A.drop q (.pk r n)=(bif Nat.beq r q then .undef else .pk r n):=rfl
  rw[e]
  cases hl:Nat.beq r q with
  | true=>trivial
  | false=>exact h
 | gz cs=>
  obtain⟨b,off,e,hb,hl,h⟩:=h
  refine⟨b,off,e,hb,cr.none _ hl,fun j x hx=>?_⟩
  obtain⟨hf,v,hv,hr⟩:=h j x hx
  exact⟨hf,v,hv,hr.rel cr (.inr hf)⟩
 | kN f cs=>
  obtain⟨pv,e0,h⟩:=h
  refine⟨pv,e0,?_⟩
  obtain⟨b,off,e,hb,hl,h⟩:=h
  refine⟨b,off,e,hb,cr.none _ hl,fun j x hx=>?_⟩
  obtain⟨hf,v,hv,hr⟩:=h j x hx
  exact⟨hf,v,hv,hr.rel cr (.inr hf)⟩
 | fn f cap=>
  have e:A.drop q (.fn f cap)=(bif cap.any (fun p=>Nat.beq p.1 q)then .undef else .fn f cap):=rfl
  rw[e]
  cases hl:cap.any (fun p=>Nat.beq p.1 q)with
  | true=>trivial
  | false=>exact h
theorem dK.rel(cr:Rel q af ax){r:Nat}(hr:r≠q){x:aP}(h:dK w B af ρ r x):dK w B ax ρ r (x.drop q):=by
 have qA:aX q [r]=false:=by simpa [aX]using fun e=>hr e
 cases h with
 | ak b off cells e cs us fY hl hh hs hc=>
  refine .ak b off cells e _ us fY (cr.fk _ _ hl qA) hh (by rw[List.length_map];exact hs) (fun j x hx=>?_)
  rw[List.getElem?_map]at hx
  cases hy:cs[j]? with
  | none=>rw[hy]at hx;cases hx
  | some y=>
   rw[hy]at hx
   injection hx with hx
   subst hx
   exact⟨(hc j y hy).1,(hc j y hy).2.rel cr⟩
 | sl v y fY C2=>exact .sl v y fY (C2.rel cr (.inl qA))
 | mp b c es l fY hl hh he=>exact .mp b c es l fY (cr.fk _ _ hl qA) hh he
 | gh us xs fY hx=>
  refine .gh us _ fY (fun j x hj=>?_)
  rw[List.getElem?_map]at hj
  cases hy:xs[j]? with
  | none=>rw[hy]at hj;cases hj
  | some y=>
   rw[hy]at hj
   injection hj with hj
   subst hj
   exact(hx j y hy).rel cr
theorem Rl.vE(h:Rl w0 N af ρ σ a w):∀ b,af b≠some []:=fun b hb=>(h.cH b [] hb).2.2 rfl
theorem Rl.rel(h:Rl w0 N af ρ σ a w)(cr:Rel q af ax)(hg:∀ b k,ax b=some k->(∃ k',af b=some k')/\k≠[]):Rl w0 N ax ρ (σ.drop q) a w:=by
 refine⟨h.below,fun b k jX=>?_,fun r x hx=>?_,fun k=>(h.tmp k).rel cr,h.size,h.defers,h.fix,h.eg⟩
 ·obtain⟨⟨k',hl⟩,hk⟩:=hg b k jX
  have:=h.cH b k' hl
  exact⟨this.1,this.2.1,hk⟩
 ·have hx:(bif Nat.beq r q then none else (σ.m r).map (aP.drop q))=some x:=hx
  cases hb:Nat.beq r q with
  | true=>rw[hb]at hx;cases hx
  | false=>
   rw[hb,cond_false]at hx
   have cN:r≠q:=by rintro rfl;simp at hb
   cases lI:σ.m r with
   | none=>rw[lI]at hx;cases hx
   | some y=>
    rw[lI]at hx
    injection hx with hx
    subst hx
    exact(h.root r y lI).rel cr cN
theorem Rl.ahS{z:V}(h:Rl w0 N af ρ σ a w)(hm:σ.m q=some (.sl z))(hn:nk≠[]):∃ u,ρ q = .dJ u/\Rl w0 N (af.gC q nk) ρ (σ.drop q) a w/\RV w w0.heap.size (af.gC q nk) nk z u:=by
 have aV:=h.vE
 have hq:=h.root q _ hm
 generalize he:aP.sl z=x at hq
 cases hq with
 | ak=>cases he
 | mp=>cases he
 | gh=>cases he
 | sl u y aK hr=>
  injection he with he
  subst he
  refine⟨u,aK,h.rel (Db aV) fun b k jX=>?_,?_⟩
  ·unfold bq.gC at jX
   cases hl:af b with
   | none=>rw[hl]at jX;cases jX
   | some k'=>
    rw[hl]at jX
    injection jX with jX
    subst jX
    exact⟨⟨k',rfl⟩,UN hn (fun e=>aV b (by rw[hl,e]))⟩
  ·have:=hr.gC (q:=q) (nk:=nk) aV
   rwa [UM]at this
def oK(r:Nat)(key:Nat->List Nat):Nat->Nat->List Lf->S->Option (List V×S)
 | _,_,[],σ=>some ([],σ)
 | f+1,j,.v x :: xs,σ=>(oK r key f (j+1) xs σ).map fun p=>(x :: p.1,p.2)
 | f+1,j,.own [q] :: xs,σ=>match σ.m q with
  | some (.sl z)=>bif Nat.beq q r then none else (oK r key f (j+1) (xs.map (Lf.drop q)) (σ.drop q)).map fun p=>(z :: p.1,p.2)
  | _=>none
 | _,_,_,_=>none
theorem Hz{r:Nat}{key:Nat->List Nat}(tr:∀ j,aX r (key j)=true):∀ (f j:Nat) (xs:List Lf) (σ τ:S) (vs:List V),oK r key f j xs σ=some (vs,τ)->∀ af ρ a w,Rl w0 N af ρ σ a w->∀ us:List Value,cX w w0.heap.size af ρ xs us.toArray->
  ∃ ax,Rl w0 N ax ρ τ a w/\vs.length=xs.length/\(∀ (n:Nat) x,vs[n]?=some x->∃ u,us[n]?=some u/\RV w w0.heap.size ax (key (j+n)) x u)/\(∀ k x v,aX r k=true->RV w w0.heap.size af k x v->RV w w0.heap.size ax k x v)/\
   (∀ x,σ.m r=some (.sl x)->τ.m r=some (.sl x))/\(∀ k u,aX r k=true->cc w af ρ k=some u->cc w ax ρ k=some u)/\(∀ b,af b=some [r]->ax b=some [r])/\(∀ b,af b=none->ax b=none)
 | 0,j,[],σ,τ,vs,h,af,ρ,a,w,hR,us,hu=>by
  simp only[oK,Option.some.injEq,Prod.mk.injEq]at h
  obtain⟨rfl,rfl⟩:=h
  exact⟨af,hR,rfl,by simp,fun _ _ _ _ h=>h,fun _ h=>h,fun _ _ _ h=>h,fun _ h=>h,fun _ h=>h⟩
 | f+1,j,[],σ,τ,vs,h,af,ρ,a,w,hR,us,hu=>by
  simp only[oK,Option.some.injEq,Prod.mk.injEq]at h
  obtain⟨rfl,rfl⟩:=h
  exact⟨af,hR,rfl,by simp,fun _ _ _ _ h=>h,fun _ h=>h,fun _ _ _ h=>h,fun _ h=>h,fun _ h=>h⟩
 | 0,j,x :: xs,σ,τ,vs,h,af,ρ,a,w,hR,us,hu=>by simp[oK]at h
 | f+1,j,x :: xs,σ,τ,vs,h,af,ρ,a,w,hR,us,hu=>by
  obtain⟨u0,us,rfl⟩:∃ u0 UQ,us=u0 :: UQ:=by
   cases us with
   | nil=>have:=hu.1;simp at this
   | cons u0 us=>exact⟨_,_,rfl⟩
  have l7:cL w w0.heap.size af ρ x u0:=by
   obtain⟨u,e,h⟩:=hu.2 0 x rfl
   simp at e
   subst e
   exact h
  have eo:cX w w0.heap.size af ρ xs us.toArray:=⟨by have:=hu.1;simpa using this,fun n y hy=>by
   obtain⟨u,e,h⟩:=hu.2 (n+1) y hy
   exact⟨u,by simpa using e,h⟩⟩
  cases x with
  | v x=>
   simp only[oK,Option.map_eq_some_iff]at h
   obtain⟨⟨oL,fL⟩,h,e⟩:=h
   simp only[Prod.mk.injEq]at e
   obtain⟨rfl,rfl⟩:=e
   obtain⟨ax,h1,h2,h3,h4,h5⟩:=Hz tr f (j+1) xs σ fL oL h af ρ a w hR us eo
   refine⟨ax,h1,by simp[h2],fun n y hy=>?_,h4,h5⟩
   cases n with
   | zero=>
    simp at hy
    subst hy
    refine⟨u0,rfl,h4 _ _ _ (tr _) (l7.2.key l7.1)⟩
   | succ n=>
    obtain⟨u,e,h⟩:=h3 n y (by simpa using hy)
    exact⟨u,by simpa using e,by rw[show j+(n+1)=j+1+n by omega];exact h⟩
  | dead=>simp[oK]at h
  | own k=>
   match k,l7,h with
   | [],_,h=>simp[oK]at h
   | _ :: _ :: _,_,h=>simp[oK]at h
   | [q],l7,h=>
    simp only[oK]at h
    split at h
    ·rename_i z hz
     cases NX:Nat.beq q r with
     | true=>rw[NX]at h;cases h
     | false=>
      rw[NX,cond_false,Option.map_eq_some_iff]at h
      obtain⟨⟨oL,fL⟩,ahT,e⟩:=h
      simp only[Prod.mk.injEq]at e
      obtain⟨rfl,rfl⟩:=e
      have aV:q≠r:=by rintro rfl;simp at NX
      have hkj:key j≠[]:=by intro e;have:=tr j;rw[e]at this;simp[aX]at this
      obtain⟨u,aK,aT,lG⟩:=hR.ahS hz hkj
      have xJ:u=u0:=by
       have h4:=l7.2
       simp only[cc,aK]at h4
       injection h4
      subst xJ
      have iI:∀ k,aX r k=true->aX q k=false:=by
       intro k hk
       cases hq:aX q k with
       | false=>rfl
       | true=>
        exfalso
        have h1:=NS hk
        have h2:=NS hq
        exact aV (UF h1 h2)
      obtain⟨ax,h1,h2,h3,h4,h5,h6,h7,h8⟩:=Hz tr f (j+1) (xs.map (Lf.drop q)) (σ.drop q) fL oL ahT _ ρ a w aT us (eo.rel (Db hR.vE))
      refine⟨ax,h1,by simp[h2],fun n y hy=>?_,fun k x v hk hv=>h4 _ _ _ hk (hv.rel (Db hR.vE) (.inl (iI k hk))),fun x hx=>h5 x ?_,fun k v hk hv=>h6 k v hk (NW (Db hR.vE) k v (iI k hk) hv),fun b hb=>h7 b (bq.UP hb (by simpa [aX]using fun e=>aV e.symm)),fun b hb=>h8 b (bq.NU hb)⟩
      ·cases n with
       | zero=>
        simp at hy
        subst hy
        exact⟨u,rfl,h4 _ _ _ (tr _) lG⟩
       | succ n=>
        obtain⟨u,e,h⟩:=h3 n y (by simpa using hy)
        exact⟨u,by simpa using e,by rw[show j+(n+1)=j+1+n by omega];exact h⟩
      ·have hb:Nat.beq r q=false:=by
        cases hb:Nat.beq r q with
        | false=>rfl
        | true=>exact absurd (Nat.eq_of_beq_eq_true hb).symm aV
       simp only[S.drop,hb,cond_false,hx,Option.map_some,aP.drop]
    ·cases h
end
end Go.Proofs.YtinbifpbkcbnkaaGreat
namespace Go.Proofs.YtinbifpbkcbnkaaGreat
open Go.RowKit
set_option linter.unusedVariables false
def gV:Value->Lf
 | .int k n=>.v (.int k n)
 | .bool b=>.v (.bool b)
 | .string s=>.v (.str s)
 | .slice none 0 0=>.v .nil
 | _=>.dead
def zeroV:Value->Option V
 | .int k n=>some (.int k n)
 | .bool b=>some (.bool b)
 | .string s=>some (.str s)
 | .slice none 0 0=>some .nil
 | _=>none
def Dc:List Value->Option (List V)
 | []=>some []
 | v :: vs=>match zeroV v,Dc vs with
  | some x,some xs=>some (x :: xs)
  | _,_=>none
def zeroOf(P:Program)(e:TypeId):Option Value:=(P.info? e).bind (·.zero)
def bytesOf(P:Program)(e:TypeId):Option Nat:=(P.info? e).map (·.bytes)
def gD{X:Type}(N:Nat)(σ:S)(d:Nat)(x:aP)(y:A)(k:S->Option X):Option X:=
 bif Nat.blt d N then k (((σ.drop d).root d x).set d y)else none
def pV{X:Type}(P:Program)(N:Nat)(σ:S)(d:Nat)(e:TypeId)(k:S->Option X):Option X:=
 match zeroOf P e with
 | some z=>gD N σ d (.ak (z.cells.toList.map gV)) (.aC d 0) k
 | none=>none
def tu(P:Program)(t:TypeId):Option (TypeId×TC):=
 match pR P t with
 | none=>none
 | some e=>match Uz e,jn P e,bytesOf P e with
  | some tc,some n,some b=>bif Nat.beq n (aB tc)&&Nat.ble b 65536 then some (e,tc)else none
  | _,_,_=>none
def UR(P:Program)(e:TypeId)(tc:TC):Option (T tc):=
 match zeroOf P e with
 | none=>none
 | some z=>match Dc z.cells.toList with
  | none=>none
  | some vs=>dec tc (full tc) vs
def xK{X:Type}(P:Program)(N:Nat)(σ:S)(d:Nat)(t:TypeId)(l c:A)(k:S->Option X):Option X:=
 match tu P t,l,c with
 | some (e,tc),.lf (.v (.int _ n)),.lf (.v (.int _ c))=>match UR P e tc with
  | none=>none
  | some z=>if 0<=n/\n<=c/\c<1073741824 then gD N σ d (.sl (.sl tc (full tc+2) false (List.replicate n.toNat z))) (.lf (.own [d])) k else none
 | _,_,_=>none
def V.HA(t:TC):V->Option (List (T t))
 | .sl t' _ _ l=>if h:t'=t then some (h ▸ l)else none
 | .nil=>some []
 | _=>none
def nO{X:Type}(P:Program)(N:Nat)(σ:S)(d:Nat)(t:TypeId)(x y:A)(k:S->Option X):Option X:=
 match tu P t with
 | some (e,tc)=>bif Nat.beq (full tc) 0&&(zeroOf P e).any (fun z=>Nat.beq z.cells.size (aB tc))then nM σ y fun yv=>(match yv.HA tc with
  | none=>none
  | some l2=>match x with
   | .lf (.v .nil)=>bif cu l2.length then gD N σ d (.sl (.sl tc 2 false l2)) (.lf (.own [d])) k else none
   | .lf (.own [r])=>(match σ.m r with
    | some (.sl (.sl t' (o+2) q l))=>if h:t'=tc then (bif Nat.blt d N&&(Nat.blt r N || Nat.ble 60000 r)&&cu (l.length+l2.length)then k (((σ.drop r).root r (.sl (.sl tc (o+2) false ((h ▸ l)++l2)))).set d (.lf (.own [r])))else none)else none
    | _=>none)
   | _=>none)else none
 | none=>none
section
variable {P:Program} {w w':World} {w0:Wd} {B N:Nat} {af ax:bq} {ρ ρ':Nat->Loc} {σ:S} {a:Act} {X:Type} {d:Nat} {r:X}
theorem HB(v:Value):cL w B af ρ (gV v) v:=by
 unfold gV
 split
 ·exact⟨rfl,.int _ _ _⟩
 ·exact⟨rfl,.bool _ _⟩
 ·exact⟨rfl,.str _ _⟩
 ·exact⟨rfl,.nil _⟩
 ·trivial
theorem ahU{v:Value}{x:V}(h:zeroV v=some x)(q:List Nat):RV w B af q x v:=by
 unfold zeroV at h
 split at h <;>first | (injection h with h;subst h;first | exact .int _ _ _ | exact .bool _ _ | exact .str _ _ | exact .nil _) | cases h
theorem US:∀ (vs:List Value) (xs:List V),Dc vs=some xs->xs.length=vs.length/\∀ (j:Nat) x,xs[j]?=some x->∃ v,vs[j]?=some v/\zeroV v=some x
 | [],xs,h=>by
  simp[Dc]at h
  subst h
  simp
 | v :: vs,xs,h=>by
  unfold Dc at h
  split at h
  ·rename_i y ys hy oJ
   injection h with h
   subst h
   obtain⟨h1,h2⟩:=US vs ys oJ
   refine⟨by simp[h1],fun j x hx=>?_⟩
   cases j with
   | zero=>simp at hx;subst hx;exact⟨v,rfl,hy⟩
   | succ j=>simp at hx;simpa using h2 j x hx
  ·cases h
theorem iE.UT(w0:Wd)(w:World)(o:Obj)(h:w0.heap.size<=w.heap.size):iE w0 w (w.alloc o):=.of ((Below.refl w0.heap.size w).alloc h o) (Nat.le_refl _)
theorem Rl.AK{c:Array Value}{e:TypeId}{x:aP}{ρ':Nat->Loc}(h:Rl w0 N af ρ σ a w)(hF:w0.F d=none)(aK:∀ r,r≠d->ρ' r=ρ r)
  (hx:dK (w.alloc (.cells c e)) w0.heap.size (bG af w.heap.size (some [d])) ρ' d x):Rl w0 N (bG af w.heap.size (some [d])) ρ' ((σ.drop d).root d x) a (w.alloc (.cells c e)):=by
 refine h.tq hF (iE.UT w0 w _ h.below.size) ⟨by simp,fun b hb _=>Below.heap_alloc w _ b hb,fun b hb=>cm _ _ _ (by omega),fun b hb=>(h.cH b [] hb).2.2 rfl⟩ (fun b k hb hk=>?_) aK hx
 by_cases e:b=w.heap.size
 ·subst e
  rw[bK]at hk
  injection hk with hk
  subst hk
  exact⟨by simp,by simp⟩
 ·rw[cm _ _ _ e]at hk
  have:=(h.cH b k hk).2.1
  omega
theorem l8{x:aP}{y:A}{k:S->Option X}(h:gD N σ d x y k=some r):d<N/\k (((σ.drop d).root d x).set d y)=some r:=by
 unfold gD at h
 cases hN:Nat.blt d N with
 | false=>rw[hN]at h;cases h
 | true=>rw[hN]at h;exact⟨by have:=Nat.le_of_ble_eq_true hN;omega,h⟩
theorem ahV{e:TypeId}{k:S->Option X}(h:pV P N σ d e k=some r):∃ aj,k aj=some r/\∀ af ρ a w,Rl w0 N af ρ σ a w->∃ w' ax ρ' v,(Instr.alloc e true (.tuple #[])).run P w = .ok v w'/\Rl w0 N ax ρ' aj (a.put (some d) v) w':=by
 unfold pV at h
 split at h
 ·rename_i z hz
  obtain⟨hd,h⟩:=l8 h
  refine⟨_,h,fun af ρ a w hR=>?_⟩
  have aW:(Instr.alloc e true (.tuple #[])).run P w = .ok (.pointer (some ⟨w.heap.size,0,none⟩)) (w.alloc (.cells z.cells e)):=by
   unfold zeroOf at hz
   cases hi:P.info? e with
   | none=>simp[hi]at hz
   | some i=>
    have hz:i.zero=some z:=by simpa [hi]using hz
    simp[Instr.alloc,zeroValue,typeInfo,hi,hz,newVar,newRow]
  refine⟨_,bG af w.heap.size (some [d]),bG ρ d (.ak w.heap.size 0),_,aW,(hR.AK (hR.eg d (.inl hd)) (fun r hr=>cm _ _ _ hr) ?_).set ⟨w.heap.size,0,bK _ _ _,rfl⟩ hd⟩
  refine .ak w.heap.size 0 z.cells e _ (fun j=>z.cells.getD j undef) (bK _ _ _) (bK _ _ _) (heap_alloc_new w _) (by simp) fun j x hx=>?_
  rw[List.getElem?_map]at hx
  cases hv:z.cells.toList[j]? with
  | none=>rw[hv]at hx;cases hx
  | some v=>
   rw[hv]at hx
   injection hx with hx
   subst hx
   have dR:z.cells[j]?=some v:=by simpa using hv
   have hg:z.cells.getD j undef=v:=by rw[Array.getD_eq_getD_getElem?,dR];rfl
   rw[hg,Nat.zero_add]
   exact⟨dR,HB v⟩
 ·cases h
theorem xL{t e:TypeId}{tc:TC}(h:tu P t=some (e,tc)):P.underlying t=some (.slice e)/\tid tc=e/\∃ i,P.info? e=some i/\i.size=aB tc/\i.bytes<=65536:=by
 unfold tu at h
 split at h
 ·cases h
 ·rename_i e' he
  split at h
  ·rename_i tc' n b htc hn hb
   cases hc:(Nat.beq n (aB tc')&&Nat.ble b 65536)with
   | false=>rw[hc]at h;cases h
   | true=>
    rw[hc,cond_true]at h
    injection h with h
    injection h with h1 h2
    subst h1 h2
    rw[Bool.and_eq_true]at hc
    refine⟨?_,ahz htc,?_⟩
    ·unfold pR at he
     split at he
     ·rename_i e'' hu;injection he with he;subst he;exact hu
     ·cases he
    ·unfold jn at hn
     unfold bytesOf at hb
     cases hi:P.info? e' with
     | none=>simp[hi]at hn
     | some i=>
      simp only[hi,Option.map_some,Option.some.injEq]at hn hb
      refine⟨i,rfl,hn.trans (Nat.eq_of_beq_eq_true hc.1),by rw[hb];exact Nat.le_of_ble_eq_true hc.2⟩
  ·cases h
theorem ahW(z:Array Value)(n i j:Nat)(hz:j<z.size)(h:i*z.size+j<n):(madeCells z n)[i*z.size+j]?=some z[j]:=by
 have hm:(i*z.size+j) % z.size=j:=by rw[Nat.add_comm,Nat.add_mul_mod_self_right,Nat.mod_eq_of_lt hz]
 simp only[madeCells,Array.getElem?_map,Array.getElem?_range,h,if_true,Option.map_some,hm]
 simp[hz]
theorem ahX{t:TypeId}{l c:A}{k:S->Option X}(h:xK P N σ d t l c k=some r):∃ aj,k aj=some r/\∀ af ρ a w,Rl w0 N af ρ σ a w->∀ u v,RA w w0.heap.size af ρ l u->RA w w0.heap.size af ρ c v->
  ∃ w' ax ρ' x,(Instr.makeSlice t u v).run P w = .ok x w'/\Rl w0 N ax ρ' aj (a.put (some d) x) w':=by
 unfold xK at h
 split at h
 ·rename_i e tc kl n kc c gE
  split at h
  ·cases h
  ·rename_i z hz
   split at h
   ·rename_i hb
    obtain⟨hd,h⟩:=l8 h
    refine⟨_,h,fun af ρ a w hR u v hu hv=>?_⟩
    obtain rfl:=hu.2.iH
    obtain rfl:=hv.2.iH
    obtain⟨eE,ht,i,hi,cT,gi⟩:=xL gE
    unfold UR at hz
    split at hz
    ·cases hz
    ·rename_i zv HC
     split at hz
     ·cases hz
     ·rename_i vs fK
      have oM:i.zero=some zv:=by unfold zeroOf at HC;simpa [hi]using HC
      obtain⟨tv,fD⟩:=US _ _ fK
      have hk:=mK tc (full tc) vs z hz
      have fR:zv.cells.size=aB tc:=by rw[<-kM tc (full tc) z,<-hk.1,tv];simp
      have Cv:(i.bytes:Int)*c<=281474976710656:=by
       have h1:(i.bytes:Int)<=65536:=by omega
       have h2:(i.bytes:Int)*c<=65536*c:=Int.mul_le_mul_of_nonneg_right h1 (by omega)
       omega
      have aW:=run_make (P:=P) w t e i zv eE hi oM kl kc n c hb.1 hb.2.1 Cv (by omega)
      rw[cT,<-fR]at aW
      refine⟨_,bG af w.heap.size (some [d]),bG ρ d (.dJ (.slice (some ⟨w.heap.size,0,none⟩) n.toNat c.toNat)),_,aW,(hR.AK (hR.eg d (.inl hd)) (fun r hr=>cm _ _ _ hr) ?_).set ⟨rfl,?_⟩ hd⟩
      ·refine .sl _ _ (bK _ _ _) ?_
       have hlen:(List.replicate n.toNat z).length=n.toNat:=by simp
       have:=RV.own (w:=w.alloc (.cells (madeCells zv.cells (c.toNat*zv.cells.size)) e)) (B:=w0.heap.size) (af:=bG af w.heap.size (some [d])) [d] tc (full tc) false (List.replicate n.toNat z) w.heap.size c.toNat (madeCells zv.cells (c.toNat*zv.cells.size)) (fun _ j=>zv.cells.getD j undef)
        (bK _ _ _) (by rw[ht];exact heap_alloc_new w _) (by rw[size_madeCells,fR]) (by rw[hlen];omega) ⟨by unfold maxLen;omega,fun h=>by cases h⟩ (fun i' h' j x hx=>?_) (fun i' h' j x hx=>?_)
       ·rw[hlen]at this
        exact this
       ·rw[List.getElem_replicate]at hx
        have hj:j<aB tc:=by have:=(List.getElem?_eq_some_iff.1 hx).1;rwa [kM]at this
        rw[hlen]at h'
        rw[<-fR]at hj
        rw[<-fR,ahW zv.cells _ i' j hj (by
         have:(i'+1)*zv.cells.size<=c.toNat*zv.cells.size:=Nat.mul_le_mul_right _ (by omega)
         rw[Nat.succ_mul]at this
         omega)]
        simp[Array.getD_eq_getD_getElem?,hj]
       ·rw[List.getElem_replicate]at hx
        have hj:j<(enc tc (full tc) z).length:=(List.getElem?_eq_some_iff.1 hx).1
        rw[<-hk.1]at hj
        have hy:=List.getElem?_eq_getElem hj
        generalize vs[j]=y at hy
        obtain⟨v,hv,ahY⟩:=fD j y hy
        have dR:zv.cells[j]?=some v:=by simpa using hv
        have hg:zv.cells.getD j undef=v:=by rw[Array.getD_eq_getD_getElem?,dR];rfl
        rw[hg]
        exact(ahU ahY _).wk (hk.2 j y x hy hx)
      ·simp[cc,bK]
   ·cases h
 ·cases h
end
end Go.Proofs.YtinbifpbkcbnkaaGreat
namespace Go.Proofs.YtinbifpbkcbnkaaGreat
open Go.RowKit
set_option linter.unusedVariables false
section
variable {P:Program} {w w':World} {w0:Wd} {B N:Nat} {af ax:bq} {ρ ρ':Nat->Loc} {σ:S} {a:Act} {X:Type} {d:Nat} {r:X}
theorem NY(t:TC)(h:full t=0)(o o':Nat)(x:T t):enc t o x=enc t o' x:=by
 have key:∀ o,enc t o x=enc t 0 x:=by
  intro o
  rw[UA t o x]
  have:=C0 t o x h
  conv=>lhs;rw[<-List.map_id (enc t o x)]
  apply List.map_congr_left
  intro y hy
  have hp:=this y hy
  cases y <;>first | rfl | cases hp
 rw[key o,key o']
def tw(u:Nat->Nat->Value)(n s:Nat):List Value:=(List.range (n*s)).map fun k=>u (k / s) (k % s)
theorem UU(u:Nat->Nat->Value)(n s i j:Nat)(hi:i<n)(hj:j<s):(tw u n s)[i*s+j]?=some (u i j):=by
 have bw:i*s+j<n*s:=by
  have:(i+1)*s<=n*s:=Nat.mul_le_mul_right _ hi
  rw[Nat.succ_mul]at this
  omega
 have hd:(i*s+j) / s=i:=by rw[Nat.add_comm,Nat.add_mul_div_right _ _ (by omega),Nat.div_eq_of_lt hj,Nat.zero_add]
 have hm:(i*s+j) % s=j:=by rw[Nat.add_comm,Nat.add_mul_mod_self_right,Nat.mod_eq_of_lt hj]
 simp[tw,bw,hd,hm]
theorem HD(u:Nat->Nat->Value)(n s k:Nat)(v:Value)(hs:0<s)(h:(tw u n s)[k]?=some v):∃ i j,k=i*s+j/\i<n/\j<s/\v=u i j:=by
 have hk:k<n*s:=by
  have:=(List.getElem?_eq_some_iff.1 h).1
  simpa [tw]using this
 refine⟨k / s,k % s,by rw[Nat.mul_comm];exact(Nat.div_add_mod k s).symm,Nat.div_lt_of_lt_mul (by rw[Nat.mul_comm];exact hk),Nat.mod_lt _ hs,?_⟩
 simp only[tw,List.getElem?_map,List.getElem?_range hk,Option.map_some,Option.some.injEq]at h
 exact h.symm
theorem Dd(t:TC)(o:Nat)(x:T t)(j:Nat)(hj:j<aB t):∃ y,(enc t o x)[j]?=some y:=⟨_,List.getElem?_eq_getElem (by rw[kM];exact hj)⟩
def tA(t:TC)(l:List (T t))(vs:List Value):Prop:=
 ∀ i (hi:i<l.length) (o j:Nat) x,(enc t o l[i])[j]?=some x->∃ v,vs[i*aB t+j]?=some v/\v.oneCell'=true/\∀ (w':World) (B':Nat) (ax:bq) (q':List Nat),RV w' B' ax q' x v
theorem RV.reads{q:List Nat}{t:TC}{g:Nat}{qn:Bool}{l:List (T t)}{u:Value}(h:RV w B af q (.sl t g qn l) u)(hf:full t=0):
  ∃ A c news,u = .slice A l.length c/\Reads w w.heap.size (aB t) A l.length news/\(∀ v∈news,v.oneCell'=true)/\tA t l news:=by
 cases h with
 | cD=>exact⟨none,0,[],rfl,Reads.none_,by simp,fun i hi=>by simp at hi⟩
 | cK=>exact⟨_,_,[],rfl,⟨by simp,fun h=>by simp at h⟩,by simp,fun i hi=>by simp at hi⟩
 | cW=>exact⟨_,_,[],rfl,⟨by simp,fun h=>by simp at h⟩,by simp,fun i hi=>by simp at hi⟩
 | ah _ _ _ _ _ b off cap us ho hl hb h1 dP hc hr=>
  have ke:∀ i (hi:i<l.length) j,j<aB t->(us i j).oneCell'=true:=by
   intro i hi j hj
   obtain⟨y,hy⟩:=Dd t g l[i] j hj
   exact(hr i hi j y hy).one
  refine⟨_,cap,tw us l.length (aB t),rfl,⟨by simp[tw],fun hn=>⟨b,off,rfl,hb,fun k v hv=>?_⟩⟩,fun v hv=>?_,fun i hi o j x hx=>?_⟩
  ·obtain⟨i,j,rfl,hi,hj,rfl⟩:=HD us _ _ k v (oF t) hv
   obtain⟨y,hy⟩:=Dd t g l[i] j hj
   exact hc i hi j y hy
  ·obtain⟨k,hk⟩:=List.mem_iff_getElem?.1 hv
   obtain⟨i,j,rfl,hi,hj,rfl⟩:=HD us _ _ k v (oF t) hk
   exact ke i hi j hj
  ·have hj:j<aB t:=by have:=(List.getElem?_eq_some_iff.1 hx).1;rwa [kM]at this
   rw[NY t hf o g]at hx
   refine⟨us i j,UU us _ _ i j hi hj,ke i hi j hj,fun w' B' ax q'=>(hr i hi j x hx).xG (C0 t g l[i] hf x (List.mem_of_getElem? hx))⟩
 | own _ _ o _ _ b cap cs us hl hh hs hn hm hc hr=>
  have ke:∀ i (hi:i<l.length) j,j<aB t->(us i j).oneCell'=true:=by
   intro i hi j hj
   obtain⟨y,hy⟩:=Dd t o l[i] j hj
   exact(hr i hi j y hy).one
  refine⟨_,cap,tw us l.length (aB t),rfl,⟨by simp[tw],fun hn=>⟨b,0,rfl,(Array.getElem?_eq_some_iff.1 hh).1,fun k v hv=>?_⟩⟩,fun v hv=>?_,fun i hi o' j x hx=>?_⟩
  ·obtain⟨i,j,rfl,hi,hj,rfl⟩:=HD us _ _ k v (oF t) hv
   obtain⟨y,hy⟩:=Dd t o l[i] j hj
   rw[Nat.zero_add,cell_of_row w b _ cs _ _ hh]
   exact hc i hi j y hy
  ·obtain⟨k,hk⟩:=List.mem_iff_getElem?.1 hv
   obtain⟨i,j,rfl,hi,hj,rfl⟩:=HD us _ _ k v (oF t) hk
   exact ke i hi j hj
  ·have hj:j<aB t:=by have:=(List.getElem?_eq_some_iff.1 hx).1;rwa [kM]at this
   rw[NY t hf o' o]at hx
   refine⟨us i j,UU us _ _ i j hi hj,ke i hi j hj,fun w' B' ax q'=>(hr i hi j x hx).xG (C0 t o l[i] hf x (List.mem_of_getElem? hx))⟩
theorem RV.NZ{q:List Nat}{t:TC}{o:Nat}{qn:Bool}{l:List (T t)}{u:Value}(h:RV w B af q (.sl t (o+2) qn l) u)(hf:full t=0){B':Nat}(hB:∀ b,af b=some q->B'<=b):
  ∃ xs,w.ownsRow B' (tid t) (aB t) u l.length xs/\(∀ b,u.ownBlock=some b->af b=some q)/\(qn=true->u.ownBlock≠none)/\tA t l xs:=by
 cases h with
 | cK=>omega
 | cW=>omega
 | cD=>exact⟨[],⟨by simp,.inl ⟨rfl,rfl⟩⟩,by simp[Value.ownBlock],by simp,fun i hi=>by simp at hi⟩
 | ah _ _ _ _ _ _ _ _ _ ho=>omega
 | own _ _ _ _ _ b cap cs us hl hh hs hn hm hc hr=>
  refine⟨cs.toList.take (l.length*aB t),⟨?_,.inr ⟨b,cap,cs,rfl,hB b hl,hh,hn,hm.1,hs,rfl⟩⟩,fun b' l5=>?_,fun _=>by simp[Value.ownBlock],fun i hi o' j x hx=>?_⟩
  ·have dg:cs.toList.length=cap*aB t:=by rw[<-hs];simp
   rw[List.length_take,dg]
   have:=Nat.mul_le_mul_right (aB t) hn
   omega
  ·have:b=b':=by simpa [Value.ownBlock]using l5
   subst this
   exact hl
  ·have hj:j<aB t:=by have:=(List.getElem?_eq_some_iff.1 hx).1;rwa [kM]at this
   have bw:i*aB t+j<l.length*aB t:=by
    have:(i+1)*aB t<=l.length*aB t:=Nat.mul_le_mul_right _ hi
    rw[Nat.succ_mul]at this
    omega
   rw[NY t hf o' o]at hx
   refine⟨us i j,?_,(hr i hi j x hx).one,fun w' B' ax q'=>(hr i hi j x hx).xG (C0 t o l[i] hf x (List.mem_of_getElem? hx))⟩
   rw[List.getElem?_take,if_pos bw,Array.getElem?_toList]
   exact hc i hi j x hx
theorem tA.append{t:TC}{l l2:List (T t)}{xs ys:List Value}(h:tA t l xs)(h2:tA t l2 ys)(hl:xs.length=l.length*aB t):tA t (l++l2) (xs++ys):=by
 intro i hi o j x hx
 have hj:j<aB t:=by have:=(List.getElem?_eq_some_iff.1 hx).1;rwa [kM]at this
 by_cases bw:i<l.length
 ·rw[List.getElem_append_left bw]at hx
  obtain⟨v,hv,r⟩:=h i bw o j x hx
  refine⟨v,?_,r⟩
  rw[List.getElem?_append_left (List.getElem?_eq_some_iff.1 hv).1]
  exact hv
 ·rw[List.getElem_append_right (by omega)]at hx
  have N0:i-l.length<l2.length:=by rw[List.length_append]at hi;omega
  obtain⟨v,hv,r⟩:=h2 (i-l.length) N0 o j x hx
  refine⟨v,?_,r⟩
  have e:i*aB t+j=xs.length+((i-l.length)*aB t+j):=by
   rw[hl,Nat.sub_mul]
   have:l.length*aB t<=i*aB t:=Nat.mul_le_mul_right _ (by omega)
   omega
  rw[e,List.getElem?_append_right (by omega),Nat.add_sub_cancel_left]
  exact hv
theorem De{q:List Nat}{t:TC}{o:Nat}{l:List (T t)}{u:Value}{xs:List Value}{B':Nat}(h:w.ownsRow B' (tid t) (aB t) u l.length xs)(he:tA t l xs)(hl:∀ b,u.ownBlock=some b->af b=some q):
  RV w B af q (.sl t (o+2) false l) u:=by
 rcases h.2 with ⟨rfl,h0⟩ | ⟨b,cap,cs,rfl,hB,hh,hn,hm,hs,ht⟩
 ·have:l=[]:=List.eq_nil_of_length_eq_zero h0
  subst this
  exact .cD _ _ _
 ·have iG:∀ i (hi:i<l.length) j x,(enc t o l[i])[j]?=some x->∃ v,cs[i*aB t+j]?=some v/\∀ (w':World) (B':Nat) (ax:bq) (q':List Nat),RV w' B' ax q' x v:=by
   intro i hi j x hx
   obtain⟨v,hv,_,r⟩:=he i hi o j x hx
   refine⟨v,?_,r⟩
   rw[<-ht,List.getElem?_take]at hv
   split at hv
   ·rw[Array.getElem?_toList]at hv;exact hv
   ·cases hv
  refine .own q t o false l b cap cs (fun i j=>(cs[i*aB t+j]?).getD undef) (hl b rfl) hh hs hn ⟨hm,fun h=>by cases h⟩ (fun i hi j x hx=>?_) (fun i hi j x hx=>?_)
  ·obtain⟨v,hv,_⟩:=iG i hi j x hx
   rw[hv];rfl
  ·obtain⟨v,hv,r⟩:=iG i hi j x hx
   rw[hv];exact r _ _ _ _
theorem Rl.append{t e ty:TypeId}{tc:TC}{i:TypeInfo}{z:Value}{rr o g:Nat}{q qn:Bool}{l l2:List (T tc)}{u v:Value}{q':List Nat}{Bx:Nat}{N1:bq}(h:Rl w0 N af ρ σ a w)(hF:w0.F rr=none)(eE:P.underlying t=some (.slice e))(ht:tid tc=e)(hi:P.info? e=some i)(hz:i.zero=some z)
  (cT:i.size=aB tc) (gi:i.bytes<=65536) (fR:z.cells.size=aB tc) (hf:full tc=0) (hd:RV w w0.heap.size af [rr] (.sl tc (o+2) q l) u) (hs:RV w Bx N1 q' (.sl tc g qn l2) v) (hlen:l.length+l2.length<1073741824):
  ∃ v' w' ax,(Builtin.append_ #[t,t] ty #[u,v]).run P w = .ok v' w'/\Rl w0 N ax (bG ρ rr (.dJ v')) ((σ.drop rr).root rr (.sl (.sl tc (o+2) false (l++l2)))) a w'/\jV v'=true:=by
 subst ht
 obtain⟨xs,gT,nP,AL,lJ⟩:=hd.NZ hf (B':=0) (fun b _=>Nat.zero_le b)
 obtain⟨A,c,news,rfl,tB,ke,xM⟩:=hs.reads hf
 have fU:(l.length+l2.length)*i.bytes<=140737488355328:=by
  have h1:(l.length+l2.length)*i.bytes<=1073741824*65536:=Nat.mul_le_mul (by omega) gi
  omega
 obtain⟨v',w',aW,jJ,iJ,dV⟩:=Mn (P:=P) w 0 t ty (tid tc) i z (aB tc) i.bytes eE hi hz cT rfl fR (oF tc) u l.length xs gT _ A l2.length c news tB ke (by unfold maxLen;omega) fU (Nat.zero_le _)
 have tC:(l++l2).length=l.length+l2.length:=List.length_append
 rw[<-tC]at jJ
 have rS:=lJ.append xM gT.1
 have gk:jV v'=true:=by rcases jJ.2 with ⟨rfl,_⟩ | ⟨_,_,_,rfl,_⟩ <;>rfl
 have kg:Below 0 w w':=(Below.refl 0 w).grown iJ (Nat.zero_le _) (fun _ _=>Nat.zero_le _)
 have fM:iE w0 w w':=⟨kg.os,kg.tape,kg.output,kg.size,fun k hk hL=>iJ.block k (Nat.lt_of_lt_of_le hk h.below.size) (fun e'=>by
  rcases(h.cH k _ (nP k e'.symm)).1 with h1 | h1
  ·exact absurd hk (Nat.not_lt.2 h1)
  ·exact h1 hL)⟩
 by_cases kQ:v'.ownBlock=some w.heap.size
 ·have bw:w.heap.size<w'.heap.size:=by
   rcases jJ.2 with ⟨rfl,_⟩ | ⟨b,cap,cs,rfl,_,hh,_⟩
   ·cases kQ
   ·have:b=w.heap.size:=by simpa [Value.ownBlock]using kQ
    subst this
    exact(Array.getElem?_eq_some_iff.1 hh).1
  refine⟨v',w',bG af w.heap.size (some [rr]),aW,h.tq hF fM ⟨iJ.size,fun b hb aV=>iJ.block b hb (fun e'=>aV (nP b e'.symm)),fun b hb=>cm _ _ _ (by omega),fun b hb=>(h.cH b [] hb).2.2 rfl⟩ (fun b k hb hk=>?_) (fun r hr=>cm _ _ _ hr) (.sl v' _ (bK _ _ _) (De jJ rS (fun b hb=>?_))),gk⟩
  ·by_cases e:b=w.heap.size
   ·subst e
    rw[bK]at hk
    injection hk with hk
    subst hk
    exact⟨bw,by simp⟩
   ·rw[cm _ _ _ e]at hk
    have:=(h.cH b k hk).2.1
    omega
  ·rw[kQ]at hb
   injection hb with hb
   subst hb
   exact bK _ _ _
 ·have Df:v'.ownBlock=u.ownBlock:=by
   rcases dV with dV | dV
   ·exact dV
   ·exact absurd dV kQ
  refine⟨v',w',af,aW,h.tq hF fM ⟨iJ.size,fun b hb aV=>iJ.block b hb (fun e'=>aV (nP b e'.symm)),fun _ _=>rfl,fun b hb=>(h.cH b [] hb).2.2 rfl⟩ (fun b k hb hk=>?_) (fun r hr=>cm _ _ _ hr) (.sl v' _ (bK _ _ _) (De jJ rS (fun b hb=>nP b (by rw[<-Df];exact hb)))),gk⟩
  have:=(h.cH b k hk).2.1
  omega
theorem N2{t:TC}{x:V}{l:List (T t)}(h:x.HA t=some l){q:List Nat}{u:Value}(hu:RV w B af q x u):∃ g qn,RV w B af q (.sl t g qn l) u:=by
 unfold V.HA at h
 split at h
 ·rename_i t' g qn l'
  split at h
  ·rename_i ht
   subst ht
   injection h with h
   subst h
   exact⟨g,qn,hu⟩
  ·cases h
 ·injection h with h
  subst h
  cases hu
  exact⟨0,false,.cD _ _ _⟩
 ·cases h
theorem N3{x:Lf}{k:V->Option X}(h:gB σ x k=some r):∃ y,(∀ af ρ a w,Rl w0 N af ρ σ a w->∀ u,cL w w0.heap.size af ρ x u->∃ q,RV w w0.heap.size af q y u)/\k y=some r:=by
 cases x with
 | v z=>exact⟨z,fun af ρ a w _ u hu=>⟨[],hu.2⟩,h⟩
 | dead=>cases h
 | own q=>
  obtain⟨z,hz,h⟩:=qx q _ h
  refine⟨z,fun af ρ a w hR u hu=>?_,h⟩
  obtain⟨v,hv,hr⟩:=hz.ok hR.root
  have h3:=hu.2
  rw[hv]at h3
  injection h3 with h3
  subst h3
  exact⟨q,hr⟩
theorem UW{y:A}{k:V->Option X}(h:nM σ y k=some r):∃ z,(∀ af ρ a w,Rl w0 N af ρ σ a w->∀ u,RA w w0.heap.size af ρ y u->∃ q B' ax,RV w B' ax q z u)/\k z=some r:=by
 unfold nM at h
 split at h
 ·obtain⟨z,hz,h2⟩:=N3 (w0:=w0) (N:=N) h
  exact⟨z,fun af ρ a w hR u hu=>let ⟨q,hq⟩:=hz af ρ a w hR u hu;⟨q,_,_,hq⟩,h2⟩
 ·obtain⟨z,h2,_,hz⟩:=UH h
  exact⟨z,fun af ρ a w hR u hu=>⟨[],0,_,hz _ _ _ _ _ _ hR u hu 0⟩,h2⟩
 ·cases h
theorem ahZ{t ty:TypeId}{x y:A}{k:S->Option X}(h:nO P N σ d t x y k=some r):∃ aj,k aj=some r/\∀ af ρ a w,Rl w0 N af ρ σ a w->∀ u v,RA w w0.heap.size af ρ x u->RA w w0.heap.size af ρ y v->
  ∃ w' ax ρ' z,(Builtin.append_ #[t,t] ty #[u,v]).run P w = .ok z w'/\Rl w0 N ax ρ' aj (a.put (some d) z) w':=by
 unfold nO at h
 split at h
 ·rename_i e tc gE
  obtain⟨eE,ht,i,hi,cT,gi⟩:=xL gE
  cases hc:(Nat.beq (full tc) 0&&(zeroOf P e).any (fun z=>Nat.beq z.cells.size (aB tc)))with
  | false=>rw[hc]at h;cases h
  | true=>
   rw[hc,cond_true]at h
   rw[Bool.and_eq_true]at hc
   have hf:=Nat.eq_of_beq_eq_true hc.1
   obtain⟨z,hz,fR⟩:=(Option.any_eq_true _ _).1 hc.2
   have fR:=Nat.eq_of_beq_eq_true fR
   have oM:i.zero=some z:=by unfold zeroOf at hz;simpa [hi]using hz
   obtain⟨yv,HE,h2⟩:=UW (w0:=w0) (N:=N) h
   clear h
   split at h2
   ·cases h2
   ·rename_i l2 fD
    split at h2
    ·cases hL:cu l2.length with
     | false=>rw[hL]at h2;cases h2
     | true=>
      rw[hL,cond_true]at h2
      have hL:l2.length<1073741824:=by simpa [cu]using hL
      obtain⟨hd,h3⟩:=l8 h2
      refine⟨_,h3,fun af ρ a w hR u v hu hv=>?_⟩
      have hu:u = .slice none 0 0:=by cases hu.2;rfl
      subst hu
      obtain⟨q',_,_,dR⟩:=HE af ρ a w hR v hv
      obtain⟨g,qn,dR⟩:=N2 fD dR
      obtain⟨v',w',ax,aW,aT,gk⟩:=hR.append (ty:=ty) (rr:=d) (o:=0) (q:=false) (l:=[]) (hR.eg d (.inl hd)) eE ht hi oM cT gi fR hf (.cD _ _ _) dR (by simpa using hL)
      exact⟨w',ax,_,v',aW,aT.set ⟨gk,by simp[cc,bK]⟩ hd⟩
    ·rename_i rr
     split at h2
     ·rename_i t' o q l hm
      split at h2
      ·rename_i fE
       subst fE
       cases hL:(Nat.blt d N&&(Nat.blt rr N || Nat.ble 60000 rr)&&cu (l.length+l2.length))with
       | false=>rw[hL]at h2;cases h2
       | true=>
        rw[hL,cond_true]at h2
        rw[Bool.and_eq_true,Bool.and_eq_true,Bool.or_eq_true]at hL
        have vF:l.length+l2.length<1073741824:=by simpa [cu]using hL.2
        have hd:d<N:=by have:=Nat.le_of_ble_eq_true hL.1.1;omega
        have ic:rr<N\/60000<=rr:=hL.1.2.imp (fun h=>by have:=Nat.le_of_ble_eq_true h;omega) (fun h=>Nat.le_of_ble_eq_true h)
        refine⟨_,h2,fun af ρ a w hR u v hu hv=>?_⟩
        obtain⟨q',_,_,dR⟩:=HE af ρ a w hR v hv
        obtain⟨g,qn,dR⟩:=N2 fD dR
        have dm:=hR.root rr _ hm
        generalize he:aP.sl (.sl t' (o+2) q l)=x at dm
        cases dm with
        | ak=>cases he
        | mp=>cases he
        | gh=>cases he
        | sl uu y aK hr=>
         injection he with he
         subst he
         have xJ:uu=u:=by
          have h4:=hu.2
          simp only[cc,aK]at h4
          injection h4
         subst xJ
         obtain⟨v',w',ax,aW,aT,gk⟩:=hR.append (ty:=ty) (hR.eg rr ic) eE ht hi oM cT gi fR hf hr dR vF
         exact⟨w',ax,_,v',aW,aT.set ⟨gk,by simp[cc,bK]⟩ hd⟩
      ·cases h2
     ·cases h2
    ·cases h2
 ·cases h
end
end Go.Proofs.YtinbifpbkcbnkaaGreat
namespace Go.Proofs.YtinbifpbkcbnkaaGreat
open Go.RowKit
set_option linter.unusedVariables false
def vG(place:Nat->Option (Nat×Nat))(cells:List Lf):List (Nat×A)->Option (List Lf)
 | []=>some cells
 | (i,x) :: rest=>match place i,x.vD with
  | some (off,n),some xs=>if xs.length=n/\off+n<=cells.length then (bif xs.all Lf.live then vG place (eH cells off xs) rest else none)else none
  | _,_=>none
def UX(P:Program)(t:TypeId):Option (Nat->Option (Nat×Nat)):=
 match P.underlying t with
 | some (.array _ e)=>(P.info? e).map fun ie=>fun i=>some (i*ie.size,ie.size)
 | some (.struct fields)=>(fields.toList.mapM (fun f=>(P.info? f.type).map fun i=>(f.offset,i.size))).map fun ps=>(ps.toArray[·]?)
 | _=>none
def rT{X:Type}(P:Program)(σ:S)(t:TypeId)(parts:List (Nat×Operand))(k:A->Option X):Option X:=
 match zeroOf P t,UX P t with
 | some z,some pl=>match vG pl (z.cells.toList.map gV) (parts.map fun p=>(p.1,aA σ p.2))with
  | some cs=>k (.agg cs)
  | none=>none
 | _,_=>none
def Lf.asV:Lf->Option V
 | .v x=>some x
 | _=>none
def rU:List Lf->Option (List V)
 | []=>some []
 | x :: xs=>match x.asV,rU xs with
  | some y,some ys=>some (y :: ys)
  | _,_=>none
def Dg(t:TC)(g:Nat):Nat->List V->Option (List (T t))
 | 0,[]=>some []
 | 0,_=>none
 | n+1,vs=>match dec t g (vs.take (aB t)),Dg t g n (vs.drop (aB t))with
  | some x,some xs=>some (x :: xs)
  | _,_=>none
def xN{X:Type}(P:Program)(N:Nat)(σ:S)(d:Nat)(t:TypeId)(len:Nat)(parts:List (Nat×Operand))(k:S->Option X):Option X:=
 match tu P t with
 | some (e,tc)=>match zeroOf P e with
  | some z=>bif Nat.beq (full tc) 0&&Nat.beq z.cells.size (aB tc)&&Nat.blt (len*aB tc) 16777217 then (match vG (fun i=>some (i*aB tc,aB tc)) (List.replicate len (z.cells.toList.map gV)).flatten (parts.map fun p=>(p.1,aA σ p.2))with
   | some cs=>(match rU cs with
    | some vs=>(match Dg tc 0 len vs with
     | some l=>gD N σ d (.sl (.sl tc 2 true l)) (.lf (.own [d])) k
     | none=>none)
    | none=>none)
   | none=>none)else none
  | none=>none
 | none=>none
section
variable {P:Program} {w w':World} {w0:Wd} {B N:Nat} {af ax:bq} {ρ ρ':Nat->Loc} {σ:S} {a:Act} {X:Type} {d:Nat} {r:X}
theorem UY(off:Nat):∀ (l:List Value) (n:Nat) (cs:Array Value),off+n+l.length<=cs.size->
  ((l.zipIdx n).foldl (fun(cs:Array Value) (p:Value×Nat)=>cs.setIfInBounds (off+p.2) p.1) cs).toList=eH cs.toList (off+n) l
 | [],n,cs,_=>by simp[eH]
 | v :: l,n,cs,h=>by
  simp only[List.length_cons]at h
  rw[List.zipIdx_cons,List.foldl_cons,UY off l (n+1) (cs.setIfInBounds (off+n) v) (by simp;omega)]
  have bw:off+n<cs.toList.length:=by simp;omega
  simp only[eH,Array.toList_setIfInBounds,List.length_cons]
  have e1:(cs.toList.set (off+n) v).take (off+(n+1))=cs.toList.take (off+n)++[v]:=by
   rw[show off+(n+1)=off+n+1 by omega,List.take_succ_eq_append_getElem (by simpa using bw),List.getElem_set_self,List.take_set_of_le (Nat.le_refl _)]
  have e2:(cs.toList.set (off+n) v).drop (off+(n+1)+l.length)=cs.toList.drop (off+(n+1)+l.length):=by
   rw[List.drop_set_of_lt (by omega)]
  rw[e1,e2,show off+n+(l.length+1)=off+(n+1)+l.length by omega]
  simp
theorem cX.eH{cs xs:List Lf}{cv xv:Array Value}(h:cX w B af ρ cs cv)(hx:cX w B af ρ xs xv){off:Nat}(hf:off+xs.length<=cs.length){ff:Array Value}(hc:ff.toList=Proofs.YtinbifpbkcbnkaaGreat.eH cv.toList off xv.toList):cX w B af ρ (Proofs.YtinbifpbkcbnkaaGreat.eH cs off xs) ff:=by
 have UZ:off+xv.toList.length<=cv.toList.length:=by rw[Array.length_toList,Array.length_toList,hx.1,h.1];exact hf
 refine⟨?_,fun j x hj=>?_⟩
 ·rw[xC _ _ _ hf,<-Array.length_toList,hc,xC _ _ _ UZ,Array.length_toList,h.1]
 ·have e:ff[j]?=(Proofs.YtinbifpbkcbnkaaGreat.eH cv.toList off xv.toList)[j]?:=by rw[<-hc,Array.getElem?_toList]
  rw[e,xD _ _ _ UZ,Array.length_toList,hx.1]
  rw[xD _ _ _ hf]at hj
  by_cases h1:j<off
  ·simp only[h1,if_true,Array.getElem?_toList]at hj ⊢
   exact h.2 j x hj
  ·by_cases h2:j<off+xs.length
   ·simp only[h1,h2,if_true,if_false,Array.getElem?_toList]at hj ⊢
    exact hx.2 _ x hj
   ·simp only[h1,h2,if_false,Array.getElem?_toList]at hj ⊢
    exact h.2 j x hj
theorem HF{place:Nat->Option (Nat×Nat)}:∀ (parts:List (Nat×A)) (cells:List Lf) (cv:Array Value) (vs:List (Nat×Value)) (out:List Lf),vG place cells parts=some out->cX w B af ρ cells cv->vs.length=parts.length->
  (∀ (j:Nat) p q,parts[j]?=some p->vs[j]?=some q->p.1=q.1/\RA w B af ρ p.2 q.2)->∃ ff,Instr.fill place cv vs=some ff/\cX w B af ρ out ff
 | [],cells,cv,vs,out,h,hR,hl,hp=>by
  have:vs=[]:=List.eq_nil_of_length_eq_zero hl
  subst this
  injection h with h
  subst h
  exact⟨cv,rfl,hR⟩
 | (i,x) :: rest,cells,cv,vs,out,h,hR,hl,hp=>by
  cases vs with
  | nil=>simp at hl
  | cons v vs=>
   obtain⟨i',v⟩:=v
   obtain⟨e,hx⟩:=hp 0 _ _ rfl rfl
   simp only at e hx
   subst e
   unfold vG at h
   split at h
   ·rename_i off n xs gA fJ
    split at h
    ·rename_i hb
     cases ij:xs.all Lf.live with
     | false=>rw[ij]at h;cases h
     | true=>
      rw[ij,cond_true]at h
      obtain⟨U0,_⟩:=C9 fJ ij hx
      have qA:v.cells.size=n:=by rw[U0.1];exact hb.1
      have jm:¬ (off+v.cells.size > cv.size):=by rw[qA,hR.1];omega
      have ah0:(v.cells.zipIdx.foldl (fun(cs:Array Value) (p:Value×Nat)=>cs.setIfInBounds (off+p.2) p.1) cv).toList=Proofs.YtinbifpbkcbnkaaGreat.eH cv.toList off v.cells.toList:=by
       have:=UY off v.cells.toList 0 cv (by rw[Array.length_toList];omega)
       rw[<-Array.foldl_toList,Array.toList_zipIdx]
       exact this
      have td:=hR.eH U0 (off:=off) (by rw[hb.1];exact hb.2) ah0
      obtain⟨ff,nN,aT⟩:=HF rest _ _ vs out h td (by simpa using hl) (fun j p q HG jW=>hp (j+1) p q (by simpa using HG) (by simpa using jW))
      refine⟨ff,?_,aT⟩
      have aV:(v.cells.size≠n || off+v.cells.size > cv.size)=false:=by
       simp only[qA,ne_eq,not_true_eq_false,decide_false,Bool.false_or,decide_eq_false_iff_not]
       rw[<-qA]
       exact jm
      simp only[Instr.fill,gA]
      rw[if_neg (by rw[aV];simp)]
      exact nN
    ·cases h
   ·cases h
theorem ah1(z:Value):cX w B af ρ (z.cells.toList.map gV) z.cells:=by
 refine⟨by simp,fun j x hx=>?_⟩
 rw[List.getElem?_map]at hx
 cases hv:z.cells.toList[j]? with
 | none=>rw[hv]at hx;cases hx
 | some v=>
  rw[hv]at hx
  injection hx with hx
  subst hx
  exact⟨v,by simpa using hv,HB v⟩
theorem ah2{t:TypeId}{parts:Array (Nat×Operand)}{k:A->Option X}(h:rT P σ t parts.toList k=some r):∃ y,k y=some r/\∀ af ρ a w,Rl w0 N af ρ σ a w->
  ∃ v,(Instr.build t (parts.map fun(i,x)=>(i,a.eval x))).run P w = .ok v w/\RA w w0.heap.size af ρ y v:=by
 unfold rT at h
 split at h
 ·rename_i z pl hz gA
  split at h
  ·rename_i cs dn
   refine⟨_,h,fun af ρ a w hR=>?_⟩
   obtain⟨ff,hf,aT⟩:=HF (w:=w) (B:=w0.heap.size) (af:=af) (ρ:=ρ) _ _ z.cells (parts.toList.map fun p=>(p.1,a.eval p.2)) cs dn (ah1 z) (by simp) (fun j p q hp hq=>by
    rw[List.getElem?_map]at hp hq
    cases hx:parts.toList[j]? with
    | none=>rw[hx]at hp;cases hp
    | some x=>
     rw[hx]at hp hq
     injection hp with hp
     injection hq with hq
     subst hp hq
     exact⟨rfl,hR.aA x.2⟩)
   refine⟨_,run_build (P:=P) w t _ ff ?_,ff,rfl,aT⟩
   have Dh:(parts.map fun(i,x)=>(i,a.eval x)).toList=parts.toList.map fun p=>(p.1,a.eval p.2):=by simp
   rw[Dh]
   unfold zeroOf at hz
   unfold Program.built
   cases hi:P.info? t with
   | none=>simp[hi]at hz
   | some i=>
    have hz:i.zero=some z:=by simpa [hi]using hz
    unfold UX at gA
    split at gA
    ·rename_i n e hu
     cases N4:P.info? e with
     | none=>simp[N4]at gA
     | some ie=>
      rw[N4]at gA
      injection gA with gA
      subst gA
      simp only[hu,hz,N4]
      exact hf
    ·rename_i fields hu
     cases hp:fields.toList.mapM (fun f=>(P.info? f.type).map fun i=>(f.offset,i.size))with
     | none=>rw[hp]at gA;cases gA
     | some ps=>
      rw[hp]at gA
      injection gA with gA
      subst gA
      simp only[hu,hz,hp]
      exact hf
    ·cases gA
  ·cases h
 ·cases h
theorem HH:∀ (cs:List Lf) (vs:List V),rU cs=some vs->cs=vs.map .v
 | [],vs,h=>by injection h with h;subst h;rfl
 | x :: xs,vs,h=>by
  unfold rU at h
  split at h
  ·rename_i y ys hy oJ
   injection h with h
   subst h
   rw[HH xs ys oJ,List.map_cons]
   cases x <;>first | (injection hy with hy;rw[hy]) | cases hy
  ·cases h
theorem N5(t:TC)(g:Nat):∀ (n:Nat) (vs:List V) (l:List (T t)),Dg t g n vs=some l->l.length=n/\vs.length=n*aB t/\∀ i (hi:i<l.length) (j:Nat) x,(enc t g l[i])[j]?=some x->∃ y,vs[i*aB t+j]?=some y/\Wk y x
 | 0,[],l,h=>by
  injection h with h
  subst h
  exact⟨rfl,by simp,fun i hi=>by simp at hi⟩
 | 0,_ :: _,l,h=>by cases h
 | n+1,vs,l,h=>by
  unfold Dg at h
  split at h
  ·rename_i x xs hx fJ
   injection h with h
   subst h
   obtain⟨h1,h2,h3⟩:=N5 t g n _ xs fJ
   have hk:=mK t g _ x hx
   have hlen:(vs.take (aB t)).length=aB t:=by rw[hk.1,kM]
   have mM:aB t<=vs.length:=by rw[List.length_take]at hlen;omega
   refine⟨by simp[h1],?_,fun i hi j y hy=>?_⟩
   ·rw[List.length_drop]at h2
    rw[Nat.succ_mul]
    omega
   ·cases i with
    | zero=>
     simp only[List.getElem_cons_zero]at hy
     have hj:j<aB t:=by have:=(List.getElem?_eq_some_iff.1 hy).1;rwa [kM]at this
     have fm:=List.getElem?_eq_getElem (l:=vs.take (aB t)) (i:=j) (by rw[hlen];exact hj)
     refine⟨_,?_,hk.2 j _ y fm hy⟩
     rw[List.getElem?_take,if_pos hj]at fm
     rw[Nat.zero_mul,Nat.zero_add]
     exact fm
    | succ i=>
     simp only[List.getElem_cons_succ]at hy
     obtain⟨z,hz,hw⟩:=h3 i (by simpa using hi) j y hy
     refine⟨z,?_,hw⟩
     rw[List.getElem?_drop]at hz
     rw[Nat.succ_mul,show i*aB t+aB t+j=aB t+(i*aB t+j) by omega]
     exact hz
  ·cases h
end
end Go.Proofs.YtinbifpbkcbnkaaGreat
namespace Go.Proofs.YtinbifpbkcbnkaaGreat
open Go.RowKit
set_option linter.unusedVariables false
section
variable {P:Program} {w w':World} {w0:Wd} {B N:Nat} {af ax:bq} {ρ ρ':Nat->Loc} {σ:S} {a:Act} {X:Type} {d:Nat} {r:X}
theorem RV.under{k:List Nat}{x:V}{v:Value}{n:Nat}(h:RV w B af k x v)(hk:1<k.length\/x.ah=true)(hz:w.heap.size<=w'.heap.size)(hb:∀ b,b<w.heap.size->af b≠some [n]->w'.heap[b]?=w.heap[b]?)(hl:∀ b,b<w.heap.size->ax b=af b):RV w' B ax k x v:=by
 induction h with
 | int=>exact .int _ _ _
 | bool=>exact .bool _ _
 | str=>exact .str _ _
 | nil=>exact .nil _
 | cD=>exact .cD _ _ _
 | cK=>exact .cK _ _ _ _ _ (by first | assumption | omega)
 | cW=>exact .cW _ _ _ _ _ (by first | assumption | omega)
 | ah q t o qn l b off cap u ho c9 dV h1 dP hc hr ih=>
  have aV:af b≠some [n]:=by rw[c9];simp
  exact .ah _ _ _ _ _ _ _ _ u ho ((hl b dV).trans c9) (Nat.lt_of_lt_of_le dV hz) h1 dP (fun i h j x hx=>(World.cell?_of_block (a:=⟨b,_,none⟩) (hb b dV aV)).trans (hc i h j x hx)) (fun i h j x hx=>ih i h j x hx (.inr (jl t o l[i] ho j x hx)))
 | own q t o qn l b cap cs u c9 hh hs hn hm hc hr ih=>
  have dV:b<w.heap.size:=(Array.getElem?_eq_some_iff.1 hh).1
  have hq:1<q.length:=by
   rcases hk with hk | hk
   ·exact hk
   ·simp[V.ah]at hk;omega
  have aV:af b≠some [n]:=by
   rw[c9]
   intro e
   injection e with e
   rw[e]at hq
   simp at hq
  exact .own _ _ _ _ _ _ _ cs u ((hl b dV).trans c9) ((hb b dV aV).trans hh) hs hn hm hc (fun i h j x hx=>ih i h j x hx (.inl (by simp)))
def qB(w:World)(B:Nat)(af:bq)(n t0:Nat)(t:TC)(o:Nat)(l:List (T t))(vs:List Value):Prop:=
 ∀ i (hi:i<l.length) j x,(enc t o l[i])[j]?=some x->∃ v,vs[i*aB t+j]?=some v/\RV w B af (j :: (t0+i) :: aB t :: [n]) x v
theorem RV.ah3{n:Nat}{t:TC}{o:Nat}{qn:Bool}{l:List (T t)}{u:Value}(h:RV w B af [n] (.sl t (o+2) qn l) u){B':Nat}(hB:∀ b,af b=some [n]->B'<=b):
  ∃ xs,w.ownsRow B' (tid t) (aB t) u l.length xs/\(∀ b,u.ownBlock=some b->af b=some [n])/\(qn=true->u.ownBlock≠none)/\qB w B af n 0 t o l xs:=by
 cases h with
 | cK=>omega
 | cW=>omega
 | cD=>exact⟨[],⟨by simp,.inl ⟨rfl,rfl⟩⟩,by simp[Value.ownBlock],by simp,fun i hi=>by simp at hi⟩
 | ah _ _ _ _ _ _ _ _ _ ho=>omega
 | own _ _ _ _ _ b cap cs us hl hh hs hn hm hc hr=>
  refine⟨cs.toList.take (l.length*aB t),⟨?_,.inr ⟨b,cap,cs,rfl,hB b hl,hh,hn,hm.1,hs,rfl⟩⟩,fun b' l5=>?_,fun _=>by simp[Value.ownBlock],fun i hi j x hx=>?_⟩
  ·have dg:cs.toList.length=cap*aB t:=by rw[<-hs];simp
   rw[List.length_take,dg]
   have:=Nat.mul_le_mul_right (aB t) hn
   omega
  ·have:b=b':=by simpa [Value.ownBlock]using l5
   subst this
   exact hl
  ·have hj:j<aB t:=by have:=(List.getElem?_eq_some_iff.1 hx).1;rwa [kM]at this
   have bw:i*aB t+j<l.length*aB t:=by
    have:(i+1)*aB t<=l.length*aB t:=Nat.mul_le_mul_right _ hi
    rw[Nat.succ_mul]at this
    omega
   refine⟨us i j,?_,by rw[Nat.zero_add];exact hr i hi j x hx⟩
   rw[List.getElem?_take,if_pos bw,Array.getElem?_toList]
   exact hc i hi j x hx
theorem qB.append{n:Nat}{t:TC}{o:Nat}{l l2:List (T t)}{xs ys:List Value}(h:qB w B af n 0 t o l xs)(h2:qB w B af n l.length t o l2 ys)(hl:xs.length=l.length*aB t):qB w B af n 0 t o (l++l2) (xs++ys):=by
 intro i hi j x hx
 have hj:j<aB t:=by have:=(List.getElem?_eq_some_iff.1 hx).1;rwa [kM]at this
 by_cases bw:i<l.length
 ·rw[List.getElem_append_left bw]at hx
  obtain⟨v,hv,r⟩:=h i bw j x hx
  refine⟨v,?_,r⟩
  rw[List.getElem?_append_left (List.getElem?_eq_some_iff.1 hv).1]
  exact hv
 ·rw[List.getElem_append_right (by omega)]at hx
  have N0:i-l.length<l2.length:=by rw[List.length_append]at hi;omega
  obtain⟨v,hv,r⟩:=h2 (i-l.length) N0 j x hx
  refine⟨v,?_,?_⟩
  ·have e:i*aB t+j=xs.length+((i-l.length)*aB t+j):=by
    rw[hl,Nat.sub_mul]
    have:l.length*aB t<=i*aB t:=Nat.mul_le_mul_right _ (by omega)
    omega
   rw[e,List.getElem?_append_right (by omega),Nat.add_sub_cancel_left]
   exact hv
  ·have e:0+i=l.length+(i-l.length):=by omega
   rw[e]
   exact r
theorem qB.under{n t0:Nat}{t:TC}{o:Nat}{l:List (T t)}{vs:List Value}(h:qB w B af n t0 t o l vs)(hz:w.heap.size<=w'.heap.size)(hb:∀ b,b<w.heap.size->af b≠some [n]->w'.heap[b]?=w.heap[b]?)(hl:∀ b,b<w.heap.size->ax b=af b):qB w' B ax n t0 t o l vs:=
 fun i hi j x hx=>let ⟨v,hv,r⟩:=h i hi j x hx;⟨v,hv,r.under (.inl (by simp)) hz hb hl⟩
theorem U1{n:Nat}{t:TC}{o:Nat}{l:List (T t)}{u:Value}{xs:List Value}{B':Nat}(h:w.ownsRow B' (tid t) (aB t) u l.length xs)(he:qB w B af n 0 t o l xs)(hl:∀ b,u.ownBlock=some b->af b=some [n]):
  RV w B af [n] (.sl t (o+2) false l) u:=by
 rcases h.2 with ⟨rfl,h0⟩ | ⟨b,cap,cs,rfl,hB,hh,hn,hm,hs,ht⟩
 ·have:l=[]:=List.eq_nil_of_length_eq_zero h0
  subst this
  exact .cD _ _ _
 ·have iG:∀ i (hi:i<l.length) j x,(enc t o l[i])[j]?=some x->∃ v,cs[i*aB t+j]?=some v/\RV w B af (j :: i :: aB t :: [n]) x v:=by
   intro i hi j x hx
   obtain⟨v,hv,r⟩:=he i hi j x hx
   rw[Nat.zero_add]at r
   refine⟨v,?_,r⟩
   rw[<-ht,List.getElem?_take]at hv
   split at hv
   ·rw[Array.getElem?_toList]at hv;exact hv
   ·cases hv
  refine .own [n] t o false l b cap cs (fun i j=>(cs[i*aB t+j]?).getD undef) (hl b rfl) hh hs hn ⟨hm,fun h=>by cases h⟩ (fun i hi j x hx=>?_) (fun i hi j x hx=>?_)
  ·obtain⟨v,hv,_⟩:=iG i hi j x hx
   rw[hv];rfl
  ·obtain⟨v,hv,r⟩:=iG i hi j x hx
   rw[hv];exact r
theorem Rl.ah4{t e ty:TypeId}{tc:TC}{i:TypeInfo}{z:Value}{rr o m c:Nat}{q:Bool}{l l2:List (T tc)}{u:Value}{ad:Option Addr}{news:List Value}(h:Rl w0 N af ρ σ a w)(hF:w0.F rr=none)(eE:P.underlying t=some (.slice e))(ht:tid tc=e)(hi:P.info? e=some i)(hz:i.zero=some z)
  (cT:i.size=aB tc) (gi:i.bytes<=65536) (fR:z.cells.size=aB tc) (hd:RV w w0.heap.size af [rr] (.sl tc (o+2) q l) u) (tB:Reads w w.heap.size (aB tc) ad m news) (ke:∀ v∈news,v.oneCell'=true) (hm:m=l2.length)
  (xM:qB w w0.heap.size af rr l.length tc o l2 news) (hlen:l.length+l2.length<1073741824):
  ∃ v' w' ax,(Builtin.append_ #[t,t] ty #[u,.slice ad m c]).run P w = .ok v' w'/\Rl w0 N ax (bG ρ rr (.dJ v')) ((σ.drop rr).root rr (.sl (.sl tc (o+2) false (l++l2)))) a w'/\jV v'=true:=by
 subst ht hm
 obtain⟨xs,gT,nP,AL,lJ⟩:=hd.ah3 (B':=0) (fun b _=>Nat.zero_le b)
 have fU:(l.length+l2.length)*i.bytes<=140737488355328:=by
  have h1:(l.length+l2.length)*i.bytes<=1073741824*65536:=Nat.mul_le_mul (by omega) gi
  omega
 obtain⟨v',w',aW,jJ,iJ,dV⟩:=Mn (P:=P) w 0 t ty (tid tc) i z (aB tc) i.bytes eE hi hz cT rfl fR (oF tc) u l.length xs gT _ ad l2.length c news tB ke (by unfold maxLen;omega) fU (Nat.zero_le _)
 have tC:(l++l2).length=l.length+l2.length:=List.length_append
 rw[<-tC]at jJ
 have rS:=lJ.append xM gT.1
 have gk:jV v'=true:=by rcases jJ.2 with ⟨rfl,_⟩ | ⟨_,_,_,rfl,_⟩ <;>rfl
 have kg:Below 0 w w':=(Below.refl 0 w).grown iJ (Nat.zero_le _) (fun _ _=>Nat.zero_le _)
 have fM:iE w0 w w':=⟨kg.os,kg.tape,kg.output,kg.size,fun k hk hL=>iJ.block k (Nat.lt_of_lt_of_le hk h.below.size) (fun e'=>by
  rcases(h.cH k _ (nP k e'.symm)).1 with h1 | h1
  ·exact absurd hk (Nat.not_lt.2 h1)
  ·exact h1 hL)⟩
 have tD:∀ b,b<w.heap.size->af b≠some [rr]->w'.heap[b]?=w.heap[b]?:=fun b hb aV=>iJ.block b hb (fun e'=>aV (nP b e'.symm))
 by_cases kQ:v'.ownBlock=some w.heap.size
 ·have bw:w.heap.size<w'.heap.size:=by
   rcases jJ.2 with ⟨rfl,_⟩ | ⟨b,cap,cs,rfl,_,hh,_⟩
   ·cases kQ
   ·have:b=w.heap.size:=by simpa [Value.ownBlock]using kQ
    subst this
    exact(Array.getElem?_eq_some_iff.1 hh).1
  have fe:∀ b,b<w.heap.size->bG af w.heap.size (some [rr]) b=af b:=fun b hb=>cm _ _ _ (by omega)
  refine⟨v',w',bG af w.heap.size (some [rr]),aW,h.tq hF fM ⟨iJ.size,tD,fe,fun b hb=>(h.cH b [] hb).2.2 rfl⟩ (fun b k hb hk=>?_) (fun r hr=>cm _ _ _ hr) (.sl v' _ (bK _ _ _) (U1 jJ (rS.under iJ.size tD fe) (fun b hb=>?_))),gk⟩
  ·by_cases e:b=w.heap.size
   ·subst e
    rw[bK]at hk
    injection hk with hk
    subst hk
    exact⟨bw,by simp⟩
   ·rw[cm _ _ _ e]at hk
    have:=(h.cH b k hk).2.1
    omega
  ·rw[kQ]at hb
   injection hb with hb
   subst hb
   exact bK _ _ _
 ·have Df:v'.ownBlock=u.ownBlock:=by
   rcases dV with dV | dV
   ·exact dV
   ·exact absurd dV kQ
  refine⟨v',w',af,aW,h.tq hF fM ⟨iJ.size,tD,fun _ _=>rfl,fun b hb=>(h.cH b [] hb).2.2 rfl⟩ (fun b k hb hk=>?_) (fun r hr=>cm _ _ _ hr) (.sl v' _ (bK _ _ _) (U1 jJ (rS.under iJ.size tD (fun _ _=>rfl)) (fun b hb=>nP b (by rw[<-Df];exact hb)))),gk⟩
  have:=(h.cH b k hk).2.1
  omega
end
end Go.Proofs.YtinbifpbkcbnkaaGreat
