/-
  Running the program over pure contents, and that it follows (part 1). Nothing here is a claim.
-/
import Derived.Test.YtecofnkoloihpaaGreatAppend
import Derived.Test.YtecofnkoloihpaaGreatLaws
import Derived.Handy
import Derived.Great.BuildSlice
import Derived.ArgAppend
set_option linter.unusedSimpArgs false
namespace Go.Proofs.YtecofnkoloihpaaGreat
open Go.RowKit
set_option linter.defProp false
abbrev af:=List
abbrev ak:=Option
abbrev ah:=Unit
def aq:=@cond_true
def fE:=@Bool.or_eq_true
def bx:=@Bool.and_eq_true
def cr:=@Nat.eq_of_beq_eq_true
def cT:=@Nat.le_of_ble_eq_true
def hJ:=@List.mem_of_getElem?
def dP:=@List.getElem?_map
def mg:=@Nat.lt_of_lt_of_le
def mH:=@World.cell?_of_block
def ia:=@Array.getElem?_eq_some_iff
def fV:=@Nat.zero_add
def bB:=@if_pos
def gB:=@List.length_map
def au:=@cond_false
def jn:=@Array.getD_eq_getD_getElem?
def mI:=@Array.length_toList
def nh:=@Array.getElem?_toList
def cm:=@if_neg
def ni:=@List.length_set
def dS:=@List.getElem?_eq_some_iff
def cu:=@List.getElem?_eq_getElem
def gj:=@Nat.le_refl
def kG:=@Nat.mul_le_mul_right
def jo:=@Nat.succ_mul
def jM:=@Option.map_some
def gk:=@Sem.run_bind
def oZ:=@Result.andThen_ok
def jw:=@run_underlying
def bJ:=@congrArg
def jq:=@List.mem_cons
def dQ:=@List.all_eq_true
def fW:=@List.getElem_mem
def mJ:=@Nat.ble_eq_true_of_le
def gl:=@Option.some.injEq
def jx:=@Prod.mk.injEq
def mK:=@List.map_congr_left
def jN:=@List.length_take
def nj:=@List.length_cons
def qM:=@List.getElem_set_self
def lK:=@List.map_cons
def fX:=@List.getD_eq_getElem?_getD
def pV:=@Bool.or_eq_false_iff
def nq:=@Bool.not_eq_true'
def cM:=@Bool.true_and
def aG:=@dif_pos
def jY:=@List.mem_range
def nP:=@List.getElem_range
def bF:=@decide_eq_true
def bS:=@Bool.not_true
def bD:=@decide_eq_false
def cc:=@Int.toNat_natCast
def mL:=@List.take_length
def iy:=@Sum.elim_inl
def di:=@Int.natCast_zero
def kH:=@Int.eq_ofNat_of_zero_le
def eV:=@bne_self_eq_false
def eJ:=@beq_self_eq_true
def o3:=@List.mem_iff_getElem
def s7:=@List.findIdx?_eq_some_iff_getElem
def eX:=@List.length_range
def uf:=@Int.tmod_eq_emod_of_nonneg
set_option linter.unusedVariables false
set_option linter.unusedSimpArgs false
structure aX where
 cQ:Int
 aI:Int
 rows:Int
 aL:Int
structure aP where
 ay:Int
 row:Int
 bL:Int
structure lu where
 order:Int
 hash:Bool
structure L0 where
 owner:List Int
structure bV where
 kind:Int
 ay:Int
 row:Int
 bL:Int
structure dx where
 jZ:Int
 rp:Int
 gC:Int
 mM:Int
 ke:Int
 jy:Int
 mN:Int
 mO:Int
 jO:Int
 wr:Int
 nQ:Int
 nR:Int
 pW:Int
 nS:Int
 om:Int
 xp:Int
 xs:Int
structure c8 where
 open_:Bool
 row:Int
structure dy where
 aI:List c8
 aN:Int
structure cw where
 at_:Int
 cmd:bV
structure dA where
 last:List Int
 aZ:List Int
structure bG where
 symbols:List Int
 eF:Bool
structure eZ where
 cells:List bG
 bI:List Int
 bk:List Int
structure jz where
 bI:Int
 bk:Int
structure bO where
 rows:List Int
 counts:List Int
 cN:Int
structure fe where
 cF:Int
 map:List Int
structure fI where
 cg:List Int
 wait:Int
 ja:Bool
structure bN where
 id:Int
 dX:Int
 line:Int
 write:Bool
 data:Int
 at_:Int
structure bC where
 weight:Int
 gN:Int
structure mP where
 on:Bool
 low:Int
 high:Int
structure L1 where
 owner:List Int
 length:Int
structure L2 where
 id:Int
 at_:Int
structure gO where
 state:Int
 since:Int
 idle:Int
structure oq where
 down:Int
 sleep:Int
structure bw where
 line:Int
 code:Int
 times:Int
structure L3 where
 ajx:List ByteArray
structure L4 where
 ajy:List Int
 next:Int
structure L5 where
 count:Int
 commands:List bV
structure DH where
 count:Int
 tag:Int
structure F0 where
 root:Int
 mid:List DH
 leaf:List DH
structure L6 where
 key:Int
 tree:F0
 data:List Int
 tags:List Int
structure s8 where
 next:Int
 every:Int
 wait:Int
structure L7 where
 index:Int
 before:bG
 after:bG
 code:Int
structure L8 where
 ay:Int
 from_:Int
 to:Int
 next:Int
structure gn where
 jb:Int
 cap:Int
 fY:Int
 low:Int
 high:Int
 weights:List Int
 fZ:oq
structure kf where
 cO:gn
 next:gn
 waits:Bool
structure jr where
 aJ:aX
 cx:dx
 mapping:lu
 cF:Int
 interval:Int
 kI:Int
 dZ:jz
structure cD where
 id:Int
 at_:Int
 data:Int
 code:Int
structure aF where
 config:jr
 box:kf
 now:Int
 bK:dy
 ready:dA
 array:eZ
 spare:fe
 bT:fI
 aW:List bO
 guard:List Int
 pending:List aP
 queue:List bN
 shares:List bC
 drain:mP
 aN:gO
 cC:s8
 errors:List bw
 trace:List cw
 bY:List cD
structure L9 where
 kind:Int
 request:bN
 n:Int
 ajz:Int
 addr:aP
 yR:gn
structure Ma where
 line:Int
 data:Int
 code:Int
structure F1 where
 b:List Int
 i:Int
 h:Int
inductive TC where
 |int|u8|bool|str
 |dM
 |Addr
 |ot
 |yS
 |Command
 |ic
 |fL
 |jc
 |Event
 |jA
 |Cell
 |Array
 |nT
 |eN
 |kg
 |ki
 |dR
 |dK
 |pX
 |yT
 |yU
 |Power
 |pY
 |dB
 |yV
 |yW
 |Receiver
 |Node
 |Tree
 |yX
 |rX
 |yY
 |Move
 |lz
 |nt
 |Config
 |gD
 |cK
 |Act
 |Fact
 |yZ
 |sl (t:TC)
 |wW
 |DI (g:Nat)
 |DJ (g:Nat)
 |za (g:Nat)
 |fnCommand (g:Nat)
deriving DecidableEq
def T:TC->Type
 |.int=>Int
 |.u8=>Int
 |.bool=>Bool
 |.str=>ByteArray
 |.dM=>aX
 |.Addr=>aP
 |.ot=>lu
 |.yS=>L0
 |.Command=>bV
 |.ic=>dx
 |.fL=>c8
 |.jc=>dy
 |.Event=>cw
 |.jA=>dA
 |.Cell=>bG
 |.Array=>eZ
 |.nT=>jz
 |.eN=>bO
 |.kg=>fe
 |.ki=>fI
 |.dR=>bN
 |.dK=>bC
 |.pX=>mP
 |.yT=>L1
 |.yU=>L2
 |.Power=>gO
 |.pY=>oq
 |.dB=>bw
 |.yV=>L3
 |.yW=>L4
 |.Receiver=>L5
 |.Node=>DH
 |.Tree=>F0
 |.yX=>L6
 |.rX=>s8
 |.yY=>L7
 |.Move=>L8
 |.lz=>gn
 |.nt=>kf
 |.Config=>jr
 |.gD=>cD
 |.cK=>aF
 |.Act=>L9
 |.Fact=>Ma
 |.yZ=>F1
 |.sl t=>af (T t)
 |.wW=>aF
 |.DI _=>Int
 |.DJ _=>bN
 |.za _=>aP
 |.fnCommand _=>bV
def aB:TC->Nat
 |.wW=>76
 |.DI _=>3
 |.DJ _=>8
 |.za _=>5
 |.fnCommand _=>6
 |.dM=>4
 |.Addr=>3
 |.ot=>2
 |.yS=>1
 |.Command=>4
 |.ic=>17
 |.fL=>2
 |.jc=>2
 |.Event=>5
 |.jA=>2
 |.Cell=>2
 |.Array=>3
 |.nT=>2
 |.eN=>3
 |.kg=>2
 |.ki=>3
 |.dR=>6
 |.dK=>2
 |.pX=>3
 |.yT=>2
 |.yU=>2
 |.Power=>3
 |.pY=>2
 |.dB=>3
 |.yV=>1
 |.yW=>2
 |.Receiver=>2
 |.Node=>2
 |.Tree=>3
 |.yX=>6
 |.rX=>3
 |.yY=>6
 |.Move=>4
 |.lz=>8
 |.nt=>17
 |.Config=>28
 |.gD=>4
 |.cK=>75
 |.Act=>20
 |.Fact=>3
 |.yZ=>3
 |_=>1
def full:TC->Nat
 |.int|.u8|.bool|.str=>0
 |.dM=>0
 |.Addr=>0
 |.ot=>0
 |.yS=>2
 |.Command=>0
 |.ic=>0
 |.fL=>0
 |.jc=>2
 |.Event=>0
 |.jA=>2
 |.Cell=>2
 |.Array=>4
 |.nT=>0
 |.eN=>2
 |.kg=>2
 |.ki=>2
 |.dR=>0
 |.dK=>0
 |.pX=>0
 |.yT=>2
 |.yU=>0
 |.Power=>0
 |.pY=>0
 |.dB=>0
 |.yV=>2
 |.yW=>2
 |.Receiver=>2
 |.Node=>0
 |.Tree=>2
 |.yX=>2
 |.rX=>0
 |.yY=>2
 |.Move=>0
 |.lz=>2
 |.nt=>2
 |.Config=>0
 |.gD=>0
 |.cK=>4
 |.Act=>2
 |.Fact=>0
 |.yZ=>2
 |.sl t=>full t+2
 |.wW=>4
 |.DI _=>0
 |.DJ _=>0
 |.za _=>0
 |.fnCommand _=>0
def tid:TC->TypeId
 |.int=>3
 |.u8=>5
 |.bool=>4
 |.str=>9
 |.dM=>69
 |.Addr=>149
 |.ot=>71
 |.yS=>0
 |.Command=>104
 |.ic=>70
 |.fL=>265
 |.jc=>82
 |.Event=>217
 |.jA=>83
 |.Cell=>291
 |.Array=>86
 |.nT=>72
 |.eN=>198
 |.kg=>87
 |.ki=>88
 |.dR=>153
 |.dK=>240
 |.pX=>93
 |.yT=>0
 |.yU=>0
 |.Power=>94
 |.pY=>75
 |.dB=>244
 |.yV=>0
 |.yW=>0
 |.Receiver=>0
 |.Node=>0
 |.Tree=>0
 |.yX=>0
 |.rX=>95
 |.yY=>0
 |.Move=>0
 |.lz=>77
 |.nt=>79
 |.Config=>74
 |.gD=>251
 |.cK=>100
 |.Act=>0
 |.Fact=>0
 |.yZ=>0
 |.sl .int=>32
 |.sl .bool=>321
 |.sl .str=>0
 |_=>0
inductive V where
 |int (k:IntKind) (n:Int)
 |bool (b:Bool)
 |str (s:ByteArray)
 |nil
 |sl (t:TC) (o:Nat) (q:Bool) (l:List (T t))
def V.aR:V->ak Int|.int .i64 n=>some n|_=>none
def V.RH:V->ak Int|.int .u8 n=>some n|_=>none
def V.nU:V->ak Bool|.bool b=>some b|_=>none
def V.RI:V->ak ByteArray|.str s=>some s|_=>none
def V.en(t:TC)(o:Nat):V->ak (af (T t))
 |.sl t' o' _ l=>bif Nat.beq o' o ||(Nat.ble (full t+2) o'&&Nat.ble (full t+2) o)then (if h:t'=t then some (h ▸ l)else none)else none
 |.nil=>some []
 |_=>none
inductive Wk:V->V->Prop
 |same (x:V):Wk x x
 |nil (t:TC) (o:Nat):Wk .nil (.sl t o false [])
 |q (t:TC) (o:Nat) (l:List (T t)):Wk (.sl t o true l) (.sl t o false l)
 |gr (t:TC) (o o':Nat) (qn:Bool) (l:List (T t)) (h:full t+2<=o) (h':full t+2<=o'):Wk (.sl t o' qn l) (.sl t o false l)
def cz(xs ys:af V):Prop:=xs.length=ys.length/\∀(j:Nat) (x y:V),xs[j]?=some x->ys[j]?=some y->Wk x y
theorem cz.nil:cz [] []:=⟨rfl,by simp⟩
theorem cz.cons{x y:V}{xs ys:af V}(h:Wk x y)(k:cz xs ys):cz (x :: xs) (y :: ys):=by
 refine⟨by simp[k.1],λj a b ha hb=>?_⟩
 cases j with
 |zero=>simp at ha hb;subst ha;subst hb;exact h
 |succ j=>simp at ha hb;exact k.2 j a b ha hb
theorem V.aU{x:V}{n:Int}(h:x.aR=some n):Wk x (.int .i64 n):=by
 unfold V.aR at h;split at h<;>first|(injection h with h;subst h;exact .same _)|cases h
theorem V.ajA{x:V}{n:Int}(h:x.RH=some n):Wk x (.int .u8 n):=by
 unfold V.RH at h;split at h<;>first|(injection h with h;subst h;exact .same _)|cases h
theorem V.o4{x:V}{n:Bool}(h:x.nU=some n):Wk x (.bool n):=by
 unfold V.nU at h;split at h<;>first|(injection h with h;subst h;exact .same _)|cases h
theorem V.ajB{x:V}{n:ByteArray}(h:x.RI=some n):Wk x (.str n):=by
 unfold V.RI at h;split at h<;>first|(injection h with h;subst h;exact .same _)|cases h
theorem V.eO{x:V}{t:TC}{o:Nat}{l:af (T t)}(h:x.en t o=some l):Wk x (.sl t o false l):=by
 unfold V.en at h;split at h
 ·rename_i t' o' q l';cases hc:(Nat.beq o' o || (Nat.ble (full t+2) o'&&Nat.ble (full t+2) o))with
  |false=>rw[hc]at h;cases h
  | true=>
   rw[hc,aq]at h;split at h
   ·rename_i ht;subst ht;injection h with h;subst h;rw[fE,bx]at hc;rcases hc with hc | hc
    ·obtain rfl:=cr hc;cases q
     ·exact .same _
     ·exact .q _ _ _
    ·exact .gr _ _ _ _ _ (cT hc.2) (cT hc.1)
   ·cases h
 ·injection h with h;subst h;exact .nil _ _
 ·cases h
def DK(o:Nat)(x:aX):af V:=[.int .i64 x.cQ,.int .i64 x.aI,.int .i64 x.rows,.int .i64 x.aL]
def zb(o:Nat)(x:aP):af V:=[.int .i64 x.ay,.int .i64 x.row,.int .i64 x.bL]
def DL(o:Nat)(x:lu):af V:=[.int .i64 x.order,.bool x.hash]
def F2(o:Nat)(x:L0):af V:=[.sl .int o false x.owner]
def zc(o:Nat)(x:bV):af V:=[.int .i64 x.kind,.int .i64 x.ay,.int .i64 x.row,.int .i64 x.bL]
def DM(o:Nat)(x:dx):af V:=[.int .i64 x.jZ,.int .i64 x.rp,.int .i64 x.gC,.int .i64 x.mM,.int .i64 x.ke,.int .i64 x.jy,.int .i64 x.mN,.int .i64 x.mO,.int .i64 x.jO,.int .i64 x.wr,.int .i64 x.nQ,.int .i64 x.nR,.int .i64 x.pW,.int .i64 x.nS,.int .i64 x.om,.int .i64 x.xp,.int .i64 x.xs]
def DN(o:Nat)(x:c8):af V:=[.bool x.open_,.int .i64 x.row]
def F3(o:Nat)(x:dy):af V:=[.sl .fL o false x.aI,.int .i64 x.aN]
def DO(o:Nat)(x:cw):af V:=[.int .i64 x.at_,.int .i64 x.cmd.kind,.int .i64 x.cmd.ay,.int .i64 x.cmd.row,.int .i64 x.cmd.bL]
def F4(o:Nat)(x:dA):af V:=[.sl .int o false x.last,.sl .int o false x.aZ]
def F5(o:Nat)(x:bG):af V:=[.sl .int o false x.symbols,.bool x.eF]
def F6(o:Nat)(x:eZ):af V:=[.sl .Cell o false x.cells,.sl .int o false x.bI,.sl .int o false x.bk]
def DP(o:Nat)(x:jz):af V:=[.int .i64 x.bI,.int .i64 x.bk]
def F7(o:Nat)(x:bO):af V:=[.sl .int o false x.rows,.sl .int o false x.counts,.int .i64 x.cN]
def F8(o:Nat)(x:fe):af V:=[.int .i64 x.cF,.sl .int o false x.map]
def F9(o:Nat)(x:fI):af V:=[.sl .int o false x.cg,.int .i64 x.wait,.bool x.ja]
def zd(o:Nat)(x:bN):af V:=[.int .i64 x.id,.int .i64 x.dX,.int .i64 x.line,.bool x.write,.int .i64 x.data,.int .i64 x.at_]
def DQ(o:Nat)(x:bC):af V:=[.int .i64 x.weight,.int .i64 x.gN]
def DR(o:Nat)(x:mP):af V:=[.bool x.on,.int .i64 x.low,.int .i64 x.high]
def Ga(o:Nat)(x:L1):af V:=[.sl .int o false x.owner,.int .i64 x.length]
def DS(o:Nat)(x:L2):af V:=[.int .i64 x.id,.int .i64 x.at_]
def DT(o:Nat)(x:gO):af V:=[.int .i64 x.state,.int .i64 x.since,.int .i64 x.idle]
def DU(o:Nat)(x:oq):af V:=[.int .i64 x.down,.int .i64 x.sleep]
def DV(o:Nat)(x:bw):af V:=[.int .i64 x.line,.int .i64 x.code,.int .i64 x.times]
def Gb(o:Nat)(x:L3):af V:=[.sl .str o false x.ajx]
def Gc(o:Nat)(x:L4):af V:=[.sl .int o false x.ajy,.int .i64 x.next]
def Gd(o:Nat)(x:L5):af V:=[.int .i64 x.count,.sl .Command o false x.commands]
def DW(o:Nat)(x:DH):af V:=[.int .i64 x.count,.int .i64 x.tag]
def Ge(o:Nat)(x:F0):af V:=[.int .i64 x.root,.sl .Node o false x.mid,.sl .Node o false x.leaf]
def Gf(o:Nat)(x:L6):af V:=[.int .i64 x.key,.int .i64 x.tree.root,.sl .Node o false x.tree.mid,.sl .Node o false x.tree.leaf,.sl .int o false x.data,.sl .int o false x.tags]
def DX(o:Nat)(x:s8):af V:=[.int .i64 x.next,.int .i64 x.every,.int .i64 x.wait]
def Gg(o:Nat)(x:L7):af V:=[.int .i64 x.index,.sl .int o false x.before.symbols,.bool x.before.eF,.sl .int o false x.after.symbols,.bool x.after.eF,.int .i64 x.code]
def DY(o:Nat)(x:L8):af V:=[.int .i64 x.ay,.int .i64 x.from_,.int .i64 x.to,.int .i64 x.next]
def Gh(o:Nat)(x:gn):af V:=[.int .i64 x.jb,.int .i64 x.cap,.int .i64 x.fY,.int .i64 x.low,.int .i64 x.high,.sl .int o false x.weights,.int .i64 x.fZ.down,.int .i64 x.fZ.sleep]
def Gi(o:Nat)(x:kf):af V:=[.int .i64 x.cO.jb,.int .i64 x.cO.cap,.int .i64 x.cO.fY,.int .i64 x.cO.low,.int .i64 x.cO.high,.sl .int o false x.cO.weights,.int .i64 x.cO.fZ.down,.int .i64 x.cO.fZ.sleep,.int .i64 x.next.jb,.int .i64 x.next.cap,.int .i64 x.next.fY,.int .i64 x.next.low,.int .i64 x.next.high,.sl .int o false x.next.weights,.int .i64 x.next.fZ.down,.int .i64 x.next.fZ.sleep,.bool x.waits]
def DZ(o:Nat)(x:jr):af V:=[.int .i64 x.aJ.cQ,.int .i64 x.aJ.aI,.int .i64 x.aJ.rows,.int .i64 x.aJ.aL,.int .i64 x.cx.jZ,.int .i64 x.cx.rp,.int .i64 x.cx.gC,.int .i64 x.cx.mM,.int .i64 x.cx.ke,.int .i64 x.cx.jy,.int .i64 x.cx.mN,.int .i64 x.cx.mO,.int .i64 x.cx.jO,.int .i64 x.cx.wr,.int .i64 x.cx.nQ,.int .i64 x.cx.nR,.int .i64 x.cx.pW,.int .i64 x.cx.nS,.int .i64 x.cx.om,.int .i64 x.cx.xp,.int .i64 x.cx.xs,.int .i64 x.mapping.order,.bool x.mapping.hash,.int .i64 x.cF,.int .i64 x.interval,.int .i64 x.kI,.int .i64 x.dZ.bI,.int .i64 x.dZ.bk]
def D0(o:Nat)(x:cD):af V:=[.int .i64 x.id,.int .i64 x.at_,.int .i64 x.data,.int .i64 x.code]
def ze(o:Nat)(x:aF):af V:=[.int .i64 x.config.aJ.cQ,.int .i64 x.config.aJ.aI,.int .i64 x.config.aJ.rows,.int .i64 x.config.aJ.aL,.int .i64 x.config.cx.jZ,.int .i64 x.config.cx.rp,.int .i64 x.config.cx.gC,.int .i64 x.config.cx.mM,.int .i64 x.config.cx.ke,.int .i64 x.config.cx.jy,.int .i64 x.config.cx.mN,.int .i64 x.config.cx.mO,.int .i64 x.config.cx.jO,.int .i64 x.config.cx.wr,.int .i64 x.config.cx.nQ,.int .i64 x.config.cx.nR,.int .i64 x.config.cx.pW,.int .i64 x.config.cx.nS,.int .i64 x.config.cx.om,.int .i64 x.config.cx.xp,.int .i64 x.config.cx.xs,.int .i64 x.config.mapping.order,.bool x.config.mapping.hash,.int .i64 x.config.cF,.int .i64 x.config.interval,.int .i64 x.config.kI,.int .i64 x.config.dZ.bI,.int .i64 x.config.dZ.bk,.int .i64 x.box.cO.jb,.int .i64 x.box.cO.cap,.int .i64 x.box.cO.fY,.int .i64 x.box.cO.low,.int .i64 x.box.cO.high,.sl .int o false x.box.cO.weights,.int .i64 x.box.cO.fZ.down,.int .i64 x.box.cO.fZ.sleep,.int .i64 x.box.next.jb,.int .i64 x.box.next.cap,.int .i64 x.box.next.fY,.int .i64 x.box.next.low,.int .i64 x.box.next.high,.sl .int o false x.box.next.weights,.int .i64 x.box.next.fZ.down,.int .i64 x.box.next.fZ.sleep,.bool x.box.waits,.int .i64 x.now,.sl .fL o false x.bK.aI,.int .i64 x.bK.aN,.sl .int o false x.ready.last,.sl .int o false x.ready.aZ,.sl .Cell o false x.array.cells,.sl .int o false x.array.bI,.sl .int o false x.array.bk,.int .i64 x.spare.cF,.sl .int o false x.spare.map,.sl .int o false x.bT.cg,.int .i64 x.bT.wait,.bool x.bT.ja,.sl .eN o false x.aW,.sl .int o false x.guard,.sl .Addr o false x.pending,.sl .dR o false x.queue,.sl .dK o false x.shares,.bool x.drain.on,.int .i64 x.drain.low,.int .i64 x.drain.high,.int .i64 x.aN.state,.int .i64 x.aN.since,.int .i64 x.aN.idle,.int .i64 x.cC.next,.int .i64 x.cC.every,.int .i64 x.cC.wait,.sl .dB o false x.errors,.sl .Event o false x.trace,.sl .gD o false x.bY]
def Gj(o:Nat)(x:L9):af V:=[.int .i64 x.kind,.int .i64 x.request.id,.int .i64 x.request.dX,.int .i64 x.request.line,.bool x.request.write,.int .i64 x.request.data,.int .i64 x.request.at_,.int .i64 x.n,.int .i64 x.ajz,.int .i64 x.addr.ay,.int .i64 x.addr.row,.int .i64 x.addr.bL,.int .i64 x.yR.jb,.int .i64 x.yR.cap,.int .i64 x.yR.fY,.int .i64 x.yR.low,.int .i64 x.yR.high,.sl .int o false x.yR.weights,.int .i64 x.yR.fZ.down,.int .i64 x.yR.fZ.sleep]
def D1(o:Nat)(x:Ma):af V:=[.int .i64 x.line,.int .i64 x.data,.int .i64 x.code]
def Gk(o:Nat)(x:F1):af V:=[.sl .u8 o false x.b,.int .i64 x.i,.int .i64 x.h]
def enc:(t:TC)->(o:Nat)->T t->af V
 |.int,_,x=>[.int .i64 x]
 |.u8,_,x=>[.int .u8 x]
 |.bool,_,x=>[.bool x]
 |.str,_,x=>[.str x]
 |.dM,o,x=>DK o x
 |.Addr,o,x=>zb o x
 |.ot,o,x=>DL o x
 |.yS,o,x=>F2 o x
 |.Command,o,x=>zc o x
 |.ic,o,x=>DM o x
 |.fL,o,x=>DN o x
 |.jc,o,x=>F3 o x
 |.Event,o,x=>DO o x
 |.jA,o,x=>F4 o x
 |.Cell,o,x=>F5 o x
 |.Array,o,x=>F6 o x
 |.nT,o,x=>DP o x
 |.eN,o,x=>F7 o x
 |.kg,o,x=>F8 o x
 |.ki,o,x=>F9 o x
 |.dR,o,x=>zd o x
 |.dK,o,x=>DQ o x
 |.pX,o,x=>DR o x
 |.yT,o,x=>Ga o x
 |.yU,o,x=>DS o x
 |.Power,o,x=>DT o x
 |.pY,o,x=>DU o x
 |.dB,o,x=>DV o x
 |.yV,o,x=>Gb o x
 |.yW,o,x=>Gc o x
 |.Receiver,o,x=>Gd o x
 |.Node,o,x=>DW o x
 |.Tree,o,x=>Ge o x
 |.yX,o,x=>Gf o x
 |.rX,o,x=>DX o x
 |.yY,o,x=>Gg o x
 |.Move,o,x=>DY o x
 |.lz,o,x=>Gh o x
 |.nt,o,x=>Gi o x
 |.Config,o,x=>DZ o x
 |.gD,o,x=>D0 o x
 |.cK,o,x=>ze o x
 |.Act,o,x=>Gj o x
 |.Fact,o,x=>D1 o x
 |.yZ,o,x=>Gk o x
 |.sl t,o,x=>[.sl t o false x]
 |.wW,o,x=>.bool true::ze o x
 |.DI g,o,x=>.bool false::.int .i64 (g:Int)::[.int .i64 x]
 |.DJ g,o,x=>.bool false::.int .i64 (g:Int)::zd o x
 |.za g,o,x=>.bool false::.int .i64 (g:Int)::zb o x
 |.fnCommand g,o,x=>.bool false::.int .i64 (g:Int)::zc o x
def RJ(o:Nat)(cs:af V):ak aX:=match cs with
 |a0::a1::a2::a3::[]=>(a0.aR).bind λx0=>(a1.aR).bind λx1=>(a2.aR).bind λx2=>(a3.aR).bind λx3=>some ⟨x0,x1,x2,x3⟩
 |_=>none
def Mb(o:Nat)(cs:af V):ak aP:=match cs with
 |a0::a1::a2::[]=>(a0.aR).bind λx0=>(a1.aR).bind λx1=>(a2.aR).bind λx2=>some ⟨x0,x1,x2⟩
 |_=>none
def RK(o:Nat)(cs:af V):ak lu:=match cs with
 |a0::a1::[]=>(a0.aR).bind λx0=>(a1.nU).bind λx1=>some ⟨x0,x1⟩
 |_=>none
def RL(o:Nat)(cs:af V):ak L0:=match cs with
 |a0::[]=>(a0.en .int o).bind λx0=>some ⟨x0⟩
 |_=>none
def Mc(o:Nat)(cs:af V):ak bV:=match cs with
 |a0::a1::a2::a3::[]=>(a0.aR).bind λx0=>(a1.aR).bind λx1=>(a2.aR).bind λx2=>(a3.aR).bind λx3=>some ⟨x0,x1,x2,x3⟩
 |_=>none
def RM(o:Nat)(cs:af V):ak dx:=match cs with
 |a0::a1::a2::a3::a4::a5::a6::a7::a8::a9::o5::o6::o7::qN::qO::pZ::o8::[]=>(a0.aR).bind λx0=>(a1.aR).bind λx1=>(a2.aR).bind λx2=>(a3.aR).bind λx3=>(a4.aR).bind λx4=>(a5.aR).bind λx5=>(a6.aR).bind λx6=>(a7.aR).bind λx7=>(a8.aR).bind λx8=>(a9.aR).bind λx9=>(o5.aR).bind λqP=>(o6.aR).bind λqQ=>(o7.aR).bind λqR=>(qN.aR).bind λqS=>(qO.aR).bind λqT=>(pZ.aR).bind λqU=>(o8.aR).bind λqV=>some ⟨x0,x1,x2,x3,x4,x5,x6,x7,x8,x9,qP,qQ,qR,qS,qT,qU,qV⟩
 |_=>none
def RN(o:Nat)(cs:af V):ak c8:=match cs with
 |a0::a1::[]=>(a0.nU).bind λx0=>(a1.aR).bind λx1=>some ⟨x0,x1⟩
 |_=>none
def RO(o:Nat)(cs:af V):ak dy:=match cs with
 |a0::a1::[]=>(a0.en .fL o).bind λx0=>(a1.aR).bind λx1=>some ⟨x0,x1⟩
 |_=>none
def RQ(o:Nat)(cs:af V):ak cw:=match cs with
 |a0::a1::a2::a3::a4::[]=>(a0.aR).bind λx0=>(a1.aR).bind λx1=>(a2.aR).bind λx2=>(a3.aR).bind λx3=>(a4.aR).bind λx4=>some ⟨x0,⟨x1,x2,x3,x4⟩⟩
 |_=>none
def RR(o:Nat)(cs:af V):ak dA:=match cs with
 |a0::a1::[]=>(a0.en .int o).bind λx0=>(a1.en .int o).bind λx1=>some ⟨x0,x1⟩
 |_=>none
def RS(o:Nat)(cs:af V):ak bG:=match cs with
 |a0::a1::[]=>(a0.en .int o).bind λx0=>(a1.nU).bind λx1=>some ⟨x0,x1⟩
 |_=>none
def RT(o:Nat)(cs:af V):ak eZ:=match cs with
 |a0::a1::a2::[]=>(a0.en .Cell o).bind λx0=>(a1.en .int o).bind λx1=>(a2.en .int o).bind λx2=>some ⟨x0,x1,x2⟩
 |_=>none
def RU(o:Nat)(cs:af V):ak jz:=match cs with
 |a0::a1::[]=>(a0.aR).bind λx0=>(a1.aR).bind λx1=>some ⟨x0,x1⟩
 |_=>none
def RX(o:Nat)(cs:af V):ak bO:=match cs with
 |a0::a1::a2::[]=>(a0.en .int o).bind λx0=>(a1.en .int o).bind λx1=>(a2.aR).bind λx2=>some ⟨x0,x1,x2⟩
 |_=>none
def RY(o:Nat)(cs:af V):ak fe:=match cs with
 |a0::a1::[]=>(a0.aR).bind λx0=>(a1.en .int o).bind λx1=>some ⟨x0,x1⟩
 |_=>none
def RZ(o:Nat)(cs:af V):ak fI:=match cs with
 |a0::a1::a2::[]=>(a0.en .int o).bind λx0=>(a1.aR).bind λx1=>(a2.nU).bind λx2=>some ⟨x0,x1,x2⟩
 |_=>none
def Md(o:Nat)(cs:af V):ak bN:=match cs with
 |a0::a1::a2::a3::a4::a5::[]=>(a0.aR).bind λx0=>(a1.aR).bind λx1=>(a2.aR).bind λx2=>(a3.nU).bind λx3=>(a4.aR).bind λx4=>(a5.aR).bind λx5=>some ⟨x0,x1,x2,x3,x4,x5⟩
 |_=>none
def R0(o:Nat)(cs:af V):ak bC:=match cs with
 |a0::a1::[]=>(a0.aR).bind λx0=>(a1.aR).bind λx1=>some ⟨x0,x1⟩
 |_=>none
def R1(o:Nat)(cs:af V):ak mP:=match cs with
 |a0::a1::a2::[]=>(a0.nU).bind λx0=>(a1.aR).bind λx1=>(a2.aR).bind λx2=>some ⟨x0,x1,x2⟩
 |_=>none
def R2(o:Nat)(cs:af V):ak L1:=match cs with
 |a0::a1::[]=>(a0.en .int o).bind λx0=>(a1.aR).bind λx1=>some ⟨x0,x1⟩
 |_=>none
def R3(o:Nat)(cs:af V):ak L2:=match cs with
 |a0::a1::[]=>(a0.aR).bind λx0=>(a1.aR).bind λx1=>some ⟨x0,x1⟩
 |_=>none
def R4(o:Nat)(cs:af V):ak gO:=match cs with
 |a0::a1::a2::[]=>(a0.aR).bind λx0=>(a1.aR).bind λx1=>(a2.aR).bind λx2=>some ⟨x0,x1,x2⟩
 |_=>none
def R5(o:Nat)(cs:af V):ak oq:=match cs with
 |a0::a1::[]=>(a0.aR).bind λx0=>(a1.aR).bind λx1=>some ⟨x0,x1⟩
 |_=>none
def R6(o:Nat)(cs:af V):ak bw:=match cs with
 |a0::a1::a2::[]=>(a0.aR).bind λx0=>(a1.aR).bind λx1=>(a2.aR).bind λx2=>some ⟨x0,x1,x2⟩
 |_=>none
def R7(o:Nat)(cs:af V):ak L3:=match cs with
 |a0::[]=>(a0.en .str o).bind λx0=>some ⟨x0⟩
 |_=>none
def R8(o:Nat)(cs:af V):ak L4:=match cs with
 |a0::a1::[]=>(a0.en .int o).bind λx0=>(a1.aR).bind λx1=>some ⟨x0,x1⟩
 |_=>none
def R9(o:Nat)(cs:af V):ak L5:=match cs with
 |a0::a1::[]=>(a0.aR).bind λx0=>(a1.en .Command o).bind λx1=>some ⟨x0,x1⟩
 |_=>none
def Sa(o:Nat)(cs:af V):ak DH:=match cs with
 |a0::a1::[]=>(a0.aR).bind λx0=>(a1.aR).bind λx1=>some ⟨x0,x1⟩
 |_=>none
def Sb(o:Nat)(cs:af V):ak F0:=match cs with
 |a0::a1::a2::[]=>(a0.aR).bind λx0=>(a1.en .Node o).bind λx1=>(a2.en .Node o).bind λx2=>some ⟨x0,x1,x2⟩
 |_=>none
def Sc(o:Nat)(cs:af V):ak L6:=match cs with
 |a0::a1::a2::a3::a4::a5::[]=>(a0.aR).bind λx0=>(a1.aR).bind λx1=>(a2.en .Node o).bind λx2=>(a3.en .Node o).bind λx3=>(a4.en .int o).bind λx4=>(a5.en .int o).bind λx5=>some ⟨x0,⟨x1,x2,x3⟩,x4,x5⟩
 |_=>none
def Sd(o:Nat)(cs:af V):ak s8:=match cs with
 |a0::a1::a2::[]=>(a0.aR).bind λx0=>(a1.aR).bind λx1=>(a2.aR).bind λx2=>some ⟨x0,x1,x2⟩
 |_=>none
def Se(o:Nat)(cs:af V):ak L7:=match cs with
 |a0::a1::a2::a3::a4::a5::[]=>(a0.aR).bind λx0=>(a1.en .int o).bind λx1=>(a2.nU).bind λx2=>(a3.en .int o).bind λx3=>(a4.nU).bind λx4=>(a5.aR).bind λx5=>some ⟨x0,⟨x1,x2⟩,⟨x3,x4⟩,x5⟩
 |_=>none
def Sf(o:Nat)(cs:af V):ak L8:=match cs with
 |a0::a1::a2::a3::[]=>(a0.aR).bind λx0=>(a1.aR).bind λx1=>(a2.aR).bind λx2=>(a3.aR).bind λx3=>some ⟨x0,x1,x2,x3⟩
 |_=>none
def Sg(o:Nat)(cs:af V):ak gn:=match cs with
 |a0::a1::a2::a3::a4::a5::a6::a7::[]=>(a0.aR).bind λx0=>(a1.aR).bind λx1=>(a2.aR).bind λx2=>(a3.aR).bind λx3=>(a4.aR).bind λx4=>(a5.en .int o).bind λx5=>(a6.aR).bind λx6=>(a7.aR).bind λx7=>some ⟨x0,x1,x2,x3,x4,x5,⟨x6,x7⟩⟩
 |_=>none
def Sh(o:Nat)(cs:af V):ak kf:=match cs with
 |a0::a1::a2::a3::a4::a5::a6::a7::a8::a9::o5::o6::o7::qN::qO::pZ::o8::[]=>(a0.aR).bind λx0=>(a1.aR).bind λx1=>(a2.aR).bind λx2=>(a3.aR).bind λx3=>(a4.aR).bind λx4=>(a5.en .int o).bind λx5=>(a6.aR).bind λx6=>(a7.aR).bind λx7=>(a8.aR).bind λx8=>(a9.aR).bind λx9=>(o5.aR).bind λqP=>(o6.aR).bind λqQ=>(o7.aR).bind λqR=>(qN.en .int o).bind λqS=>(qO.aR).bind λqT=>(pZ.aR).bind λqU=>(o8.nU).bind λqV=>some ⟨⟨x0,x1,x2,x3,x4,x5,⟨x6,x7⟩⟩,⟨x8,x9,qP,qQ,qR,qS,⟨qT,qU⟩⟩,qV⟩
 |_=>none
def Si(o:Nat)(cs:af V):ak jr:=match cs with
 |a0::a1::a2::a3::a4::a5::a6::a7::a8::a9::o5::o6::o7::qN::qO::pZ::o8::vJ::wX::Gl::Sj::Sk::Sl::Sm::Sn::So::Sp::Sq::[]=>(a0.aR).bind λx0=>(a1.aR).bind λx1=>(a2.aR).bind λx2=>(a3.aR).bind λx3=>(a4.aR).bind λx4=>(a5.aR).bind λx5=>(a6.aR).bind λx6=>(a7.aR).bind λx7=>(a8.aR).bind λx8=>(a9.aR).bind λx9=>(o5.aR).bind λqP=>(o6.aR).bind λqQ=>(o7.aR).bind λqR=>(qN.aR).bind λqS=>(qO.aR).bind λqT=>(pZ.aR).bind λqU=>(o8.aR).bind λqV=>(vJ.aR).bind λzg=>(wX.aR).bind λzh=>(Gl.aR).bind λzi=>(Sj.aR).bind λGm=>(Sk.aR).bind λGn=>(Sl.nU).bind λGq=>(Sm.aR).bind λGr=>(Sn.aR).bind λGs=>(So.aR).bind λGt=>(Sp.aR).bind λGu=>(Sq.aR).bind λGw=>some ⟨⟨x0,x1,x2,x3⟩,⟨x4,x5,x6,x7,x8,x9,qP,qQ,qR,qS,qT,qU,qV,zg,zh,zi,Gm⟩,⟨Gn,Gq⟩,Gr,Gs,Gt,⟨Gu,Gw⟩⟩
 |_=>none
def Sr(o:Nat)(cs:af V):ak cD:=match cs with
 |a0::a1::a2::a3::[]=>(a0.aR).bind λx0=>(a1.aR).bind λx1=>(a2.aR).bind λx2=>(a3.aR).bind λx3=>some ⟨x0,x1,x2,x3⟩
 |_=>none
def Me(o:Nat)(cs:af V):ak aF:=match cs with
 |a0::a1::a2::a3::a4::a5::a6::a7::a8::a9::o5::o6::o7::qN::qO::pZ::o8::vJ::wX::Gl::Sj::Sk::Sl::Sm::Sn::So::Sp::Sq::a28::a29::a30::a31::a32::a33::a34::a35::a36::a37::a38::a39::a40::a41::a42::a43::a44::a45::a46::a47::a48::a49::a50::a51::a52::a53::a54::a55::a56::a57::a58::a59::a60::a61::a62::a63::a64::a65::a66::a67::a68::a69::a70::a71::a72::a73::a74::[]=>(a0.aR).bind λx0=>(a1.aR).bind λx1=>(a2.aR).bind λx2=>(a3.aR).bind λx3=>(a4.aR).bind λx4=>(a5.aR).bind λx5=>(a6.aR).bind λx6=>(a7.aR).bind λx7=>(a8.aR).bind λx8=>(a9.aR).bind λx9=>(o5.aR).bind λqP=>(o6.aR).bind λqQ=>(o7.aR).bind λqR=>(qN.aR).bind λqS=>(qO.aR).bind λqT=>(pZ.aR).bind λqU=>(o8.aR).bind λqV=>(vJ.aR).bind λzg=>(wX.aR).bind λzh=>(Gl.aR).bind λzi=>(Sj.aR).bind λGm=>(Sk.aR).bind λGn=>(Sl.nU).bind λGq=>(Sm.aR).bind λGr=>(Sn.aR).bind λGs=>(So.aR).bind λGt=>(Sp.aR).bind λGu=>(Sq.aR).bind λGw=>(a28.aR).bind λY1=>(a29.aR).bind λY2=>(a30.aR).bind λY3=>(a31.aR).bind λY4=>(a32.aR).bind λY5=>(a33.en .int o).bind λY6=>(a34.aR).bind λY7=>(a35.aR).bind λY8=>(a36.aR).bind λY9=>(a37.aR).bind λZa=>(a38.aR).bind λZb=>(a39.aR).bind λZc=>(a40.aR).bind λZd=>(a41.en .int o).bind λZe=>(a42.aR).bind λZf=>(a43.aR).bind λZg=>(a44.nU).bind λZh=>(a45.aR).bind λZi=>(a46.en .fL o).bind λZj=>(a47.aR).bind λZk=>(a48.en .int o).bind λZl=>(a49.en .int o).bind λZm=>(a50.en .Cell o).bind λZn=>(a51.en .int o).bind λZo=>(a52.en .int o).bind λZp=>(a53.aR).bind λZq=>(a54.en .int o).bind λZr=>(a55.en .int o).bind λZs=>(a56.aR).bind λZt=>(a57.nU).bind λZu=>(a58.en .eN o).bind λZv=>(a59.en .int o).bind λZw=>(a60.en .Addr o).bind λZx=>(a61.en .dR o).bind λZy=>(a62.en .dK o).bind λZz=>(a63.nU).bind λZA=>(a64.aR).bind λZB=>(a65.aR).bind λZC=>(a66.aR).bind λZD=>(a67.aR).bind λZE=>(a68.aR).bind λZF=>(a69.aR).bind λZG=>(a70.aR).bind λZH=>(a71.aR).bind λZI=>(a72.en .dB o).bind λZJ=>(a73.en .Event o).bind λZK=>(a74.en .gD o).bind λZL=>some ⟨⟨⟨x0,x1,x2,x3⟩,⟨x4,x5,x6,x7,x8,x9,qP,qQ,qR,qS,qT,qU,qV,zg,zh,zi,Gm⟩,⟨Gn,Gq⟩,Gr,Gs,Gt,⟨Gu,Gw⟩⟩,⟨⟨Y1,Y2,Y3,Y4,Y5,Y6,⟨Y7,Y8⟩⟩,⟨Y9,Za,Zb,Zc,Zd,Ze,⟨Zf,Zg⟩⟩,Zh⟩,Zi,⟨Zj,Zk⟩,⟨Zl,Zm⟩,⟨Zn,Zo,Zp⟩,⟨Zq,Zr⟩,⟨Zs,Zt,Zu⟩,Zv,Zw,Zx,Zy,Zz,⟨ZA,ZB,ZC⟩,⟨ZD,ZE,ZF⟩,⟨ZG,ZH,ZI⟩,ZJ,ZK,ZL⟩
 |_=>none
def Ss(o:Nat)(cs:af V):ak L9:=match cs with
 |a0::a1::a2::a3::a4::a5::a6::a7::a8::a9::o5::o6::o7::qN::qO::pZ::o8::vJ::wX::Gl::[]=>(a0.aR).bind λx0=>(a1.aR).bind λx1=>(a2.aR).bind λx2=>(a3.aR).bind λx3=>(a4.nU).bind λx4=>(a5.aR).bind λx5=>(a6.aR).bind λx6=>(a7.aR).bind λx7=>(a8.aR).bind λx8=>(a9.aR).bind λx9=>(o5.aR).bind λqP=>(o6.aR).bind λqQ=>(o7.aR).bind λqR=>(qN.aR).bind λqS=>(qO.aR).bind λqT=>(pZ.aR).bind λqU=>(o8.aR).bind λqV=>(vJ.en .int o).bind λzg=>(wX.aR).bind λzh=>(Gl.aR).bind λzi=>some ⟨x0,⟨x1,x2,x3,x4,x5,x6⟩,x7,x8,⟨x9,qP,qQ⟩,⟨qR,qS,qT,qU,qV,zg,⟨zh,zi⟩⟩⟩
 |_=>none
def Su(o:Nat)(cs:af V):ak Ma:=match cs with
 |a0::a1::a2::[]=>(a0.aR).bind λx0=>(a1.aR).bind λx1=>(a2.aR).bind λx2=>some ⟨x0,x1,x2⟩
 |_=>none
def Sv(o:Nat)(cs:af V):ak F1:=match cs with
 |a0::a1::a2::[]=>(a0.en .u8 o).bind λx0=>(a1.aR).bind λx1=>(a2.aR).bind λx2=>some ⟨x0,x1,x2⟩
 |_=>none
def zj{α:Type}(f:V->ak α):af V->ak α
 |[a]=>f a
 |_=>none
def Sw{α:Type}(f:af V->ak α):af V->ak α
 |.bool true::cs=>f cs
 |_=>none
def D2{α:Type}(g:Nat)(f:af V->ak α):af V->ak α
 |.bool false::.int .i64 n::cs=>if n=(g:Int)then f cs else none
 |_=>none
def dec:(t:TC)->(o:Nat)->af V->ak (T t)
 |.int,_,cs=>zj V.aR cs
 |.u8,_,cs=>zj V.RH cs
 |.bool,_,cs=>zj V.nU cs
 |.str,_,cs=>zj V.RI cs
 |.dM,o,cs=>RJ o cs
 |.Addr,o,cs=>Mb o cs
 |.ot,o,cs=>RK o cs
 |.yS,o,cs=>RL o cs
 |.Command,o,cs=>Mc o cs
 |.ic,o,cs=>RM o cs
 |.fL,o,cs=>RN o cs
 |.jc,o,cs=>RO o cs
 |.Event,o,cs=>RQ o cs
 |.jA,o,cs=>RR o cs
 |.Cell,o,cs=>RS o cs
 |.Array,o,cs=>RT o cs
 |.nT,o,cs=>RU o cs
 |.eN,o,cs=>RX o cs
 |.kg,o,cs=>RY o cs
 |.ki,o,cs=>RZ o cs
 |.dR,o,cs=>Md o cs
 |.dK,o,cs=>R0 o cs
 |.pX,o,cs=>R1 o cs
 |.yT,o,cs=>R2 o cs
 |.yU,o,cs=>R3 o cs
 |.Power,o,cs=>R4 o cs
 |.pY,o,cs=>R5 o cs
 |.dB,o,cs=>R6 o cs
 |.yV,o,cs=>R7 o cs
 |.yW,o,cs=>R8 o cs
 |.Receiver,o,cs=>R9 o cs
 |.Node,o,cs=>Sa o cs
 |.Tree,o,cs=>Sb o cs
 |.yX,o,cs=>Sc o cs
 |.rX,o,cs=>Sd o cs
 |.yY,o,cs=>Se o cs
 |.Move,o,cs=>Sf o cs
 |.lz,o,cs=>Sg o cs
 |.nt,o,cs=>Sh o cs
 |.Config,o,cs=>Si o cs
 |.gD,o,cs=>Sr o cs
 |.cK,o,cs=>Me o cs
 |.Act,o,cs=>Ss o cs
 |.Fact,o,cs=>Su o cs
 |.yZ,o,cs=>Sv o cs
 |.sl t,o,cs=>zj (V.en t o) cs
 |.wW,o,cs=>Sw (Me o) cs
 |.DI g,o,cs=>D2 g (zj V.aR) cs
 |.DJ g,o,cs=>D2 g (Md o) cs
 |.za g,o,cs=>D2 g (Mb o) cs
 |.fnCommand g,o,cs=>D2 g (Mc o) cs
def ZM:TC->Nat->af V
 |.cK,o=>ze o ⟨⟨⟨0,0,0,0⟩,⟨0,0,0,0,0,0,0,0,0,0,0,0,0,0,0,0,0⟩,⟨0,false⟩,0,0,0,⟨0,0⟩⟩,⟨⟨0,0,0,0,0,[],⟨0,0⟩⟩,⟨0,0,0,0,0,[],⟨0,0⟩⟩,false⟩,0,⟨[],0⟩,⟨[],[]⟩,⟨[],[],[]⟩,⟨0,[]⟩,⟨[],0,false⟩,[],[],[],[],[],⟨false,0,0⟩,⟨0,0,0⟩,⟨0,0,0⟩,[],[],[]⟩
 |_,_=>[]
theorem lA(t:TC)(o:Nat)(x:T t):(enc t o x).length=aB t:=by cases t<;>rfl
theorem p4(t:TC):0<aB t:=by cases t<;>simp[aB]
theorem bind_some{α β:Type}{a:ak α}{f:α->ak β}{b:β}(h:a.bind f=some b):∃ x,a=some x/\f x=some b:=by
 cases a with
 |none=>cases h
 |some x=>exact⟨x,rfl,h⟩
theorem ajC(o:Nat)(cs:af V)(x:aX)(h:RJ o cs=some x):cz cs (DK o x):=by
 unfold RJ at h;split at h
 ·obtain⟨x0,h0,h⟩:=bind_some h;obtain⟨x1,h1,h⟩:=bind_some h;obtain⟨x2,h2,h⟩:=bind_some h;obtain⟨x3,h3,h⟩:=bind_some h;injection h with h;subst h;exact(.cons (V.aU h0) (.cons (V.aU h1) (.cons (V.aU h2) (.cons (V.aU h3) cz.nil))))
 ·cases h
theorem ZN(o:Nat)(cs:af V)(x:aP)(h:Mb o cs=some x):cz cs (zb o x):=by
 unfold Mb at h;split at h
 ·obtain⟨x0,h0,h⟩:=bind_some h;obtain⟨x1,h1,h⟩:=bind_some h;obtain⟨x2,h2,h⟩:=bind_some h;injection h with h;subst h;exact(.cons (V.aU h0) (.cons (V.aU h1) (.cons (V.aU h2) cz.nil)))
 ·cases h
theorem ajD(o:Nat)(cs:af V)(x:lu)(h:RK o cs=some x):cz cs (DL o x):=by
 unfold RK at h;split at h
 ·obtain⟨x0,h0,h⟩:=bind_some h;obtain⟨x1,h1,h⟩:=bind_some h;injection h with h;subst h;exact(.cons (V.aU h0) (.cons (V.o4 h1) cz.nil))
 ·cases h
theorem ajE(o:Nat)(cs:af V)(x:L0)(h:RL o cs=some x):cz cs (F2 o x):=by
 unfold RL at h;split at h
 ·obtain⟨x0,h0,h⟩:=bind_some h;injection h with h;subst h;exact(.cons (V.eO h0) cz.nil)
 ·cases h
theorem ZO(o:Nat)(cs:af V)(x:bV)(h:Mc o cs=some x):cz cs (zc o x):=by
 unfold Mc at h;split at h
 ·obtain⟨x0,h0,h⟩:=bind_some h;obtain⟨x1,h1,h⟩:=bind_some h;obtain⟨x2,h2,h⟩:=bind_some h;obtain⟨x3,h3,h⟩:=bind_some h;injection h with h;subst h;exact(.cons (V.aU h0) (.cons (V.aU h1) (.cons (V.aU h2) (.cons (V.aU h3) cz.nil))))
 ·cases h
theorem ajF(o:Nat)(cs:af V)(x:dx)(h:RM o cs=some x):cz cs (DM o x):=by
 unfold RM at h;split at h
 ·obtain⟨x0,h0,h⟩:=bind_some h;obtain⟨x1,h1,h⟩:=bind_some h;obtain⟨x2,h2,h⟩:=bind_some h;obtain⟨x3,h3,h⟩:=bind_some h;obtain⟨x4,h4,h⟩:=bind_some h;obtain⟨x5,h5,h⟩:=bind_some h;obtain⟨x6,h6,h⟩:=bind_some h;obtain⟨x7,h7,h⟩:=bind_some h;obtain⟨x8,h8,h⟩:=bind_some h;obtain⟨x9,h9,h⟩:=bind_some h;obtain⟨qP,eP,h⟩:=bind_some h;obtain⟨qQ,iF,h⟩:=bind_some h;obtain⟨qR,jP,h⟩:=bind_some h;obtain⟨qS,iN,h⟩:=bind_some h;obtain⟨qT,jQ,h⟩:=bind_some h;obtain⟨qU,gP,h⟩:=bind_some h;obtain⟨qV,jd,h⟩:=bind_some h;injection h with h;subst h;exact(.cons (V.aU h0) (.cons (V.aU h1) (.cons (V.aU h2) (.cons (V.aU h3) (.cons (V.aU h4) (.cons (V.aU h5) (.cons (V.aU h6) (.cons (V.aU h7) (.cons (V.aU h8) (.cons (V.aU h9) (.cons (V.aU eP) (.cons (V.aU iF) (.cons (V.aU jP) (.cons (V.aU iN) (.cons (V.aU jQ) (.cons (V.aU gP) (.cons (V.aU jd) cz.nil)))))))))))))))))
 ·cases h
theorem ajG(o:Nat)(cs:af V)(x:c8)(h:RN o cs=some x):cz cs (DN o x):=by
 unfold RN at h;split at h
 ·obtain⟨x0,h0,h⟩:=bind_some h;obtain⟨x1,h1,h⟩:=bind_some h;injection h with h;subst h;exact(.cons (V.o4 h0) (.cons (V.aU h1) cz.nil))
 ·cases h
theorem ajH(o:Nat)(cs:af V)(x:dy)(h:RO o cs=some x):cz cs (F3 o x):=by
 unfold RO at h;split at h
 ·obtain⟨x0,h0,h⟩:=bind_some h;obtain⟨x1,h1,h⟩:=bind_some h;injection h with h;subst h;exact(.cons (V.eO h0) (.cons (V.aU h1) cz.nil))
 ·cases h
theorem ajI(o:Nat)(cs:af V)(x:cw)(h:RQ o cs=some x):cz cs (DO o x):=by
 unfold RQ at h;split at h
 ·obtain⟨x0,h0,h⟩:=bind_some h;obtain⟨x1,h1,h⟩:=bind_some h;obtain⟨x2,h2,h⟩:=bind_some h;obtain⟨x3,h3,h⟩:=bind_some h;obtain⟨x4,h4,h⟩:=bind_some h;injection h with h;subst h;exact(.cons (V.aU h0) (.cons (V.aU h1) (.cons (V.aU h2) (.cons (V.aU h3) (.cons (V.aU h4) cz.nil)))))
 ·cases h
theorem ajJ(o:Nat)(cs:af V)(x:dA)(h:RR o cs=some x):cz cs (F4 o x):=by
 unfold RR at h;split at h
 ·obtain⟨x0,h0,h⟩:=bind_some h;obtain⟨x1,h1,h⟩:=bind_some h;injection h with h;subst h;exact(.cons (V.eO h0) (.cons (V.eO h1) cz.nil))
 ·cases h
theorem ajK(o:Nat)(cs:af V)(x:bG)(h:RS o cs=some x):cz cs (F5 o x):=by
 unfold RS at h;split at h
 ·obtain⟨x0,h0,h⟩:=bind_some h;obtain⟨x1,h1,h⟩:=bind_some h;injection h with h;subst h;exact(.cons (V.eO h0) (.cons (V.o4 h1) cz.nil))
 ·cases h
theorem ajL(o:Nat)(cs:af V)(x:eZ)(h:RT o cs=some x):cz cs (F6 o x):=by
 unfold RT at h;split at h
 ·obtain⟨x0,h0,h⟩:=bind_some h;obtain⟨x1,h1,h⟩:=bind_some h;obtain⟨x2,h2,h⟩:=bind_some h;injection h with h;subst h;exact(.cons (V.eO h0) (.cons (V.eO h1) (.cons (V.eO h2) cz.nil)))
 ·cases h
theorem ajM(o:Nat)(cs:af V)(x:jz)(h:RU o cs=some x):cz cs (DP o x):=by
 unfold RU at h;split at h
 ·obtain⟨x0,h0,h⟩:=bind_some h;obtain⟨x1,h1,h⟩:=bind_some h;injection h with h;subst h;exact(.cons (V.aU h0) (.cons (V.aU h1) cz.nil))
 ·cases h
theorem ajN(o:Nat)(cs:af V)(x:bO)(h:RX o cs=some x):cz cs (F7 o x):=by
 unfold RX at h;split at h
 ·obtain⟨x0,h0,h⟩:=bind_some h;obtain⟨x1,h1,h⟩:=bind_some h;obtain⟨x2,h2,h⟩:=bind_some h;injection h with h;subst h;exact(.cons (V.eO h0) (.cons (V.eO h1) (.cons (V.aU h2) cz.nil)))
 ·cases h
theorem ajO(o:Nat)(cs:af V)(x:fe)(h:RY o cs=some x):cz cs (F8 o x):=by
 unfold RY at h;split at h
 ·obtain⟨x0,h0,h⟩:=bind_some h;obtain⟨x1,h1,h⟩:=bind_some h;injection h with h;subst h;exact(.cons (V.aU h0) (.cons (V.eO h1) cz.nil))
 ·cases h
theorem ajP(o:Nat)(cs:af V)(x:fI)(h:RZ o cs=some x):cz cs (F9 o x):=by
 unfold RZ at h;split at h
 ·obtain⟨x0,h0,h⟩:=bind_some h;obtain⟨x1,h1,h⟩:=bind_some h;obtain⟨x2,h2,h⟩:=bind_some h;injection h with h;subst h;exact(.cons (V.eO h0) (.cons (V.aU h1) (.cons (V.o4 h2) cz.nil)))
 ·cases h
theorem ZP(o:Nat)(cs:af V)(x:bN)(h:Md o cs=some x):cz cs (zd o x):=by
 unfold Md at h;split at h
 ·obtain⟨x0,h0,h⟩:=bind_some h;obtain⟨x1,h1,h⟩:=bind_some h;obtain⟨x2,h2,h⟩:=bind_some h;obtain⟨x3,h3,h⟩:=bind_some h;obtain⟨x4,h4,h⟩:=bind_some h;obtain⟨x5,h5,h⟩:=bind_some h;injection h with h;subst h;exact(.cons (V.aU h0) (.cons (V.aU h1) (.cons (V.aU h2) (.cons (V.o4 h3) (.cons (V.aU h4) (.cons (V.aU h5) cz.nil))))))
 ·cases h
theorem ajQ(o:Nat)(cs:af V)(x:bC)(h:R0 o cs=some x):cz cs (DQ o x):=by
 unfold R0 at h;split at h
 ·obtain⟨x0,h0,h⟩:=bind_some h;obtain⟨x1,h1,h⟩:=bind_some h;injection h with h;subst h;exact(.cons (V.aU h0) (.cons (V.aU h1) cz.nil))
 ·cases h
theorem ajR(o:Nat)(cs:af V)(x:mP)(h:R1 o cs=some x):cz cs (DR o x):=by
 unfold R1 at h;split at h
 ·obtain⟨x0,h0,h⟩:=bind_some h;obtain⟨x1,h1,h⟩:=bind_some h;obtain⟨x2,h2,h⟩:=bind_some h;injection h with h;subst h;exact(.cons (V.o4 h0) (.cons (V.aU h1) (.cons (V.aU h2) cz.nil)))
 ·cases h
theorem ajS(o:Nat)(cs:af V)(x:L1)(h:R2 o cs=some x):cz cs (Ga o x):=by
 unfold R2 at h;split at h
 ·obtain⟨x0,h0,h⟩:=bind_some h;obtain⟨x1,h1,h⟩:=bind_some h;injection h with h;subst h;exact(.cons (V.eO h0) (.cons (V.aU h1) cz.nil))
 ·cases h
theorem ajT(o:Nat)(cs:af V)(x:L2)(h:R3 o cs=some x):cz cs (DS o x):=by
 unfold R3 at h;split at h
 ·obtain⟨x0,h0,h⟩:=bind_some h;obtain⟨x1,h1,h⟩:=bind_some h;injection h with h;subst h;exact(.cons (V.aU h0) (.cons (V.aU h1) cz.nil))
 ·cases h
theorem ajU(o:Nat)(cs:af V)(x:gO)(h:R4 o cs=some x):cz cs (DT o x):=by
 unfold R4 at h;split at h
 ·obtain⟨x0,h0,h⟩:=bind_some h;obtain⟨x1,h1,h⟩:=bind_some h;obtain⟨x2,h2,h⟩:=bind_some h;injection h with h;subst h;exact(.cons (V.aU h0) (.cons (V.aU h1) (.cons (V.aU h2) cz.nil)))
 ·cases h
theorem ajV(o:Nat)(cs:af V)(x:oq)(h:R5 o cs=some x):cz cs (DU o x):=by
 unfold R5 at h;split at h
 ·obtain⟨x0,h0,h⟩:=bind_some h;obtain⟨x1,h1,h⟩:=bind_some h;injection h with h;subst h;exact(.cons (V.aU h0) (.cons (V.aU h1) cz.nil))
 ·cases h
theorem ajW(o:Nat)(cs:af V)(x:bw)(h:R6 o cs=some x):cz cs (DV o x):=by
 unfold R6 at h;split at h
 ·obtain⟨x0,h0,h⟩:=bind_some h;obtain⟨x1,h1,h⟩:=bind_some h;obtain⟨x2,h2,h⟩:=bind_some h;injection h with h;subst h;exact(.cons (V.aU h0) (.cons (V.aU h1) (.cons (V.aU h2) cz.nil)))
 ·cases h
theorem ajX(o:Nat)(cs:af V)(x:L3)(h:R7 o cs=some x):cz cs (Gb o x):=by
 unfold R7 at h;split at h
 ·obtain⟨x0,h0,h⟩:=bind_some h;injection h with h;subst h;exact(.cons (V.eO h0) cz.nil)
 ·cases h
theorem ajY(o:Nat)(cs:af V)(x:L4)(h:R8 o cs=some x):cz cs (Gc o x):=by
 unfold R8 at h;split at h
 ·obtain⟨x0,h0,h⟩:=bind_some h;obtain⟨x1,h1,h⟩:=bind_some h;injection h with h;subst h;exact(.cons (V.eO h0) (.cons (V.aU h1) cz.nil))
 ·cases h
theorem ajZ(o:Nat)(cs:af V)(x:L5)(h:R9 o cs=some x):cz cs (Gd o x):=by
 unfold R9 at h;split at h
 ·obtain⟨x0,h0,h⟩:=bind_some h;obtain⟨x1,h1,h⟩:=bind_some h;injection h with h;subst h;exact(.cons (V.aU h0) (.cons (V.eO h1) cz.nil))
 ·cases h
theorem aj0(o:Nat)(cs:af V)(x:DH)(h:Sa o cs=some x):cz cs (DW o x):=by
 unfold Sa at h;split at h
 ·obtain⟨x0,h0,h⟩:=bind_some h;obtain⟨x1,h1,h⟩:=bind_some h;injection h with h;subst h;exact(.cons (V.aU h0) (.cons (V.aU h1) cz.nil))
 ·cases h
theorem aj1(o:Nat)(cs:af V)(x:F0)(h:Sb o cs=some x):cz cs (Ge o x):=by
 unfold Sb at h;split at h
 ·obtain⟨x0,h0,h⟩:=bind_some h;obtain⟨x1,h1,h⟩:=bind_some h;obtain⟨x2,h2,h⟩:=bind_some h;injection h with h;subst h;exact(.cons (V.aU h0) (.cons (V.eO h1) (.cons (V.eO h2) cz.nil)))
 ·cases h
theorem aj2(o:Nat)(cs:af V)(x:L6)(h:Sc o cs=some x):cz cs (Gf o x):=by
 unfold Sc at h;split at h
 ·obtain⟨x0,h0,h⟩:=bind_some h;obtain⟨x1,h1,h⟩:=bind_some h;obtain⟨x2,h2,h⟩:=bind_some h;obtain⟨x3,h3,h⟩:=bind_some h;obtain⟨x4,h4,h⟩:=bind_some h;obtain⟨x5,h5,h⟩:=bind_some h;injection h with h;subst h;exact(.cons (V.aU h0) (.cons (V.aU h1) (.cons (V.eO h2) (.cons (V.eO h3) (.cons (V.eO h4) (.cons (V.eO h5) cz.nil))))))
 ·cases h
theorem aj3(o:Nat)(cs:af V)(x:s8)(h:Sd o cs=some x):cz cs (DX o x):=by
 unfold Sd at h;split at h
 ·obtain⟨x0,h0,h⟩:=bind_some h;obtain⟨x1,h1,h⟩:=bind_some h;obtain⟨x2,h2,h⟩:=bind_some h;injection h with h;subst h;exact(.cons (V.aU h0) (.cons (V.aU h1) (.cons (V.aU h2) cz.nil)))
 ·cases h
theorem aj4(o:Nat)(cs:af V)(x:L7)(h:Se o cs=some x):cz cs (Gg o x):=by
 unfold Se at h;split at h
 ·obtain⟨x0,h0,h⟩:=bind_some h;obtain⟨x1,h1,h⟩:=bind_some h;obtain⟨x2,h2,h⟩:=bind_some h;obtain⟨x3,h3,h⟩:=bind_some h;obtain⟨x4,h4,h⟩:=bind_some h;obtain⟨x5,h5,h⟩:=bind_some h;injection h with h;subst h;exact(.cons (V.aU h0) (.cons (V.eO h1) (.cons (V.o4 h2) (.cons (V.eO h3) (.cons (V.o4 h4) (.cons (V.aU h5) cz.nil))))))
 ·cases h
theorem aj5(o:Nat)(cs:af V)(x:L8)(h:Sf o cs=some x):cz cs (DY o x):=by
 unfold Sf at h;split at h
 ·obtain⟨x0,h0,h⟩:=bind_some h;obtain⟨x1,h1,h⟩:=bind_some h;obtain⟨x2,h2,h⟩:=bind_some h;obtain⟨x3,h3,h⟩:=bind_some h;injection h with h;subst h;exact(.cons (V.aU h0) (.cons (V.aU h1) (.cons (V.aU h2) (.cons (V.aU h3) cz.nil))))
 ·cases h
theorem aj6(o:Nat)(cs:af V)(x:gn)(h:Sg o cs=some x):cz cs (Gh o x):=by
 unfold Sg at h;split at h
 ·obtain⟨x0,h0,h⟩:=bind_some h;obtain⟨x1,h1,h⟩:=bind_some h;obtain⟨x2,h2,h⟩:=bind_some h;obtain⟨x3,h3,h⟩:=bind_some h;obtain⟨x4,h4,h⟩:=bind_some h;obtain⟨x5,h5,h⟩:=bind_some h;obtain⟨x6,h6,h⟩:=bind_some h;obtain⟨x7,h7,h⟩:=bind_some h;injection h with h;subst h;exact(.cons (V.aU h0) (.cons (V.aU h1) (.cons (V.aU h2) (.cons (V.aU h3) (.cons (V.aU h4) (.cons (V.eO h5) (.cons (V.aU h6) (.cons (V.aU h7) cz.nil))))))))
 ·cases h
theorem aj7(o:Nat)(cs:af V)(x:kf)(h:Sh o cs=some x):cz cs (Gi o x):=by
 unfold Sh at h;split at h
 ·obtain⟨x0,h0,h⟩:=bind_some h;obtain⟨x1,h1,h⟩:=bind_some h;obtain⟨x2,h2,h⟩:=bind_some h;obtain⟨x3,h3,h⟩:=bind_some h;obtain⟨x4,h4,h⟩:=bind_some h;obtain⟨x5,h5,h⟩:=bind_some h;obtain⟨x6,h6,h⟩:=bind_some h;obtain⟨x7,h7,h⟩:=bind_some h;obtain⟨x8,h8,h⟩:=bind_some h;obtain⟨x9,h9,h⟩:=bind_some h;obtain⟨qP,eP,h⟩:=bind_some h;obtain⟨qQ,iF,h⟩:=bind_some h;obtain⟨qR,jP,h⟩:=bind_some h;obtain⟨qS,iN,h⟩:=bind_some h;obtain⟨qT,jQ,h⟩:=bind_some h;obtain⟨qU,gP,h⟩:=bind_some h;obtain⟨qV,jd,h⟩:=bind_some h;injection h with h;subst h;exact(.cons (V.aU h0) (.cons (V.aU h1) (.cons (V.aU h2) (.cons (V.aU h3) (.cons (V.aU h4) (.cons (V.eO h5) (.cons (V.aU h6) (.cons (V.aU h7) (.cons (V.aU h8) (.cons (V.aU h9) (.cons (V.aU eP) (.cons (V.aU iF) (.cons (V.aU jP) (.cons (V.eO iN) (.cons (V.aU jQ) (.cons (V.aU gP) (.cons (V.o4 jd) cz.nil)))))))))))))))))
 ·cases h
theorem aj8(o:Nat)(cs:af V)(x:jr)(h:Si o cs=some x):cz cs (DZ o x):=by
 unfold Si at h;split at h
 ·obtain⟨x0,h0,h⟩:=bind_some h;obtain⟨x1,h1,h⟩:=bind_some h;obtain⟨x2,h2,h⟩:=bind_some h;obtain⟨x3,h3,h⟩:=bind_some h;obtain⟨x4,h4,h⟩:=bind_some h;obtain⟨x5,h5,h⟩:=bind_some h;obtain⟨x6,h6,h⟩:=bind_some h;obtain⟨x7,h7,h⟩:=bind_some h;obtain⟨x8,h8,h⟩:=bind_some h;obtain⟨x9,h9,h⟩:=bind_some h;obtain⟨qP,eP,h⟩:=bind_some h;obtain⟨qQ,iF,h⟩:=bind_some h;obtain⟨qR,jP,h⟩:=bind_some h;obtain⟨qS,iN,h⟩:=bind_some h;obtain⟨qT,jQ,h⟩:=bind_some h;obtain⟨qU,gP,h⟩:=bind_some h;obtain⟨qV,jd,h⟩:=bind_some h;obtain⟨zg,ou,h⟩:=bind_some h;obtain⟨zh,lC,h⟩:=bind_some h;obtain⟨zi,mh,h⟩:=bind_some h;obtain⟨Gm,s9,h⟩:=bind_some h;obtain⟨Gn,ug,h⟩:=bind_some h;obtain⟨Gq,rY,h⟩:=bind_some h;obtain⟨Gr,Bf,h⟩:=bind_some h;obtain⟨Gs,o9,h⟩:=bind_some h;obtain⟨Gt,wY,h⟩:=bind_some h;obtain⟨Gu,uh,h⟩:=bind_some h;obtain⟨Gw,wZ,h⟩:=bind_some h;injection h with h;subst h;exact(.cons (V.aU h0) (.cons (V.aU h1) (.cons (V.aU h2) (.cons (V.aU h3) (.cons (V.aU h4) (.cons (V.aU h5) (.cons (V.aU h6) (.cons (V.aU h7) (.cons (V.aU h8) (.cons (V.aU h9) (.cons (V.aU eP) (.cons (V.aU iF) (.cons (V.aU jP) (.cons (V.aU iN) (.cons (V.aU jQ) (.cons (V.aU gP) (.cons (V.aU jd) (.cons (V.aU ou) (.cons (V.aU lC) (.cons (V.aU mh) (.cons (V.aU s9) (.cons (V.aU ug) (.cons (V.o4 rY) (.cons (V.aU Bf) (.cons (V.aU o9) (.cons (V.aU wY) (.cons (V.aU uh) (.cons (V.aU wZ) cz.nil))))))))))))))))))))))))))))
 ·cases h
theorem aj9(o:Nat)(cs:af V)(x:cD)(h:Sr o cs=some x):cz cs (D0 o x):=by
 unfold Sr at h;split at h
 ·obtain⟨x0,h0,h⟩:=bind_some h;obtain⟨x1,h1,h⟩:=bind_some h;obtain⟨x2,h2,h⟩:=bind_some h;obtain⟨x3,h3,h⟩:=bind_some h;injection h with h;subst h;exact(.cons (V.aU h0) (.cons (V.aU h1) (.cons (V.aU h2) (.cons (V.aU h3) cz.nil))))
 ·cases h
theorem ZQ(o:Nat)(cs:af V)(x:aF)(h:Me o cs=some x):cz cs (ze o x):=by
 unfold Me at h;split at h
 ·obtain⟨x0,h0,h⟩:=bind_some h;obtain⟨x1,h1,h⟩:=bind_some h;obtain⟨x2,h2,h⟩:=bind_some h;obtain⟨x3,h3,h⟩:=bind_some h;obtain⟨x4,h4,h⟩:=bind_some h;obtain⟨x5,h5,h⟩:=bind_some h;obtain⟨x6,h6,h⟩:=bind_some h;obtain⟨x7,h7,h⟩:=bind_some h;obtain⟨x8,h8,h⟩:=bind_some h;obtain⟨x9,h9,h⟩:=bind_some h;obtain⟨qP,eP,h⟩:=bind_some h;obtain⟨qQ,iF,h⟩:=bind_some h;obtain⟨qR,jP,h⟩:=bind_some h;obtain⟨qS,iN,h⟩:=bind_some h;obtain⟨qT,jQ,h⟩:=bind_some h;obtain⟨qU,gP,h⟩:=bind_some h;obtain⟨qV,jd,h⟩:=bind_some h;obtain⟨zg,ou,h⟩:=bind_some h;obtain⟨zh,lC,h⟩:=bind_some h;obtain⟨zi,mh,h⟩:=bind_some h;obtain⟨Gm,s9,h⟩:=bind_some h;obtain⟨Gn,ug,h⟩:=bind_some h;obtain⟨Gq,rY,h⟩:=bind_some h;obtain⟨Gr,Bf,h⟩:=bind_some h;obtain⟨Gs,o9,h⟩:=bind_some h;obtain⟨Gt,wY,h⟩:=bind_some h;obtain⟨Gu,uh,h⟩:=bind_some h;obtain⟨Gw,wZ,h⟩:=bind_some h;obtain⟨Y1,h28,h⟩:=bind_some h;obtain⟨Y2,uj,h⟩:=bind_some h;obtain⟨Y3,Gx,h⟩:=bind_some h;obtain⟨Y4,Gy,h⟩:=bind_some h;obtain⟨Y5,Bg,h⟩:=bind_some h;obtain⟨Y6,Gz,h⟩:=bind_some h;obtain⟨Y7,Sx,h⟩:=bind_some h;obtain⟨Y8,Bh,h⟩:=bind_some h;obtain⟨Y9,GA,h⟩:=bind_some h;obtain⟨Za,h37,h⟩:=bind_some h;obtain⟨Zb,SA,h⟩:=bind_some h;obtain⟨Zc,h39,h⟩:=bind_some h;obtain⟨Zd,SB,h⟩:=bind_some h;obtain⟨Ze,SC,h⟩:=bind_some h;obtain⟨Zf,h42,h⟩:=bind_some h;obtain⟨Zg,SD,h⟩:=bind_some h;obtain⟨Zh,h44,h⟩:=bind_some h;obtain⟨Zi,ZR,h⟩:=bind_some h;obtain⟨Zj,Bi,h⟩:=bind_some h;obtain⟨Zk,SE,h⟩:=bind_some h;obtain⟨Zl,ZS,h⟩:=bind_some h;obtain⟨Zm,Bj,h⟩:=bind_some h;obtain⟨Zn,SF,h⟩:=bind_some h;obtain⟨Zo,ZT,h⟩:=bind_some h;obtain⟨Zp,Bk,h⟩:=bind_some h;obtain⟨Zq,SG,h⟩:=bind_some h;obtain⟨Zr,ZU,h⟩:=bind_some h;obtain⟨Zs,GB,h⟩:=bind_some h;obtain⟨Zt,SH,h⟩:=bind_some h;obtain⟨Zu,SI,h⟩:=bind_some h;obtain⟨Zv,ZV,h⟩:=bind_some h;obtain⟨Zw,GC,h⟩:=bind_some h;obtain⟨Zx,SJ,h⟩:=bind_some h;obtain⟨Zy,Mf,h⟩:=bind_some h;obtain⟨Zz,GD,h⟩:=bind_some h;obtain⟨ZA,RE,h⟩:=bind_some h;obtain⟨ZB,GF,h⟩:=bind_some h;obtain⟨ZC,h65,h⟩:=bind_some h;obtain⟨ZD,h66,h⟩:=bind_some h;obtain⟨ZE,SK,h⟩:=bind_some h;obtain⟨ZF,h68,h⟩:=bind_some h;obtain⟨ZG,h69,h⟩:=bind_some h;obtain⟨ZH,SL,h⟩:=bind_some h;obtain⟨ZI,h71,h⟩:=bind_some h;obtain⟨ZJ,h72,h⟩:=bind_some h;obtain⟨ZK,h73,h⟩:=bind_some h;obtain⟨ZL,h74,h⟩:=bind_some h;injection h with h;subst h;exact(.cons (V.aU h0) (.cons (V.aU h1) (.cons (V.aU h2) (.cons (V.aU h3) (.cons (V.aU h4) (.cons (V.aU h5) (.cons (V.aU h6) (.cons (V.aU h7) (.cons (V.aU h8) (.cons (V.aU h9) (.cons (V.aU eP) (.cons (V.aU iF) (.cons (V.aU jP) (.cons (V.aU iN) (.cons (V.aU jQ) (.cons (V.aU gP) (.cons (V.aU jd) (.cons (V.aU ou) (.cons (V.aU lC) (.cons (V.aU mh) (.cons (V.aU s9) (.cons (V.aU ug) (.cons (V.o4 rY) (.cons (V.aU Bf) (.cons (V.aU o9) (.cons (V.aU wY) (.cons (V.aU uh) (.cons (V.aU wZ) (.cons (V.aU h28) (.cons (V.aU uj) (.cons (V.aU Gx) (.cons (V.aU Gy) (.cons (V.aU Bg) (.cons (V.eO Gz) (.cons (V.aU Sx) (.cons (V.aU Bh) (.cons (V.aU GA) (.cons (V.aU h37) (.cons (V.aU SA) (.cons (V.aU h39) (.cons (V.aU SB) (.cons (V.eO SC) (.cons (V.aU h42) (.cons (V.aU SD) (.cons (V.o4 h44) (.cons (V.aU ZR) (.cons (V.eO Bi) (.cons (V.aU SE) (.cons (V.eO ZS) (.cons (V.eO Bj) (.cons (V.eO SF) (.cons (V.eO ZT) (.cons (V.eO Bk) (.cons (V.aU SG) (.cons (V.eO ZU) (.cons (V.eO GB) (.cons (V.aU SH) (.cons (V.o4 SI) (.cons (V.eO ZV) (.cons (V.eO GC) (.cons (V.eO SJ) (.cons (V.eO Mf) (.cons (V.eO GD) (.cons (V.o4 RE) (.cons (V.aU GF) (.cons (V.aU h65) (.cons (V.aU h66) (.cons (V.aU SK) (.cons (V.aU h68) (.cons (V.aU h69) (.cons (V.aU SL) (.cons (V.aU h71) (.cons (V.eO h72) (.cons (V.eO h73) (.cons (V.eO h74) cz.nil)))))))))))))))))))))))))))))))))))))))))))))))))))))))))))))))))))))))))))
 ·cases h
theorem aka(o:Nat)(cs:af V)(x:L9)(h:Ss o cs=some x):cz cs (Gj o x):=by
 unfold Ss at h;split at h
 ·obtain⟨x0,h0,h⟩:=bind_some h;obtain⟨x1,h1,h⟩:=bind_some h;obtain⟨x2,h2,h⟩:=bind_some h;obtain⟨x3,h3,h⟩:=bind_some h;obtain⟨x4,h4,h⟩:=bind_some h;obtain⟨x5,h5,h⟩:=bind_some h;obtain⟨x6,h6,h⟩:=bind_some h;obtain⟨x7,h7,h⟩:=bind_some h;obtain⟨x8,h8,h⟩:=bind_some h;obtain⟨x9,h9,h⟩:=bind_some h;obtain⟨qP,eP,h⟩:=bind_some h;obtain⟨qQ,iF,h⟩:=bind_some h;obtain⟨qR,jP,h⟩:=bind_some h;obtain⟨qS,iN,h⟩:=bind_some h;obtain⟨qT,jQ,h⟩:=bind_some h;obtain⟨qU,gP,h⟩:=bind_some h;obtain⟨qV,jd,h⟩:=bind_some h;obtain⟨zg,ou,h⟩:=bind_some h;obtain⟨zh,lC,h⟩:=bind_some h;obtain⟨zi,mh,h⟩:=bind_some h;injection h with h;subst h;exact(.cons (V.aU h0) (.cons (V.aU h1) (.cons (V.aU h2) (.cons (V.aU h3) (.cons (V.o4 h4) (.cons (V.aU h5) (.cons (V.aU h6) (.cons (V.aU h7) (.cons (V.aU h8) (.cons (V.aU h9) (.cons (V.aU eP) (.cons (V.aU iF) (.cons (V.aU jP) (.cons (V.aU iN) (.cons (V.aU jQ) (.cons (V.aU gP) (.cons (V.aU jd) (.cons (V.eO ou) (.cons (V.aU lC) (.cons (V.aU mh) cz.nil))))))))))))))))))))
 ·cases h
theorem akb(o:Nat)(cs:af V)(x:Ma)(h:Su o cs=some x):cz cs (D1 o x):=by
 unfold Su at h;split at h
 ·obtain⟨x0,h0,h⟩:=bind_some h;obtain⟨x1,h1,h⟩:=bind_some h;obtain⟨x2,h2,h⟩:=bind_some h;injection h with h;subst h;exact(.cons (V.aU h0) (.cons (V.aU h1) (.cons (V.aU h2) cz.nil)))
 ·cases h
theorem akc(o:Nat)(cs:af V)(x:F1)(h:Sv o cs=some x):cz cs (Gk o x):=by
 unfold Sv at h;split at h
 ·obtain⟨x0,h0,h⟩:=bind_some h;obtain⟨x1,h1,h⟩:=bind_some h;obtain⟨x2,h2,h⟩:=bind_some h;injection h with h;subst h;exact(.cons (V.eO h0) (.cons (V.aU h1) (.cons (V.aU h2) cz.nil)))
 ·cases h
theorem D3{α:Type}{f:V->ak α}{g:α->V}(hf:∀ x a,f x=some a->Wk x (g a)){cs:af V}{x:α}(h:zj f cs=some x):cz cs [g x]:=by
 unfold zj at h;split at h
 ·exact .cons (hf _ _ h) .nil
 ·cases h
theorem akd{α:Type}{f:af V->ak α}{g:α->af V}(hf:∀ x a,f x=some a->cz x (g a)){cs:af V}{x:α}(h:Sw f cs=some x):cz cs (.bool true :: g x):=by
 unfold Sw at h;split at h
 ·exact .cons (.same _) (hf _ _ h)
 ·cases h
theorem Mg{α:Type}{n:Nat}{f:af V->ak α}{g:α->af V}(hf:∀ x a,f x=some a->cz x (g a)){cs:af V}{x:α}(h:D2 n f cs=some x):cz cs (.bool false :: .int .i64 (n:Int) :: g x):=by
 unfold D2 at h;split at h
 ·split at h
  next hn=>subst hn;exact .cons (.same _) (.cons (.same _) (hf _ _ h))
  ·cases h
 ·cases h
theorem nW:(t:TC)->(o:Nat)->(cs:af V)->(x:T t)->dec t o cs=some x->cz cs (enc t o x)
 |.int,_,_,_,h=>D3 (g:=λn=>.int .i64 n) (λ_ _=>V.aU) h
 |.u8,_,_,_,h=>D3 (g:=λn=>.int .u8 n) (λ_ _=>V.ajA) h
 |.bool,_,_,_,h=>D3 (g:=λn=>.bool n) (λ_ _=>V.o4) h
 |.str,_,_,_,h=>D3 (g:=λn=>.str n) (λ_ _=>V.ajB) h
 |.dM,o,cs,x,h=>ajC o cs x h
 |.Addr,o,cs,x,h=>ZN o cs x h
 |.ot,o,cs,x,h=>ajD o cs x h
 |.yS,o,cs,x,h=>ajE o cs x h
 |.Command,o,cs,x,h=>ZO o cs x h
 |.ic,o,cs,x,h=>ajF o cs x h
 |.fL,o,cs,x,h=>ajG o cs x h
 |.jc,o,cs,x,h=>ajH o cs x h
 |.Event,o,cs,x,h=>ajI o cs x h
 |.jA,o,cs,x,h=>ajJ o cs x h
 |.Cell,o,cs,x,h=>ajK o cs x h
 |.Array,o,cs,x,h=>ajL o cs x h
 |.nT,o,cs,x,h=>ajM o cs x h
 |.eN,o,cs,x,h=>ajN o cs x h
 |.kg,o,cs,x,h=>ajO o cs x h
 |.ki,o,cs,x,h=>ajP o cs x h
 |.dR,o,cs,x,h=>ZP o cs x h
 |.dK,o,cs,x,h=>ajQ o cs x h
 |.pX,o,cs,x,h=>ajR o cs x h
 |.yT,o,cs,x,h=>ajS o cs x h
 |.yU,o,cs,x,h=>ajT o cs x h
 |.Power,o,cs,x,h=>ajU o cs x h
 |.pY,o,cs,x,h=>ajV o cs x h
 |.dB,o,cs,x,h=>ajW o cs x h
 |.yV,o,cs,x,h=>ajX o cs x h
 |.yW,o,cs,x,h=>ajY o cs x h
 |.Receiver,o,cs,x,h=>ajZ o cs x h
 |.Node,o,cs,x,h=>aj0 o cs x h
 |.Tree,o,cs,x,h=>aj1 o cs x h
 |.yX,o,cs,x,h=>aj2 o cs x h
 |.rX,o,cs,x,h=>aj3 o cs x h
 |.yY,o,cs,x,h=>aj4 o cs x h
 |.Move,o,cs,x,h=>aj5 o cs x h
 |.lz,o,cs,x,h=>aj6 o cs x h
 |.nt,o,cs,x,h=>aj7 o cs x h
 |.Config,o,cs,x,h=>aj8 o cs x h
 |.gD,o,cs,x,h=>aj9 o cs x h
 |.cK,o,cs,x,h=>ZQ o cs x h
 |.Act,o,cs,x,h=>aka o cs x h
 |.Fact,o,cs,x,h=>akb o cs x h
 |.yZ,o,cs,x,h=>akc o cs x h
 |.sl t,o,_,_,h=>D3 (g:=λn=>.sl t o false n) (λ_ _=>V.eO) h
 |.wW,o,_,_,h=>akd (g:=ze o) (ZQ o) h
 |.DI g,o,_,_,h=>Mg (g:=λn=>[.int .i64 n]) (λ_ _ h=>D3 (g:=λn=>.int .i64 n) (λ_ _=>V.aU) h) h
 |.DJ g,o,_,_,h=>Mg (g:=zd o) (ZP o) h
 |.za g,o,_,_,h=>Mg (g:=zb o) (ZN o) h
 |.fnCommand g,o,_,_,h=>Mg (g:=zc o) (ZO o) h
def V.low(n:Nat):V->Bool
 |.sl t _ _ _=>Nat.ble (full t+2) n
 |_=>true
theorem Mh(t:TC)(o:Nat)(x:T t):∀ y∈enc t o x,y.low (full t)=true:=by
 cases t<;>simp[enc,V.low,full,DK,zb,DL,F2,zc,DM,DN,F3,DO,F4,F5,F6,DP,F7,F8,F9,zd,DQ,DR,Ga,DS,DT,DU,DV,Gb,Gc,Gd,DW,Ge,Gf,DX,Gg,DY,Gh,Gi,DZ,D0,ze,Gj,D1,Gk]
def V.plain:V->Bool
 |.int _ _|.bool _|.str _=>true
 |_=>false
theorem zk(t:TC)(o:Nat)(x:T t)(h:full t=0):∀ y∈enc t o x,y.plain=true:=by
 cases t<;>first|(simp[full]at h;done)|simp[enc,V.plain,DK,zb,DL,zc,DM,DN,DO,DP,zd,DQ,DR,DS,DT,DU,DV,DW,DX,DY,DZ,D0,D1]
def V.lM:V->Bool
 |.nil=>false
 |_=>true
theorem SM(t:TC)(o:Nat)(x:T t):∀ y∈enc t o x,y.lM=true:=by
 cases t<;>simp[enc,V.lM,DK,zb,DL,F2,zc,DM,DN,F3,DO,F4,F5,F6,DP,F7,F8,F9,zd,DQ,DR,Ga,DS,DT,DU,DV,Gb,Gc,Gd,DW,Ge,Gf,DX,Gg,DY,Gh,Gi,DZ,D0,ze,Gj,D1,Gk]
def tcs:af TC:=[.int,.u8,.bool,.str,.sl .int,.sl .bool,.sl .str,.dM,.Addr,.ot,.yS,.Command,.ic,.fL,.jc,.Event,.jA,.Cell,.Array,.nT,.eN,.kg,.ki,.dR,.dK,.pX,.yT,.yU,.Power,.pY,.dB,.yV,.yW,.Receiver,.Node,.Tree,.yX,.rX,.yY,.Move,.lz,.nt,.Config,.gD,.cK,.Act,.Fact,.yZ]
def ZW(e:TypeId):ak TC:=tcs.find? λt=>Nat.beq (tid t) e
theorem ake{e:TypeId}{t:TC}(h:ZW e=some t):tid t=e:=cr (List.find?_some (p:=λt=>Nat.beq (tid t) e) h)
def V.gr(o:Nat):V->Bool
 |.sl _ o' _ _=>o'==o
 |_=>true
theorem w5(t:TC)(o:Nat)(x:T t):∀ y∈enc t o x,y.gr o=true:=by
 cases t<;>simp[enc,V.gr,DK,zb,DL,F2,zc,DM,DN,F3,DO,F4,F5,F6,DP,F7,F8,F9,zd,DQ,DR,Ga,DS,DT,DU,DV,Gb,Gc,Gd,DW,Ge,Gf,DX,Gg,DY,Gh,Gi,DZ,D0,ze,Gj,D1,Gk]
def V.az:V->Bool
 |.sl _ o _ _=>decide (o<2)
 |_=>true
def V.iO:V->V
 |.sl t _ q l=>.sl t 0 q l
 |x=>x
theorem akf(t:TC)(o:Nat)(x y:T t):(enc t o x).map (λv=>(v.plain,v.az))=(enc t o y).map (λv=>(v.plain,v.az)):=by cases t<;>rfl
theorem V.akg(x:V):x.iO.az=true:=by cases x<;>simp[V.iO,V.az]
theorem mj(t:TC)(o:Nat)(x:T t)(ho:o<2)(j:Nat)(y:V)(h:(enc t o x)[j]?=some y):y.az=true:=by
 have:=w5 t o x y (hJ h);cases y<;>simp_all [V.gr,V.az]
theorem ZX(t:TC)(o:Nat)(x:T t):enc t 0 x=(enc t o x).map V.iO:=by cases t<;>rfl
theorem w6(t:TC)(o:Nat)(x:T t)(j:Nat)(y:V)(h:(enc t 0 x)[j]?=some y):∃ z,(enc t o x)[j]?=some z/\y=z.iO:=by
 rw[ZX t o x,dP]at h;cases hz:(enc t o x)[j]? with
 |none=>rw[hz]at h;cases h
 |some z=>rw[hz]at h;injection h with h;exact⟨z,rfl,h.symm⟩
def inner:Nat->Nat
 |0=>0
 |1=>1
 |n+2=>n
abbrev bM:=Nat->ak (af Nat)
inductive RV (w:World) (B:Nat) (aj:bM):List Nat->V->Value->Prop
 |int (q:List Nat) (k:IntKind) (n:Int):RV w B aj q (.int k n) (.int k n)
 |bool (q:List Nat) (b:Bool):RV w B aj q (.bool b) (.bool b)
 |str (q:List Nat) (s:ByteArray):RV w B aj q (.str s) (.string s)
 |nil (q:List Nat):RV w B aj q .nil (.slice none 0 0)
 |c9 (q:List Nat) (t:TC) (o:Nat):RV w B aj q (.sl t o false []) (.slice none 0 0)
 |dm (q:List Nat) (t:TC) (o:Nat) (A:Addr) (c:Nat) (ho:o<2):RV w B aj q (.sl t o false []) (.slice (some A) 0 c)
 |dD (q:List Nat) (t:TC) (o:Nat) (A:Addr) (c:Nat) (ho:o<2):RV w B aj q (.sl t o true []) (.slice (some A) 0 c)
 | az (q:List Nat) (t:TC) (o:Nat) (qn:Bool) (l:List (T t)) (b off cap:Nat) (u:Nat->Nat->Value) (ho:o<2) (hl:aj b=none) (hb:b<w.heap.size) (h1:o=1->B<=b) (eA:l.length<=cap)
   (hc:∀i (h:i<l.length) j x,(enc t o l[i])[j]?=some x->w.cell? ⟨b,off+(i*aB t+j),none⟩=some (u i j))
   (hr:∀i (h:i<l.length) j x,(enc t o l[i])[j]?=some x->RV w B aj [] x (u i j)):RV w B aj q (.sl t o qn l) (.slice (some ⟨b,off,none⟩) l.length cap)
 | own (q:List Nat) (t:TC) (o:Nat) (qn:Bool) (l:List (T t)) (b cap:Nat) (cs:Array Value) (u:Nat->Nat->Value) (hl:aj b=some q) (hh:w.heap[b]?=some (.cells cs (tid t) (0,0)))
   (hs:cs.size=cap*aB t) (hn:l.length<=cap) (hm:cap<=maxLen/\(qn=true->cap=l.length))
   (hc:∀i (h:i<l.length) j x,(enc t o l[i])[j]?=some x->cs[i*aB t+j]?=some (u i j))
   (hr:∀i (h:i<l.length) j x,(enc t o l[i])[j]?=some x->RV w B aj (j::i::aB t::q) x (u i j)):RV w B aj q (.sl t (o+2) qn l) (.slice (some ⟨b,0,none⟩) l.length cap)
section
variable {w w':World} {B:Nat} {aj aD:bM}
def V.GG(n:Nat):V->V
 |.sl t _ q l=>.sl t n q l
 |x=>x
theorem akh(t:TC)(o n:Nat)(x:T t):enc t n x=(enc t o x).map (V.GG n):=by cases t<;>rfl
def V.fu(n:Nat):V->Prop
 |.sl t o _ _=>full t+2<=o/\full t+2<=n
 |_=>True
theorem RV.GG{q:af Nat}{x:V}{v:Value}(h:RV w B aj q x v):∀ n,x.fu n->RV w B aj q (x.GG n) v:=by
 induction h with
 |int=>exact λ_ _=>.int _ _ _
 |bool=>exact λ_ _=>.bool _ _
 |str=>exact λ_ _=>.str _ _
 |nil=>exact λ_ _=>.nil _
 |c9=>exact λ_ _=>.c9 _ _ _
 |dm q t o A c ho=>exact λn hn=>by have:=hn.1;omega
 |dD q t o A c ho=>exact λn hn=>by have:=hn.1;omega
 |az q t o qn l b off cap u ho hl hb h1 eA hc hr ih=>exact λn hn=>by have:=hn.1;omega
 | own q t o qn l b cap cs u hl hh hs hn hm hc hr ih=>
  intro n hf;obtain⟨h1,h2⟩:=hf;obtain⟨m,rfl⟩:∃m,n=m+2:=⟨n-2,by omega⟩
  have key:∀ (i:Nat) (h:i<l.length) (j:Nat) (x:V),(enc t m l[i])[j]?=some x->∃ y:V,(enc t o l[i])[j]?=some y/\y.GG m=x/\y.fu m:=by
   intro i h j x hx;rw[akh t o m l[i],dP]at hx;cases hy:(enc t o l[i])[j]? with
   |none=>rw[hy]at hx;cases hx
   | some y=>
    rw[hy]at hx;injection hx with hx;refine⟨y,rfl,hx,?_⟩;have g1:=w5 t o l[i] y (hJ hy);have g2:=Mh t o l[i] y (hJ hy);cases y with
    | sl t' o' q' l'=>
     have e:o'=o:=by simpa [V.gr]using g1
     have:=cT (show Nat.ble (full t'+2) (full t)=true from g2);exact⟨by omega,by omega⟩
    |_=>trivial
  refine .own _ _ _ _ _ _ _ cs u hl hh hs hn hm (λi h j x hx=>?_) (λi h j x hx=>?_)
  ·obtain⟨y,hy,_⟩:=key i h j x hx;exact hc i h j y hy
  ·obtain⟨y,hy,rfl,hf⟩:=key i h j x hx;exact ih i h j y hy m hf
theorem RV.wk{q:af Nat}{x y:V}{v:Value}(h:RV w B aj q x v)(k:Wk x y):RV w B aj q y v:=by
 cases k with
 |same=>exact h
 |nil t o=>cases h;exact .c9 _ _ _
 | gr t o o' qn l h1 h2=>
  have h:=h.GG o ⟨h2,h1⟩;have h:RV w B aj q (.sl t o qn l) v:=h;cases h with
  |c9=>exact .c9 _ _ _
  |dm q t o A c ho=>exact .dm _ _ _ _ _ ho
  |dD q t o A c ho=>exact .dm _ _ _ _ _ ho
  |az q t o qn l b off cap u ho hl hb h1 eA hc hr=>exact .az _ _ _ _ _ _ _ _ u ho hl hb h1 eA hc hr
  |own q t o qn l b cap cs u hl hh hs hn hm hc hr=>exact .own _ _ _ _ _ _ _ cs u hl hh hs hn ⟨hm.1,λh=>by cases h⟩ hc hr
 | q t o l=>
  cases h with
  |dD q t o A c ho=>exact .dm _ _ _ _ _ ho
  |az q t o qn l b off cap u ho hl hb h1 eA hc hr=>exact .az _ _ _ _ _ _ _ _ u ho hl hb h1 eA hc hr
  |own q t o qn l b cap cs u hl hh hs hn hm hc hr=>exact .own _ _ _ _ _ _ _ cs u hl hh hs hn ⟨hm.1,λh=>by cases h⟩ hc hr
theorem RV.key{q q':af Nat}{x:V}{v:Value}(h:RV w B aj q x v)(hf:x.az=true):RV w B aj q' x v:=by
 cases h with
 |int=>exact .int _ _ _
 |bool=>exact .bool _ _
 |str=>exact .str _ _
 |nil=>exact .nil _
 |c9=>exact .c9 _ _ _
 |dm=>exact .dm _ _ _ _ _ (by first|assumption|omega)
 |dD=>exact .dD _ _ _ _ _ (by first|assumption|omega)
 |az q t o qn l b off cap u ho hl hb h1 eA hc hr=>exact .az _ _ _ _ _ _ _ _ u ho hl hb h1 eA hc hr
 |own q t o qn l b cap cs u hl hh hs hn hm hc hr=>simp[V.az]at hf;omega
def ow:Value->Bool
 |.slice ..=>true
 |_=>false
theorem RV.SN{q:af Nat}{x:V}{u:Value}(h:RV w B aj q x u)(hf:x.az=false):ow u=true:=by
 cases h<;>first|rfl|cases hf
theorem RV.one{q:af Nat}{x:V}{u:Value}(h:RV w B aj q x u):u.oneCell'=true:=by
 cases h<;>rfl
theorem RV.iz{q:af Nat}{x:V}{v:Value}(h:RV w B aj q x v)(hz:w.heap.size<=w'.heap.size)(hk:∀ b,b<w.heap.size->w'.heap[b]?=w.heap[b]?/\aD b=aj b):RV w' B aD q x v:=by
 induction h with
 |int=>exact .int _ _ _
 |bool=>exact .bool _ _
 |str=>exact .str _ _
 |nil=>exact .nil _
 |c9=>exact .c9 _ _ _
 |dm=>exact .dm _ _ _ _ _ (by first|assumption|omega)
 |dD=>exact .dD _ _ _ _ _ (by first|assumption|omega)
 | az q t o qn l b off cap u ho hl hb h1 eA hc hr ih=>
  exact .az _ _ _ _ _ _ _ _ u ho ((hk b hb).2.trans hl) (mg hb hz) h1 eA (λi h j x hx=>(mH (a:=⟨b,_,none⟩) (hk b hb).1).trans (hc i h j x hx)) ih
 | own q t o qn l b cap cs u hl hh hs hn hm hc hr ih=>
  have hb:b<w.heap.size:=(ia.1 hh).1;exact .own _ _ _ _ _ _ _ cs u ((hk b hb).2.trans hl) ((hk b hb).1.trans hh) hs hn hm hc ih
theorem RV.apart{q kt:af Nat}{x:V}{v:Value}{bt:Nat}(h:RV w B aj q x v)(D4:aj bt=some kt)(hq:¬ q <:+ kt\/x.az=true)(hz:w.heap.size<=w'.heap.size)(hk:∀ b,b≠bt->w'.heap[b]?=w.heap[b]?):RV w' B aj q x v:=by
 induction h with
 |int=>exact .int _ _ _
 |bool=>exact .bool _ _
 |str=>exact .str _ _
 |nil=>exact .nil _
 |c9=>exact .c9 _ _ _
 |dm=>exact .dm _ _ _ _ _ (by first|assumption|omega)
 |dD=>exact .dD _ _ _ _ _ (by first|assumption|omega)
 | az q t o qn l b off cap u ho hl hb h1 eA hc hr ih=>
  have br:b≠bt:=by rintro rfl;rw[hl]at D4;cases D4
  refine .az _ _ _ _ _ _ _ _ u ho hl (mg hb hz) h1 eA (λi h j x hx=>(mH (a:=⟨b,_,none⟩) (hk b br)).trans (hc i h j x hx)) (λi h j x hx=>ih i h j x hx (.inr (mj t o l[i] ho j x hx)))
 | own q t o qn l b cap cs u hl hh hs hn hm hc hr ih=>
  have mQ:¬ q <:+ kt:=by
   rcases hq with hq|hq
   ·exact hq
   ·simp[V.az]at hq;omega
  have br:b≠bt:=by rintro rfl;rw[hl]at D4;injection D4 with D4;subst D4;exact mQ (List.suffix_refl _)
  refine .own _ _ _ _ _ _ _ cs u hl ((hk b br).trans hh) hs hn hm hc (λi h j x hx=>ih i h j x hx (.inl λhs=>mQ (List.IsSuffix.trans ⟨[j,i,aB t],rfl⟩ hs)))
theorem RV.iO{q q':af Nat}{x:V}{v:Value}(h:RV w B aj q x v){B':Nat}:RV w B' (λ_=>none) q' x.iO v:=by
 induction h generalizing q' with
 |int=>exact .int _ _ _
 |bool=>exact .bool _ _
 |str=>exact .str _ _
 |nil=>exact .nil _
 |c9=>exact .c9 _ _ _
 |dm=>exact .dm _ _ _ _ _ (by first|assumption|omega)
 |dD=>exact .dD _ _ _ _ _ (by first|assumption|omega)
 | az q t o qn l b off cap u ho hl hb h1 eA hc hr ih=>
  refine .az _ _ _ _ _ _ _ _ u (by omega) rfl hb (by omega) eA (λi h j x hx=>?_) (λi h j x hx=>?_)
  ·obtain⟨y,hy,_⟩:=w6 t o l[i] j x hx;exact hc i h j y hy
  ·obtain⟨y,hy,rfl⟩:=w6 t o l[i] j x hx;exact ih i h j y hy
 | own q t o qn l b cap cs u hl hh hs hn hm hc hr ih=>
  refine .az _ _ _ _ _ _ _ _ u (by omega) rfl (ia.1 hh).1 (by omega) hn (λi h j x hx=>?_) (λi h j x hx=>?_)
  ·obtain⟨y,hy,_⟩:=w6 t o l[i] j x hx;have:=hc i h j y hy;rw[fV,cell_of_row w b _ cs _ _ hh];exact this
  ·obtain⟨y,hy,rfl⟩:=w6 t o l[i] j x hx;exact ih i h j y hy
end
end Go.Proofs.YtecofnkoloihpaaGreat
namespace Go.Proofs.YtecofnkoloihpaaGreat
open Go.RowKit
set_option linter.unusedVariables false
inductive Lf where
 |v (x:V)
 |own (k:List Nat)
 |dead
inductive A where
 |undef
 |skip
 |lf (x:Lf)
 |agg (cs:List Lf)
 |cU (xs:List (Bool×List Lf))
 |ptr (k:List Nat)
 |aK (r j:Nat)
 |je (cs:List V)
 |mm (f:Nat) (cs:List V)
 |pk (r n:Nat)
 |view (k:List Nat) (s i j:Nat)
 |fn (f:Nat) (cap:List (Nat×Nat))
inductive bg where
 |aC (cs:List Lf)
 |sl (y:V)
 |mp (l:List (Int×Bool))
 |gh (xs:List A)
structure S where
 t:Nat->A
 m:Nat->Option bg
inductive Loc where
 |aC (b off:Nat)
 |eK (v:Value)
 |cq (us:List Value)
def addrAt(w:World)(aj:bM)(ρ:Nat->Loc):af Nat->ak Addr
 | j :: i :: s :: [r]=>match ρ r with
  |.eK (.slice (some ⟨b,0,none⟩) _ _)=>if aj b=some [r]then some ⟨b,i*s+j,none⟩else none
  |_=>none
 | j :: i :: s :: q=>match (addrAt w aj ρ q).bind w.cell? with
  |some (.slice (some ⟨b,0,none⟩) _ _)=>if aj b=some q then some ⟨b,i*s+j,none⟩else none
  |_=>none
 |_=>none
def cJ(w:World)(aj:bM)(ρ:Nat->Loc):af Nat->ak Value
 | [r]=>match ρ r with
  |.eK v=>some v
  |_=>none
 |q=>(addrAt w aj ρ q).bind w.cell?
def dY(w:World)(B:Nat)(aj:bM)(ρ:Nat->Loc):Lf->Value->Prop
 |.v x,u=>x.az=true/\RV w B aj [] x u
 |.own k,u=>ow u=true/\cJ w aj ρ k=some u
 |.dead,_=>True
def eG(w:World)(B:Nat)(aj:bM)(ρ:Nat->Loc)(cs:af Lf)(us:Array Value):Prop:=
 us.size=cs.length/\∀(j:Nat) x,cs[j]?=some x->∃u,us[j]?=some u/\dY w B aj ρ x u
def RP(w:World)(B:Nat)(aj:bM)(ρ:Nat->Loc)(p:Bool×af Lf)(u:Value):Prop:=
 match p with
 |(true,cs)=>∃us,u = .agg us/\eG w B aj ρ cs us
 |(false,cs)=>eG w B aj ρ cs #[u]
def zl:Nat:=4294967296
def SO(b n:Nat):Value:=bif Nat.beq n zl then .map (some b)else .slice (some ⟨b,0,none⟩) n n
theorem SP{b n:Nat}(h:n<zl):SO b n = .slice (some ⟨b,0,none⟩) n n:=by
 unfold SO;cases hb:Nat.beq n zl with
 |true=>have:=cr hb;omega
 |false=>rfl
def RF(w:World)(B:Nat)(aj:bM)(cs:af V)(u:Value):Prop:=
 ∃b off,u = .pointer (some ⟨b,off,none⟩)/\b<w.heap.size/\aj b=none/\∀(j:Nat) x,cs[j]?=some x->x.az=true/\∃v,w.cell? ⟨b,off+j,none⟩=some v/\RV w B aj [] x v
def RA(w:World)(B:Nat)(aj:bM)(ρ:Nat->Loc):A->Value->Prop
 |.undef,_=>True
 |.skip,u=>u=Go.undef
 |.lf x,u=>dY w B aj ρ x u
 |.agg cs,u=>RP w B aj ρ (true,cs) u
 |.cU xs,u=>∃us:Array Value,u = .tuple us/\us.size=xs.length/\∀(j:Nat) p,xs[j]?=some p->∃v,us[j]?=some v/\RP w B aj ρ p v
 |.ptr k,u=>∃ad,u = .pointer (some ad)/\addrAt w aj ρ k=some ad
 |.aK r j,u=>∃b off,ρ r = .aC b off/\u = .pointer (some ⟨b,off+j,none⟩)
 |.je cs,u=>RF w B aj cs u
 |.mm f cs,u=>∃pv,u = .func (.func f) #[] #[pv]/\RF w B aj cs pv
 |.pk r n,u=>∃b,ρ r = .aC b 0/\u=SO b n
 |.view k s i j,u=>∃A n c,cJ w aj ρ k=some (.slice A n c)/\i<=j/\j<=n/\u=sliced A i j c s
 |.fn f cap,u=>∃vs:Array Value,u = .func (.func f) #[] vs/\vs.size=cap.length/\∀(j:Nat) p,cap[j]?=some p->∃b off,ρ p.1 = .aC b off/\vs[j]?=some (.pointer (some ⟨b,off+p.2,none⟩))
inductive fz (w:World) (B:Nat) (aj:bM) (ρ:Nat->Loc) (r:Nat):bg->Prop
 | aC (b off:Nat) (cells:Array Value) (e:TypeId) (cs:List Lf) (us:Nat->Value) (aO:ρ r = .aC b off) (hl:aj b=some [r]) (hh:w.heap[b]?=some (.cells cells e (0,0))) (hs:off+cs.length<=cells.size)
   (hc:∀(j:Nat) x,cs[j]?=some x->cells[off+j]?=some (us j)/\dY w B aj ρ x (us j)):fz w B aj ρ r (.aC cs)
 |sl (v:Value) (y:V) (aO:ρ r = .eK v) (hr:RV w B aj [r] y v):fz w B aj ρ r (.sl y)
 |mp (b clock:Nat) (es:Array MapEntry) (l:List (Int×Bool)) (aO:ρ r = .aC b 0) (hl:aj b=some [r]) (hh:w.heap[b]?=some (.map es clock)) (he:es.toList.map (λe=>(e.key,e.val))=l.map λp=>(.int .i64 p.1,.bool p.2)):fz w B aj ρ r (.mp l)
 |gh (us:List Value) (xs:List A) (aO:ρ r = .cq us) (hx:∀(j:Nat) x,xs[j]?=some x->RA w B aj ρ x (us.getD j undef)):fz w B aj ρ r (.gh xs)
def Qw(_:World):Prop:=True
structure aki (n:Nat) (L:bM) (w w':World):Prop where
 os:w'.os=w.os
 tape:w'.tape=w.tape
 output:w'.output=w.output
 size:w.heap.size<=w'.heap.size
 block:∀k,k<n->L k=none->w'.heap[k]?=w.heap[k]?
def Hd(w:World)(L:bM):Prop:=∀w',aki w.heap.size L w w'->Qw w'
theorem akj(w:World)(L:bM):Hd w L:=λ_ _=>trivial
structure Wd where
 w:World
 L:bM
 F:Nat->Option Loc
 held:Hd w L
 low:∀r,r<20000->F r=none
def Wd.heap(d:Wd):Array Obj:=d.w.heap
def Wd.of(w:World)(h:Hd w λ_=>none):Wd:=⟨w,λ_=>none,λ_=>none,h,λ_ _=>rfl⟩
structure kJ (d:Wd) (w w':World):Prop where
 os:w'.os=w.os
 tape:w'.tape=w.tape
 output:w'.output=w.output
 size:w.heap.size<=w'.heap.size
 block:∀k,k<d.heap.size->d.L k=none->w'.heap[k]?=w.heap[k]?
theorem kJ.trans{d:Wd}{a b c:World}(h:kJ d a b)(k:kJ d b c):kJ d a c:=
 ⟨k.os.trans h.os,k.tape.trans h.tape,k.output.trans h.output,Nat.le_trans h.size k.size,λi hi hl=>(k.block i hi hl).trans (h.block i hi hl)⟩
theorem Wd.on(d:Wd){w:World}(h:kJ d d.w w){L:bM}(hL:∀ b k,L b=some k->d.heap.size<=b\/d.L b≠none):Hd w L:=λw' hb=>
 d.held w' ⟨hb.os.trans h.os,hb.tape.trans h.tape,hb.output.trans h.output,Nat.le_trans h.size hb.size,λk hk hl=>by
  have e:L k=none:=by
   cases e:L k with
   |none=>rfl
   | some q=>
    rcases hL k q e with h1|h1
    ·exact absurd hk (Nat.not_lt.2 h1)
    ·exact absurd hl h1
  exact(hb.block k (mg hk h.size) e).trans (h.block k hk hl)⟩
theorem kJ.of{d:Wd}{a b:World}{B:Nat}(h:Below B a b)(hB:d.heap.size<=B):kJ d a b:=
 ⟨h.os,h.tape,h.output,h.size,λi hi _=>h.block i (mg hi hB)⟩
structure Rl (w0:Wd) (N:Nat) (aj:bM) (ρ:Nat->Loc) (σ:S) (a:Act) (w:World):Prop where
 below:kJ w0 w0.w w
 dF:∀b k,aj b=some k->(w0.heap.size<=b\/w0.L b≠none)/\b<w.heap.size/\k≠[]
 root:∀r x,σ.m r=some x->fz w w0.heap.size aj ρ r x
 tmp:∀k,RA w w0.heap.size aj ρ (σ.t k) (a.tmps.getD k undef)
 size:a.tmps.size=N
 defers:a.defers=[]
 fix:∀r l,w0.F r=some l->ρ r=l
 ef:∀r,(r<N\/60000<=r)->w0.F r=none
def R(w0:Wd)(N:Nat)(σ:S)(a:Act)(w:World):Prop:=∃aj ρ,Rl w0 N aj ρ σ a w
/-! Reading along a key. -/
inductive vL (m:Nat->Option bg):List Nat->V->Prop
 |root (r:Nat) (y:V) (h:m r=some (.sl y)):vL m [r] y
 |elem (j i:Nat) (q:List Nat) (t:TC) (o:Nat) (qn:Bool) (l:List (T t)) (y:V) (h:vL m q (.sl t (o+2) qn l)) (hi:i<l.length) (hy:(enc t o l[i])[j]?=some y):vL m (j::i::aB t::q) y
section
variable {w w':World} {w0:Wd} {B N:Nat} {aj aD:bM} {ρ ρ':Nat->Loc} {m:Nat->ak bg} {σ:S} {a:Act}
theorem Bl{q:af Nat}(j i s:Nat){b n c:Nat}(h:cJ w aj ρ q=some (.slice (some ⟨b,0,none⟩) n c))(hl:aj b=some q):addrAt w aj ρ (j :: i :: s :: q)=some ⟨b,i*s+j,none⟩:=by
 match q,h,hl with
 | [r],h,hl=>
  simp only[cJ]at h;simp only[addrAt];cases hr:ρ r with
  |aC b off=>rw[hr]at h;cases h
  |eK v=>rw[hr]at h;injection h with h;subst h;simp[hl]
  |cq us=>rw[hr]at h;cases h
 |[],h,hl=>simp[cJ,addrAt]at h
 | x :: y :: q,h,hl=>
  simp only[cJ]at h;simp only[addrAt,h,hl,if_true]
theorem Mi{j i s:Nat}{q:af Nat}:cJ w aj ρ (j::i::s::q)=(addrAt w aj ρ (j::i::s::q)).bind w.cell?:=rfl
theorem vL.ok{k:af Nat}{y:V}(h:vL m k y)(hm:∀ r x,m r=some x->fz w B aj ρ r x):∃ u,cJ w aj ρ k=some u/\RV w B aj k y u:=by
 induction h with
 | root r y h=>
  cases hm _ _ h with
  |sl v y aO hr=>exact⟨v,by simp[cJ,aO],hr⟩
 | elem j i q t o qn l y h hi hy ih=>
  obtain⟨u,hu,hr⟩:=ih;cases hr with
  |c9=>simp at hi
  |dm=>simp at hi
  |dD=>simp at hi
  |az _ _ _ _ _ _ _ _ _ ho=>omega
  | own _ _ _ _ _ b cap cs us hl hh hs hn hm hc hr=>
   refine⟨us i j,?_,hr i hi j y hy⟩;rw[Mi,Bl j i (aB t) hu hl];show w.cell? _=_;rw[cell_of_row w b _ cs _ _ hh];exact hc i hi j y hy
theorem zm:∀ (k:af Nat) (ad:Addr),addrAt w aj ρ k=some ad->∃ j i s q,k=j :: i :: s :: q/\aj ad.block=some q/\ad.off=i*s+j/\ad.spot=none/\(∀ r,q=[r]->∃ v,ρ r = .eK v)
 |[],_,h=>by simp[addrAt]at h
 |[_],_,h=>by simp[addrAt]at h
 |[_,_],_,h=>by simp[addrAt]at h
 |[_,_,_],_,h=>by simp[addrAt]at h
 | [j,i,s,r],ad,h=>by
  simp only[addrAt]at h;split at h
  ·rename_i v b n c hr;split at h
   next hl=>injection h with h;subst h;exact⟨j,i,s,[r],rfl,hl,rfl,rfl,λr' e=>by injection e with e;subst e;exact⟨_,hr⟩⟩
   ·cases h
  ·cases h
 | j :: i :: s :: x :: y :: q,ad,h=>by
  simp only[addrAt]at h;split at h
  ·split at h
   next hl=>injection h with h;subst h;exact⟨j,i,s,x::y::q,rfl,hl,rfl,rfl,λr' e=>by injection e with _ e;cases e⟩
   ·cases h
  ·cases h
theorem SQ(hk:∀ b,b<w.heap.size->w'.heap[b]?=w.heap[b]?/\aD b=aj b)(hg:∀ b k,aj b=some k->b<w.heap.size):∀ (k:af Nat) (ad:Addr),addrAt w aj ρ k=some ad->addrAt w' aD ρ k=some ad
 |[],_,h=>h
 |[_],_,h=>h
 |[_,_],_,h=>h
 |[_,_,_],_,h=>by simp only[addrAt]at h ⊢;exact h
 | [j,i,s,r],_,h=>by
  simp only[addrAt]at h ⊢;split at h
  ·rename_i v b n c hr;split at h
   next hl=>rw[bB ((hk _ (hg _ _ hl)).2.trans hl)];exact h
   ·cases h
  ·cases h
 | j :: i :: s :: x :: y :: q,ad,h=>by
  simp only[addrAt]at h ⊢;cases ha:addrAt w aj ρ (x::y::q)with
  |none=>rw[ha]at h;cases h
  | some p5=>
   rw[SQ hk hg _ _ ha];rw[ha]at h;cases hc:w.cell? p5 with
   |none=>simp[hc]at h
   | some v=>
    have e:w'.cell? p5=some v:=(mH (hk _ (block_lt_of_cell hc)).1).trans hc;simp only[Option.bind_some,hc]at h;simp only[Option.bind_some,e];split at h
    ·split at h
     next hl=>rw[bB ((hk _ (hg _ _ hl)).2.trans hl)];exact h
     ·cases h
    ·cases h
theorem ZY(hk:∀ b,b<w.heap.size->w'.heap[b]?=w.heap[b]?/\aD b=aj b)(hg:∀ b k,aj b=some k->b<w.heap.size)(k:af Nat)(u:Value)(h:cJ w aj ρ k=some u):cJ w' aD ρ k=some u:=by
 match k,h with
 |[],h=>simp[cJ,addrAt]at h
 |[r],h=>exact h
 | x :: y :: q,h=>
  simp only[cJ]at h ⊢;cases ha:addrAt w aj ρ (x::y::q)with
  |none=>rw[ha]at h;cases h
  | some ad=>
   rw[SQ hk hg _ _ ha];rw[ha]at h;have h:w.cell? ad=some u:=h;exact(mH (hk _ (block_lt_of_cell h)).1).trans h
theorem dY.iz{x:Lf}{u:Value}(h:dY w B aj ρ x u)(hz:w.heap.size<=w'.heap.size)(hk:∀ b,b<w.heap.size->w'.heap[b]?=w.heap[b]?/\aD b=aj b)(hg:∀ b k,aj b=some k->b<w.heap.size):dY w' B aD ρ x u:=by
 cases x with
 |v x=>exact⟨h.1,h.2.iz hz hk⟩
 |own k=>exact⟨h.1,ZY hk hg _ _ h.2⟩
 |dead=>trivial
theorem eG.iz{cs:af Lf}{us:Array Value}(h:eG w B aj ρ cs us)(hz:w.heap.size<=w'.heap.size)(hk:∀ b,b<w.heap.size->w'.heap[b]?=w.heap[b]?/\aD b=aj b)(hg:∀ b k,aj b=some k->b<w.heap.size):eG w' B aD ρ cs us:=
 ⟨h.1,λj x hx=>let ⟨u,hu,r⟩:=h.2 j x hx;⟨u,hu,r.iz hz hk hg⟩⟩
theorem RP.iz{p:Bool×af Lf}{u:Value}(h:RP w B aj ρ p u)(hz:w.heap.size<=w'.heap.size)(hk:∀ b,b<w.heap.size->w'.heap[b]?=w.heap[b]?/\aD b=aj b)(hg:∀ b k,aj b=some k->b<w.heap.size):RP w' B aD ρ p u:=by
 obtain⟨b,cs⟩:=p;cases b with
 |true=>obtain⟨us,e,h⟩:=h;exact⟨us,e,h.iz hz hk hg⟩
 |false=>exact eG.iz h hz hk hg
theorem RF.iz{cs:af V}{u:Value}(h:RF w B aj cs u)(hz:w.heap.size<=w'.heap.size)(hk:∀ b,b<w.heap.size->w'.heap[b]?=w.heap[b]?/\aD b=aj b):RF w' B aD cs u:=by
 obtain⟨b,off,e,hb,hl,h⟩:=h
 refine⟨b,off,e,mg hb hz,((hk b hb).2).trans hl,λj x hx=>?_⟩
 obtain⟨hf,v,hv,hr⟩:=h j x hx;exact⟨hf,v,(mH (a:=⟨b,_,none⟩) (hk b hb).1).trans hv,hr.iz hz hk⟩
theorem RA.iz{x:A}{u:Value}(h:RA w B aj ρ x u)(hz:w.heap.size<=w'.heap.size)(hk:∀ b,b<w.heap.size->w'.heap[b]?=w.heap[b]?/\aD b=aj b)(hg:∀ b k,aj b=some k->b<w.heap.size):RA w' B aD ρ x u:=by
 cases x with
 |undef=>trivial
 |skip=>exact h
 |lf x=>exact dY.iz h hz hk hg
 |agg cs=>exact RP.iz (p:=(true,cs)) h hz hk hg
 |cU xs=>obtain⟨us,e,hs,h⟩:=h;exact⟨us,e,hs,λj p hp=>let ⟨v,hv,r⟩:=h j p hp;⟨v,hv,r.iz hz hk hg⟩⟩
 |ptr k=>obtain⟨ad,e,h⟩:=h;exact⟨ad,e,SQ hk hg _ _ h⟩
 |view k s i j=>obtain⟨A,n,c,h,g⟩:=h;exact⟨A,n,c,ZY hk hg _ _ h,g⟩
 |pk r n=>exact h
 |aK r j=>exact h
 |je cs=>exact RF.iz h hz hk
 |mm f cs=>obtain⟨pv,e,h⟩:=h;exact⟨pv,e,h.iz hz hk⟩
 |fn f cap=>exact h
theorem fz.iz{r:Nat}{x:bg}(h:fz w B aj ρ r x)(hz:w.heap.size<=w'.heap.size)(hk:∀ b,b<w.heap.size->w'.heap[b]?=w.heap[b]?/\aD b=aj b)(hg:∀ b k,aj b=some k->b<w.heap.size):fz w' B aD ρ r x:=by
 cases h with
 | aC b off cells e cs us aO hl hh hs hc=>
  have hb:b<w.heap.size:=(ia.1 hh).1;exact .aC b off cells e cs us aO ((hk b hb).2.trans hl) ((hk b hb).1.trans hh) hs (λj x hx=>⟨(hc j x hx).1,(hc j x hx).2.iz hz hk hg⟩)
 |sl v y aO hr=>exact .sl v y aO (hr.iz hz hk)
 | mp b c es l aO hl hh he=>
  have hb:b<w.heap.size:=(ia.1 hh).1;exact .mp b c es l aO ((hk b hb).2.trans hl) ((hk b hb).1.trans hh) he
 |gh us xs aO hx=>exact .gh us xs aO λj x hj=>(hx j x hj).iz hz hk hg
/-! A root's name is given anew: what named it before is forgotten. -/
def bP(d:Nat)(k:af Nat):Bool:=k.getLast?==some d
def Lf.drop(d:Nat):Lf->Lf
 |.own k=>bif bP d k then .dead else .own k
 |x=>x
def A.drop(d:Nat):A->A
 |.lf x=>.lf (x.drop d)
 |.agg cs=>.agg (cs.map (Lf.drop d))
 |.cU xs=>.cU (xs.map λp=>(p.1,p.2.map (Lf.drop d)))
 |.ptr k=>bif bP d k then .undef else .ptr k
 |.aK r j=>bif Nat.beq r d then .undef else .aK r j
 |.pk r n=>bif Nat.beq r d then .undef else .pk r n
 |.view k s i j=>bif bP d k then .undef else .view k s i j
 |.fn f cap=>bif cap.any (λp=>Nat.beq p.1 d)then .undef else .fn f cap
 |x=>x
def bg.drop(d:Nat):bg->bg
 |.aC cs=>.aC (cs.map (Lf.drop d))
 |.gh xs=>.gh (xs.map (A.drop d))
 |x=>x
theorem SR{d:Nat}(aO:∀ r,r≠d->ρ' r=ρ r):∀ (k:af Nat),bP d k=false->addrAt w aj ρ' k=addrAt w aj ρ k
 |[],_=>rfl
 |[_],_=>rfl
 |[_,_],_=>rfl
 |[_,_,_],_=>rfl
 | [j,i,s,r],h=>by
  have hr:r≠d:=by rintro rfl;simp[bP]at h
  simp only[addrAt,aO r hr]
 | j :: i :: s :: x :: y :: q,h=>by
  have h':bP d (x::y::q)=false:=by simpa [bP]using h
  simp only[addrAt,SR aO (x::y::q) h']
theorem ZZ{d:Nat}(aO:∀ r,r≠d->ρ' r=ρ r)(k:af Nat)(h:bP d k=false):cJ w aj ρ' k=cJ w aj ρ k:=by
 match k,h with
 |[],_=>rfl
 | [r],h=>
  have hr:r≠d:=by rintro rfl;simp[bP]at h
  simp only[cJ,aO r hr]
 |x::y::q,h=>simp only[cJ,SR aO _ h]
theorem dY.ff{d:Nat}(aO:∀ r,r≠d->ρ' r=ρ r){x:Lf}{u:Value}(h:dY w B aj ρ x u):dY w B aj ρ' (x.drop d) u:=by
 cases x with
 |v x=>exact h
 |dead=>trivial
 | own k=>
  have e:Lf.drop d (.own k)=(bif bP d k then .dead else .own k):=rfl;rw[e];cases hl:bP d k with
  |true=>trivial
  |false=>exact⟨h.1,(ZZ aO k hl).trans h.2⟩
theorem eG.ff{d:Nat}(aO:∀ r,r≠d->ρ' r=ρ r){cs:af Lf}{us:Array Value}(h:eG w B aj ρ cs us):eG w B aj ρ' (cs.map (Lf.drop d)) us:=by
 refine⟨by rw[gB];exact h.1,λj x hx=>?_⟩
 rw[dP]at hx;cases hy:cs[j]? with
 |none=>rw[hy]at hx;cases hx
 | some y=>
  rw[hy]at hx;injection hx with hx;subst hx;obtain⟨u,hu,r⟩:=h.2 j y hy;exact⟨u,hu,r.ff aO⟩
theorem RP.ff{d:Nat}(aO:∀ r,r≠d->ρ' r=ρ r){p:Bool×af Lf}{u:Value}(h:RP w B aj ρ p u):RP w B aj ρ' (p.1,p.2.map (Lf.drop d)) u:=by
 obtain⟨b,cs⟩:=p;cases b with
 |true=>obtain⟨us,e,h⟩:=h;exact⟨us,e,h.ff aO⟩
 |false=>exact eG.ff aO h
theorem RA.ff{d:Nat}(aO:∀ r,r≠d->ρ' r=ρ r){x:A}{u:Value}(h:RA w B aj ρ x u):RA w B aj ρ' (x.drop d) u:=by
 cases x with
 |undef=>trivial
 |skip=>exact h
 |lf x=>exact dY.ff aO h
 |agg cs=>exact RP.ff (p:=(true,cs)) aO h
 | cU xs=>
  obtain⟨us,e,hs,h⟩:=h
  refine⟨us,e,by rw[gB];exact hs,λj p hp=>?_⟩
  rw[dP]at hp;cases hy:xs[j]? with
  |none=>rw[hy]at hp;cases hp
  | some y=>
   rw[hy]at hp;injection hp with hp;subst hp;obtain⟨v,hv,r⟩:=h j y hy;exact⟨v,hv,r.ff aO⟩
 | ptr k=>
  have e:A.drop d (.ptr k)=(bif bP d k then .undef else .ptr k):=rfl;rw[e];cases hl:bP d k with
  |true=>trivial
  |false=>obtain⟨ad,e,h⟩:=h;exact⟨ad,e,(SR aO k hl).trans h⟩
 | view k s i j=>
  have e:A.drop d (.view k s i j)=(bif bP d k then .undef else .view k s i j):=rfl;rw[e];cases hl:bP d k with
  |true=>trivial
  |false=>obtain⟨A,n,c,h,g⟩:=h;exact⟨A,n,c,(ZZ aO k hl).trans h,g⟩
 | pk r n=>
  have e:A.drop d (.pk r n)=(bif Nat.beq r d then .undef else .pk r n):=rfl;rw[e];cases hl:Nat.beq r d with
  |true=>trivial
  | false=>
   have hr:r≠d:=by rintro rfl;simp at hl
   obtain⟨b,e,h⟩:=h;exact⟨b,(aO r hr).trans e,h⟩
 | aK r j=>
  have e:A.drop d (.aK r j)=(bif Nat.beq r d then .undef else .aK r j):=rfl;rw[e];cases hl:Nat.beq r d with
  |true=>trivial
  | false=>
   have hr:r≠d:=by rintro rfl;simp at hl
   obtain⟨b,off,e,h⟩:=h;exact⟨b,off,(aO r hr).trans e,h⟩
 |je cs=>exact h
 |mm f cs=>exact h
 | fn f cap=>
  have e:A.drop d (.fn f cap)=(bif cap.any (λp=>Nat.beq p.1 d)then .undef else .fn f cap):=rfl;rw[e];cases hl:cap.any (λp=>Nat.beq p.1 d)with
  |true=>trivial
  | false=>
   obtain⟨vs,e,hs,h⟩:=h
   refine⟨vs,e,hs,λj p hp=>?_⟩
   obtain⟨b,off,e2,h2⟩:=h j p hp;have hr:p.1≠d:=by
    rintro rfl;have:=List.any_eq_false.1 hl p (hJ hp);simp at this
   exact⟨b,off,(aO _ hr).trans e2,h2⟩
theorem fz.ff{d r:Nat}(aO:∀ r,r≠d->ρ' r=ρ r)(hr:r≠d){x:bg}(h:fz w B aj ρ r x):fz w B aj ρ' r (x.drop d):=by
 cases h with
 | aC b off cells e cs us jB hl hh hs hc=>
  refine .aC b off cells e _ us ((aO r hr).trans jB) hl hh (by rw[gB];exact hs) (λj x hx=>?_)
  rw[dP]at hx;cases hy:cs[j]? with
  |none=>rw[hy]at hx;cases hx
  | some y=>
   rw[hy]at hx;injection hx with hx;subst hx;exact⟨(hc j y hy).1,(hc j y hy).2.ff aO⟩
 |sl v y jB GH=>exact .sl v y ((aO r hr).trans jB) GH
 |mp b c es l jB hl hh he=>exact .mp b c es l ((aO r hr).trans jB) hl hh he
 | gh us xs jB hx=>
  refine .gh us _ ((aO r hr).trans jB) (λj x hj=>?_)
  rw[dP]at hj;cases hy:xs[j]? with
  |none=>rw[hy]at hj;cases hj
  | some y=>
   rw[hy]at hj;injection hj with hj;subst hj;exact(hx j y hy).ff aO
def cB{α:Type}(f:Nat->α)(d:Nat)(x:α):Nat->α:=λk=>bif Nat.beq k d then x else f k
theorem cG{α:Type}(f:Nat->α)(d:Nat)(x:α):cB f d x d=x:=by simp[cB]
theorem cV{α:Type}(f:Nat->α)(d:Nat)(x:α){k:Nat}(h:k≠d):cB f d x k=f k:=by
 have:Nat.beq k d=false:=by
  cases hb:Nat.beq k d with
  |false=>rfl
  |true=>exact absurd (cr hb) h
 simp only[cB,this,au]
def S.set(σ:S)(d:Nat)(x:A):S:={ σ with t:=cB σ.t d x }
def S.drop(σ:S)(d:Nat):S:=⟨λk=>(σ.t k).drop d,λr=>bif Nat.beq r d then none else (σ.m r).map (bg.drop d)⟩
def S.root(σ:S)(d:Nat)(x:bg):S:={ σ with m:=cB σ.m d (some x) }
theorem Rl.set{x:A}{v:Value}{d:Nat}(h:Rl w0 N aj ρ σ a w)(hx:RA w w0.heap.size aj ρ x v)(hd:d<N):Rl w0 N aj ρ (σ.set d x) (a.put (some d) v) w:=by
 refine⟨h.below,h.dF,h.root,λk=>?_,?_,h.defers,h.fix,h.ef⟩
 ·show RA w w0.heap.size aj ρ (cB σ.t d x k) ((a.tmps.setIfInBounds d v).getD k undef);by_cases hk:k=d
  ·subst hk;rw[cG,jn,Array.getElem?_setIfInBounds_self];have:k<a.tmps.size:=by rw[h.size];exact hd
   simp only[this,if_true,Option.getD_some];exact hx
  ·rw[cV _ _ _ hk,jn,Array.getElem?_setIfInBounds_ne (Ne.symm hk),<-jn];exact h.tmp k
 ·show (a.tmps.setIfInBounds d v).size=N;rw[Array.size_setIfInBounds];exact h.size
theorem Rl.grow(h:Rl w0 N aj ρ σ a w)(hb:Below w.heap.size w w')(hl:∀ b,b<w.heap.size->aD b=aj b)(hg:∀ b k,w.heap.size<=b->aD b=some k->b<w'.heap.size/\k≠[]):Rl w0 N aD ρ σ a w':=by
 have hk:∀b,b<w.heap.size->w'.heap[b]?=w.heap[b]?/\aD b=aj b:=λb mR=>⟨hb.block b mR,hl b mR⟩
 refine⟨h.below.trans (.of hb h.below.size),λb k nu=>?_,λr x hx=>(h.root r x hx).iz hb.size hk (λb k hb=>(h.dF b k hb).2.1),λk=>(h.tmp k).iz hb.size hk (λb k hb=>(h.dF b k hb).2.1),h.size,h.defers,h.fix,h.ef⟩
 rcases Nat.lt_or_ge b w.heap.size with bW|ox
 ·rw[hl b bW]at nu;have:=h.dF b k nu;exact⟨this.1,mg this.2.1 hb.size,this.2.2⟩
 ·have:=hg b k ox nu;exact⟨.inl (Nat.le_trans h.below.size ox),this.1,this.2⟩
theorem Rl.new{d:Nat}{x:bg}(h:Rl w0 N aj ρ σ a w)(l:Loc)(hx:fz w w0.heap.size aj (cB ρ d l) d x)(hF:w0.F d=none):Rl w0 N aj (cB ρ d l) ((σ.drop d).root d x) a w:=by
 have aO:∀r,r≠d->cB ρ d l r=ρ r:=λr hr=>cV _ _ _ hr
 refine⟨h.below,h.dF,λr y hy=>?_,λk=>(h.tmp k).ff aO,h.size,h.defers,λr l' hr=>(aO r (by rintro rfl;rw[hF]at hr;cases hr)).trans (h.fix r l' hr),h.ef⟩
 by_cases hr:r=d
 ·subst hr;have e:(cB (σ.drop r).m r (some x)) r=some x:=cG _ _ _;have hy:(cB (σ.drop r).m r (some x)) r=some y:=hy;rw[e]at hy;injection hy with hy;subst hy;exact hx
 ·have hy:(cB (σ.drop d).m d (some x)) r=some y:=hy;rw[cV _ _ _ hr]at hy;have hb:Nat.beq r d=false:=by
   cases hb:Nat.beq r d with
   |false=>rfl
   |true=>exact absurd (cr hb) hr
  simp only[S.drop,hb,au]at hy;cases hm:σ.m r with
  |none=>rw[hm]at hy;cases hy
  | some z=>
   rw[hm]at hy;injection hy with hy;subst hy;exact(h.root r z hm).ff aO hr
end
end Go.Proofs.YtecofnkoloihpaaGreat
namespace Go.Proofs.YtecofnkoloihpaaGreat
open Go.RowKit
set_option linter.unusedVariables false
def splice{α:Type}(l:af α)(j:Nat)(xs:af α):af α:=l.take j++xs++l.drop (j+xs.length)
theorem ta{α:Type}(l:af α)(j:Nat)(xs:af α)(h:j+xs.length<=l.length):(splice l j xs).length=l.length:=by
 simp[splice];omega
theorem w7{α:Type}(l:af α)(j:Nat)(xs:af α)(h:j+xs.length<=l.length)(n:Nat):
  (splice l j xs)[n]?=if n<j then l[n]? else if n<j+xs.length then xs[n-j]? else l[n]?:=by
 unfold splice;have ht:(l.take j).length=j:=by simp;omega
 split
 next hn=>rw[List.append_assoc,List.getElem?_append_left (by rw[ht];exact hn),List.getElem?_take,bB hn]
 ·split
  next h1 h2=>rw[List.append_assoc,List.getElem?_append_right (by rw[ht];omega),ht,List.getElem?_append_left (by omega)]
  next h1 h2=>rw[List.getElem?_append_right (by simp;omega),List.getElem?_drop];congr 1;simp;omega
structure w8 (w w':World) (bt:Nat):Prop where
 size:w'.heap.size=w.heap.size
 os:w'.os=w.os
 tape:w'.tape=w.tape
 output:w'.output=w.output
 block:∀k,k≠bt->w'.heap[k]?=w.heap[k]?
theorem Mj(w:World)(b o:Nat)(l:af Value):w8 w (w.setCells b o l) b:=by
 have g:=YZ b l o w;have s:=YY b l o w
 refine⟨s,g.os,g.tape,g.output,λk hk=>?_⟩
 rcases Nat.lt_or_ge k w.heap.size with bW|ox
 ·exact g.block k bW (by intro e;injection e with e;exact hk e)
 ·rw[Array.getElem?_eq_none ox,Array.getElem?_eq_none (by rw[s];exact ox)]
section
variable {w w':World} {w0:Wd} {B N:Nat} {aj:bM} {ρ:Nat->Loc} {m m':Nat->ak bg} {σ:S} {a:Act} {bt:Nat} {kt:af Nat}
def td(w w':World)(aj:bM)(ρ:Nat->Loc):Prop:=∀k ad v,addrAt w aj ρ k=some ad->w.cell? ad=some v->ow v=true->w'.cell? ad=some v
theorem SS(hC:td w w' aj ρ):∀ (k:af Nat) (ad:Addr),addrAt w aj ρ k=some ad->addrAt w' aj ρ k=some ad
 |[],_,h=>h
 |[_],_,h=>h
 |[_,_],_,h=>h
 |[_,_,_],_,h=>by simp only[addrAt]at h ⊢;exact h
 |[j,i,s,r],_,h=>by simp only[addrAt]at h ⊢;exact h
 | j :: i :: s :: x :: y :: q,ad,h=>by
  simp only[addrAt]at h ⊢;cases ha:addrAt w aj ρ (x::y::q)with
  |none=>rw[ha]at h;cases h
  | some p5=>
   rw[SS hC _ _ ha];rw[ha]at h;cases hc:w.cell? p5 with
   |none=>simp[hc]at h
   | some v=>
    simp only[Option.bind_some,hc]at h;have hv:ow v=true:=by
     split at h
     next e=>injection e with e;subst e;rfl
     ·cases h
    simp only[Option.bind_some,hC _ _ _ ha hc hv];exact h
theorem Z0(hC:td w w' aj ρ)(k:af Nat)(u:Value)(hu:ow u=true)(h:cJ w aj ρ k=some u):cJ w' aj ρ k=some u:=by
 match k,h with
 |[],h=>simp[cJ,addrAt]at h
 |[r],h=>exact h
 | x :: y :: q,h=>
  simp only[cJ]at h ⊢;cases ha:addrAt w aj ρ (x::y::q)with
  |none=>rw[ha]at h;cases h
  | some ad=>
   rw[SS hC _ _ ha];rw[ha]at h;have h:w.cell? ad=some u:=h;exact hC _ _ _ ha h hu
theorem dY.wrote{x:Lf}{u:Value}(h:dY w B aj ρ x u)(hw:w8 w w' bt)(hl:aj bt=some kt)(hC:td w w' aj ρ):dY w' B aj ρ x u:=by
 cases x with
 |v x=>exact⟨h.1,h.2.apart hl (.inr h.1) (Nat.le_of_eq hw.size.symm) hw.block⟩
 |own k=>exact⟨h.1,Z0 hC k u h.1 h.2⟩
 |dead=>trivial
theorem eG.wrote{cs:af Lf}{us:Array Value}(h:eG w B aj ρ cs us)(hw:w8 w w' bt)(hl:aj bt=some kt)(hC:td w w' aj ρ):eG w' B aj ρ cs us:=
 ⟨h.1,λj x hx=>let ⟨u,hu,r⟩:=h.2 j x hx;⟨u,hu,r.wrote hw hl hC⟩⟩
theorem RP.wrote{p:Bool×af Lf}{u:Value}(h:RP w B aj ρ p u)(hw:w8 w w' bt)(hl:aj bt=some kt)(hC:td w w' aj ρ):RP w' B aj ρ p u:=by
 obtain⟨b,cs⟩:=p;cases b with
 |true=>obtain⟨us,e,h⟩:=h;exact⟨us,e,h.wrote hw hl hC⟩
 |false=>exact eG.wrote h hw hl hC
theorem RF.wrote{cs:af V}{u:Value}(h:RF w B aj cs u)(hw:w8 w w' bt)(hl:aj bt=some kt):RF w' B aj cs u:=by
 obtain⟨b,off,e,hb,fU,h⟩:=h;have br:b≠bt:=by rintro rfl;rw[hl]at fU;cases fU
 refine⟨b,off,e,by rw[hw.size];exact hb,fU,λj x hx=>?_⟩
 obtain⟨hf,v,hv,hr⟩:=h j x hx;exact⟨hf,v,(mH (a:=⟨b,_,none⟩) (hw.block b br)).trans hv,hr.apart hl (.inr hf) (Nat.le_of_eq hw.size.symm) hw.block⟩
theorem RA.wrote{x:A}{u:Value}(h:RA w B aj ρ x u)(hw:w8 w w' bt)(hl:aj bt=some kt)(hC:td w w' aj ρ):RA w' B aj ρ x u:=by
 cases x with
 |undef=>trivial
 |skip=>exact h
 |lf x=>exact dY.wrote h hw hl hC
 |agg cs=>exact RP.wrote (p:=(true,cs)) h hw hl hC
 |cU xs=>obtain⟨us,e,hs,h⟩:=h;exact⟨us,e,hs,λj p hp=>let ⟨v,hv,r⟩:=h j p hp;⟨v,hv,r.wrote hw hl hC⟩⟩
 |ptr k=>obtain⟨ad,e,h⟩:=h;exact⟨ad,e,SS hC _ _ h⟩
 |view k s i j=>obtain⟨A,n,c,h,g⟩:=h;exact⟨A,n,c,Z0 hC k _ rfl h,g⟩
 |pk r n=>exact h
 |aK r j=>exact h
 |je cs=>exact RF.wrote h hw hl
 |mm f cs=>obtain⟨pv,e,h⟩:=h;exact⟨pv,e,h.wrote hw hl⟩
 |fn f cap=>exact h
theorem fz.wrote{r:Nat}{x:bg}(h:fz w B aj ρ r x)(hw:w8 w w' bt)(hl:aj bt=some kt)(hC:td w w' aj ρ)(hr:¬ [r] <:+ kt):fz w' B aj ρ r x:=by
 cases h with
 | aC b off cells e cs us aO fU hh hs hc=>
  have br:b≠bt:=by rintro rfl;rw[hl]at fU;injection fU with fU;subst fU;exact hr (List.suffix_refl _)
  exact .aC b off cells e cs us aO fU ((hw.block b br).trans hh) hs (λj x hx=>⟨(hc j x hx).1,(hc j x hx).2.wrote hw hl hC⟩)
 |sl v y aO dG=>exact .sl v y aO (dG.apart hl (.inl hr) (Nat.le_of_eq hw.size.symm) hw.block)
 | mp b c es l aO fU hh he=>
  have br:b≠bt:=by rintro rfl;rw[hl]at fU;injection fU with fU;subst fU;exact hr (List.suffix_refl _)
  exact .mp b c es l aO fU ((hw.block b br).trans hh) he
 |gh us xs aO hx=>exact .gh us xs aO λj x hj=>(hx j x hj).wrote hw hl hC
theorem Rl.wrote(h:Rl w0 N aj ρ σ a w)(hw:w8 w w' bt)(hl:aj bt=some kt)(hC:td w w' aj ρ)(hm:∀ r x,m' r=some x->fz w' w0.heap.size aj ρ r x):Rl w0 N aj ρ ⟨σ.t,m'⟩ a w':=by
 have hb:=(h.dF bt kt hl).1;have br:∀ k,k<w0.heap.size->w0.L k=none->k≠bt:=by
  rintro k hk hL rfl;rcases hb with hb|hb
  ·exact absurd hk (Nat.not_lt.2 hb)
  ·exact hb hL
 refine⟨⟨hw.os.trans h.below.os,hw.tape.trans h.below.tape,hw.output.trans h.below.output,by rw[hw.size];exact h.below.size,λk hk hL=>(hw.block k (br k hk hL)).trans (h.below.block k hk hL)⟩,λb k nu=>?_,hm,λk=>(h.tmp k).wrote hw hl hC,h.size,h.defers,h.fix,h.ef⟩
 rw[hw.size];exact h.dF b k nu
theorem Z1{r r':Nat}(h:r'≠r):¬ [r'] <:+ [r]:=by
 intro hs;have:=hs.eq_of_length rfl;injection this with this;exact h this
theorem Rl.GI{r j:Nat}{cs xs:af Lf}{us:Array Value}(h:Rl w0 N aj ρ σ a w)(hm:σ.m r=some (.aC cs))(hx:eG w w0.heap.size aj ρ xs us)(hj:j+xs.length<=cs.length):
  ∃b off,ρ r = .aC b off/\w.there b (off+j) us.size/\Rl w0 N aj ρ ⟨σ.t,cB σ.m r (some (.aC (splice cs j xs)))⟩ a (w.setCells b (off+j) us.toList):=by
 have hr:=h.root r _ hm;generalize he:bg.aC cs=x at hr;cases hr with
 |sl=>cases he
 |mp=>cases he
 |gh=>cases he
 | aC b off cells e fy u aO hl hh hs hc=>
  injection he with he;subst he;have hlen:us.size=xs.length:=hx.1;have iG:off+j+us.toList.length<=cells.size:=by rw[mI,hlen];omega
  have hW:=Mj w b (off+j) us.toList;obtain⟨c2,ga,oy⟩:=FZ b e us.toList (off+j) w cells hh iG;have hC:td w (w.setCells b (off+j) us.toList) aj ρ:=by
   intro k ad v ha hv gQ;obtain⟨j',i',s',q,rfl,hq,_,_,hh'⟩:=zm k ad ha;have br:ad.block≠b:=by
    intro e;rw[e,hl]at hq;injection hq with hq;obtain⟨v',eM⟩:=hh' r hq.symm;rw[aO]at eM;cases eM
   exact(mH (hW.block _ br)).trans hv
  refine⟨b,off,aO,λn hn=>⟨?_,frozen_of_row w b _ cells e hh⟩,h.wrote hW hl hC λr' y hy=>?_⟩
  ·rw[cell_of_row w b _ cells e _ hh];simp;omega
  ·by_cases mS:r'=r
   ·subst mS;rw[cG]at hy;injection hy with hy;subst hy
    refine .aC b off c2 e _ (λn=>if n<j then u n else if n<j+xs.length then us.getD (n-j) undef else u n) aO hl ga ?_ λn x xb=>?_
    ·rw[ta _ _ _ hj,<-mI,oy];have:=ta cells.toList (off+j) us.toList (by simpa using iG);simp only[splice]at this;rw[this]
     simpa using hs
    ·have e2:c2[off+n]?=(splice cells.toList (off+j) us.toList)[off+n]?:=by
      rw[show c2[off+n]?=c2.toList[off+n]? by simp,oy];rfl
     rw[e2,w7 _ _ _ (by simpa using iG)];rw[w7 _ _ _ hj]at xb;by_cases h1:n<j
     ·rw[bB (by omega)];simp only[h1,if_true]at xb ⊢;refine⟨?_,(hc n x xb).2.wrote hW hl hC⟩;rw[nh];exact(hc n x xb).1
     ·by_cases h2:n<j+xs.length
      ·rw[cm (by omega),bB (by rw[mI,hlen];omega)];simp only[h1,h2,if_true,if_false]at xb ⊢;obtain⟨v,hv,hr⟩:=hx.2 (n-j) x xb;have hg:us.getD (n-j) undef=v:=by rw[jn,hv];rfl
       rw[hg];refine⟨?_,hr.wrote hW hl hC⟩;rw[show off+n-(off+j)=n-j by omega,nh];exact hv
      ·rw[cm (by omega),cm (by rw[mI,hlen];omega)];simp only[h1,h2,if_false]at xb ⊢;refine⟨?_,(hc n x xb).2.wrote hW hl hC⟩;rw[nh];exact(hc n x xb).1
   ·rw[cV _ _ _ mS]at hy;exact(h.root r' y hy).wrote hW hl hC (Z1 mS)
inductive zn (m:Nat->Option bg):List Nat->V->(Nat->Option bg)->Prop
 |root (r:Nat) (y0 y:V) (h:m r=some (.sl y0)):zn m [r] y (cB m r (some (.sl y)))
 | elem (j i:Nat) (q:List Nat) (t:TC) (o:Nat) (qn:Bool) (l:List (T t)) (y:V) (e:T t) (m':Nat->Option bg) (h:vL m q (.sl t (o+2) qn l)) (hi:i<l.length) (hj:j<aB t)
   (hd:dec t o (splice (enc t o l[i]) j [y])=some e) (hp:zn m q (.sl t (o+2) qn (l.set i e)) m'):zn m (j::i::aB t::q) y m'
theorem SU{α:Type}{a b c:af α}(ha:a <:+ c)(hb:b <:+ c)(h:a.length=b.length):a=b:=by
 obtain⟨x,hx⟩:=ha;obtain⟨y,hy⟩:=hb;rw[<-hx]at hy;exact((List.append_inj' hy h.symm).2).symm
theorem RV.Mk{q:af Nat}{t:TC}{o:Nat}{qn:Bool}{l:af (T t)}{i j:Nat}{xs:af V}{e:T t}{b cap:Nat}{cs fy:Array Value}{u us:Nat->Nat->Value}
  (hl:aj b=some q) (hh:w'.heap[b]?=some (.cells fy (tid t) (0,0))) (hs:fy.size=cap*aB t) (hn:l.length<=cap) (hm:cap<=maxLen/\(qn=true->cap=l.length)) (hi:i<l.length) (hj:j+xs.length<=aB t)
  (hd:dec t o (splice (enc t o l[i]) j xs)=some e)
  (hc:∀i' (h:i'<l.length) (j':Nat) x,(enc t o l[i'])[j']?=some x->¬ (i'=i/\j<=j'/\j'<j+xs.length)->fy[i'*aB t+j']?=some (u i' j')/\RV w' B aj (j'::i'::aB t::q) x (u i' j'))
  (hx:∀(n:Nat) x,xs[n]?=some x->fy[i*aB t+(j+n)]?=some (us i (j+n))/\RV w' B aj ((j+n)::i::aB t::q) x (us i (j+n))):
  RV w' B aj q (.sl t (o+2) qn (l.set i e)) (.slice (some ⟨b,0,none⟩) l.length cap):=by
 have hlen:(l.set i e).length=l.length:=ni;have key:∀ i' (h:i'<(l.set i e).length) (j':Nat) x,(enc t o (l.set i e)[i'])[j']?=some x->
   ∃v,fy[i'*aB t+j']?=some v/\RV w' B aj (j'::i'::aB t::q) x v:=by
  intro i' h j' x cW;rw[List.getElem_set]at cW;by_cases Z2:i=i'
  ·subst Z2;rw[bB rfl]at cW;have hk:=nW t o _ e hd;have pg:j'<(enc t o e).length:=(dS.1 cW).1;rw[<-hk.1]at pg;have hy:=cu pg;generalize (splice (enc t o l[i]) j xs)[j']=y at hy;have hw:=hk.2 j' y x hy cW;rw[w7 _ _ _ (by rw[lA];exact hj)]at hy;by_cases h1:j'<j
   ·rw[bB h1]at hy;obtain⟨h3,h4⟩:=hc i hi j' y hy (by omega);exact⟨_,h3,h4.wk hw⟩
   ·by_cases h2:j'<j+xs.length
    ·rw[cm h1,bB h2]at hy;obtain⟨h3,h4⟩:=hx (j'-j) y hy;rw[show j+(j'-j)=j' by omega]at h3 h4;exact⟨_,h3,h4.wk hw⟩
    ·rw[cm h1,cm h2]at hy;obtain⟨h3,h4⟩:=hc i hi j' y hy (by omega);exact⟨_,h3,h4.wk hw⟩
  ·rw[cm Z2]at cW;obtain⟨h3,h4⟩:=hc i' (by rw[<-hlen];exact h) j' x cW (by omega);exact⟨_,h3,h4⟩
 rw[<-hlen]
 refine .own q t o qn (l.set i e) b cap fy (λi' j'=>(fy[i'*aB t+j']?).getD undef) hl hh hs (by rw[hlen];exact hn) ⟨hm.1,λh=>by rw[hlen];exact hm.2 h⟩ (λi' h j' x cW=>?_) (λi' h j' x cW=>?_)
 ·obtain⟨v,hv,_⟩:=key i' h j' x cW;rw[hv];rfl
 ·obtain⟨v,hv,hr⟩:=key i' h j' x cW;rw[hv];exact hr
theorem Z3{r:Nat}{q:af Nat}(h:[r] <:+ q){r':Nat}(h':[r'] <:+ q):r'=r:=by
 have:=SU h' h rfl;injection this
theorem zn.ok{q:af Nat}{y:V}(h:zn m q y m')(hm:∀ r x,m r=some x->fz w B aj ρ r x)(hw:w8 w w' bt)(hl:aj bt=some kt)(hq:q <:+ kt)(hC:td w w' aj ρ){hv:Value}(fA:cJ w aj ρ q=some hv)(hy:RV w' B aj q y hv):
  ∀r x,m' r=some x->fz w' B aj ρ r x:=by
 induction h generalizing hv with
 | root r y0 y h=>
  intro r' x hx;by_cases hr:r'=r
  ·subst hr;rw[cG]at hx;injection hx with hx;subst hx;simp only[cJ]at fA;cases aO:ρ r' with
   |aC b off=>rw[aO]at fA;cases fA
   |cq us=>rw[aO]at fA;cases fA
   | eK v=>
    rw[aO]at fA;injection fA with fA;subst fA;exact .sl v y aO hy
  ·rw[cV _ _ _ hr]at hx;exact(hm r' x hx).wrote hw hl hC (λhs=>hr (Z3 hq hs))
 | elem j i q t o qn l y e m' h hi hj hd hp ih=>
  obtain⟨eM,Bm,dG⟩:=h.ok hm;have hqk:q <:+ kt:=List.IsSuffix.trans ⟨[j,i,aB t],rfl⟩ hq;cases dG with
  |c9=>simp at hi
  |dm=>simp at hi
  |dD=>simp at hi
  |az _ _ _ _ _ _ _ _ _ ho=>omega
  | own _ _ _ _ _ b cap cs us dH hh hs hn tf hc hr=>
   have br:b≠bt:=by
    rintro rfl;rw[hl]at dH;injection dH with dH;subst dH;have:=hq.length_le;simp at this;omega
   have hz:=Nat.le_of_eq hw.size.symm
   refine ih hqk Bm (RV.Mk (us:=λ_ _=>hv) (u:=us) (cs:=cs) (xs:=[y]) dH ((hw.block b br).trans hh) hs hn tf hi (show j+1<=aB t from hj) hd (λi' h' j' x hx GJ=>⟨hc i' h' j' x hx,(hr i' h' j' x hx).apart hl (.inl λny=>GJ ?_) hz hw.block⟩) (λn x hx=>?_))
   ·have:=SU ny hq rfl;injection this with e1 e2;injection e2 with e2 _;subst e1 e2;exact⟨rfl,gj _,by simp⟩
   ·cases n with
    |succ n=>simp at hx
    | zero=>
     simp at hx;subst hx;refine⟨?_,hy⟩;rw[Mi,Bl j i (aB t) Bm dH]at fA;have fA:w.cell? ⟨b,i*aB t+j,none⟩=some hv:=fA;rw[cell_of_row w b _ cs _ _ hh]at fA;exact fA
theorem RV.Z4{q:af Nat}{x:V}{v:Value}(h:RV w B aj q x v)(hx:x.plain=true):ow v=false:=by
 cases h<;>first|rfl|cases hx
theorem RV.uk{q q':af Nat}{x:V}{v:Value}{B':Nat}{aD:bM}(h:RV w B aj q x v)(hx:x.plain=true):RV w' B' aD q' x v:=by
 cases h<;>first|exact .int _ _ _|exact .bool _ _|exact .str _ _|cases hx
theorem Rl.akk{j i:Nat}{q:af Nat}{t:TC}{o:Nat}{qn:Bool}{l:af (T t)}{xs:af V}{us:Array Value}{e:T t}(h:Rl w0 N aj ρ σ a w)(hg:vL σ.m q (.sl t (o+2) qn l))(hi:i<l.length)(hj:j+xs.length<=aB t)
  (hd:dec t o (splice (enc t o l[i]) j xs)=some e) (hold:∀(n:Nat) x,n<xs.length->(enc t o l[i])[j+n]?=some x->x.plain=true) (hxp:∀x∈xs,x.plain=true) (gv:us.size=xs.length) (hx:∀(n:Nat) x,xs[n]?=some x->∃u,us[n]?=some u/\RV w w0.heap.size aj [] x u)
  (hp:zn σ.m q (.sl t (o+2) qn (l.set i e)) m'):
  ∃b,addrAt w aj ρ (j::i::aB t::q)=some ⟨b,i*aB t+j,none⟩/\w.there b (i*aB t+j) us.size/\Rl w0 N aj ρ ⟨σ.t,m'⟩ a (w.setCells b (i*aB t+j) us.toList):=by
 obtain⟨eM,Bm,dG⟩:=hg.ok h.root;cases dG with
 |c9=>simp at hi
 |dm=>simp at hi
 |dD=>simp at hi
 |az _ _ _ _ _ _ _ _ _ ho=>omega
 | own _ _ _ _ _ b cap cs u dH hh hs hn tf hc hr=>
  have rZ:i*aB t+aB t<=cap*aB t:=by
   have:(i+1)*aB t<=cap*aB t:=kG _ (by omega);rw[jo]at this;exact this
  have iG:i*aB t+j+us.toList.length<=cs.size:=by rw[mI,gv,hs];omega
  have hW:=Mj w b (i*aB t+j) us.toList;obtain⟨c2,ga,oy⟩:=FZ b (tid t) us.toList (i*aB t+j) w cs hh iG;have um:∀ n,c2[n]?=if n<i*aB t+j then cs[n]? else if n<i*aB t+j+xs.length then us[n-(i*aB t+j)]? else cs[n]?:=by
   intro n;have e2:c2[n]?=(splice cs.toList (i*aB t+j) us.toList)[n]?:=by
    rw[show c2[n]?=c2.toList[n]? by simp,oy];rfl
   rw[e2,w7 _ _ _ (by simpa using iG),mI,gv];simp
  have GK:c2.size=cs.size:=by
   rw[<-mI,oy];have:=ta cs.toList (i*aB t+j) us.toList (by simpa using iG);simp only[splice]at this;rw[this];simp
  have hC:td w (w.setCells b (i*aB t+j) us.toList) aj ρ:=by
   intro k ad v ha hv gQ;by_cases br:ad.block=b
   ·obtain⟨j',i',s',q',rfl,mQ,akl,qW,_⟩:=zm k ad ha;have jC:ad=⟨b,ad.off,none⟩:=by cases ad;simp_all
    rw[jC,cell_of_row w b _ cs _ _ hh]at hv;rw[jC,cell_of_row _ b _ c2 _ _ ga,um];by_cases h1:ad.off<i*aB t+j
    ·rw[bB h1];exact hv
    ·by_cases h2:ad.off<i*aB t+j+xs.length
     ·exfalso;have hjs:ad.off-(i*aB t+j)<xs.length:=by omega
      have Bn:j+(ad.off-(i*aB t+j))<(enc t o l[i]).length:=by rw[lA];omega
      have hy:=cu Bn;generalize (enc t o l[i])[j+(ad.off-(i*aB t+j))]=y at hy;have iP:=hold _ y hjs hy;have h3:=hc i hi _ y hy;rw[show i*aB t+(j+(ad.off-(i*aB t+j)))=ad.off by omega]at h3;rw[hv]at h3;injection h3 with h3;have:=(hr i hi _ y hy).Z4 iP;rw[<-h3,gQ]at this;cases this
     ·rw[cm h1,cm h2];exact hv
   ·exact(mH (hW.block _ br)).trans hv
  refine⟨b,Bl j i (aB t) Bm dH,λn p6=>⟨?_,frozen_of_row w b _ cs _ hh⟩,h.wrote hW dH hC (hp.ok h.root hW dH (List.suffix_refl _) hC Bm ?_)⟩
  ·rw[cell_of_row w b _ cs _ _ hh];simp;omega
  ·refine RV.Mk (u:=u) (us:=λ_ n=>us.getD (n-j) undef) (cs:=cs) (xs:=xs) dH ga (GK.trans hs) hn tf hi hj hd (λi' h' j' x cW GJ=>?_) (λn x cW=>?_)
   ·have pg:j'<aB t:=by have:=(dS.1 cW).1;rwa [lA]at this
    refine⟨?_,(hr i' h' j' x cW).apart dH (.inl λny=>?_) (Nat.le_of_eq hW.size.symm) hW.block⟩
    ·rw[um];have zo:¬ (¬ i'*aB t+j'<i*aB t+j/\i'*aB t+j'<i*aB t+j+xs.length):=by
      rintro⟨h1,h2⟩;rcases Nat.lt_trichotomy i' i with bW|heq|D5
      ·have:(i'+1)*aB t<=i*aB t:=kG _ bW;rw[jo]at this;omega
      ·subst heq;exact GJ ⟨rfl,by omega,by omega⟩
      ·have:(i+1)*aB t<=i'*aB t:=kG _ D5;rw[jo]at this;omega
     split
     ·exact hc i' h' j' x cW
     ·rw[cm (by omega)];exact hc i' h' j' x cW
    ·have:=ny.length_le;simp at this;omega
   ·obtain⟨v,hv,D6⟩:=hx n x cW;have p6:n<xs.length:=(dS.1 cW).1;have uo:us.getD (j+n-j) undef=v:=by rw[show j+n-j=n by omega,jn,hv];rfl
    show c2[_]?=some (us.getD (j+n-j) undef)/\RV _ _ _ _ _ (us.getD (j+n-j) undef);rw[uo,um,cm (by omega),bB (by omega)];refine⟨?_,D6.uk (hxp x (hJ cW))⟩;rw[show i*aB t+(j+n)-(i*aB t+j)=n by omega];exact hv
end
end Go.Proofs.YtecofnkoloihpaaGreat
namespace Go.Proofs.YtecofnkoloihpaaGreat
open Go.RowKit
set_option linter.unusedVariables false
def SV:Value->A
 |.bool b=>.lf (.v (.bool b))
 |.int k n=>.lf (.v (.int k n))
 |.string s=>.lf (.v (.str s))
 |.slice none 0 0=>.lf (.v .nil)
 |_=>.undef
def aH(σ:S):Operand->A
 |.tmp t=>σ.t t
 |.const v=>SV v
 |.func f=>.fn f []
 |.global _=>.undef
def jD{X:Type}(N:Nat)(σ:S)(dst:ak Tmp)(x:A)(k:S->ak X):ak X:=
 match dst with
 |none=>k σ
 |some d=>bif Nat.blt d N then k (σ.set d x)else none
def oz(P:Program)(w0:Wd)(N:Nat)(o:Oper)(σ aA:S):Prop:=
 ∀a w K Q,R w0 N σ a w->(∀a' w',R w0 N aA a' w'->K a' w')->o.wp P a w K Q
section
variable {P:Program} {w:World} {w0:Wd} {B N:Nat} {aj:bM} {ρ:Nat->Loc} {σ:S} {a:Act} {X:Type} {r:X} {k:S->ak X} {o:Oper}
theorem akm(v:Value):RA w B aj ρ (SV v) v:=by
 unfold SV;split
 ·exact⟨rfl,.bool _ _⟩
 ·exact⟨rfl,.int _ _ _⟩
 ·exact⟨rfl,.str _ _⟩
 ·exact⟨rfl,.nil _⟩
 ·trivial
theorem Rl.aH(h:Rl w0 N aj ρ σ a w)(x:Operand):RA w w0.heap.size aj ρ (aH σ x) (a.eval x):=by
 cases x with
 |tmp t=>exact h.tmp t
 |const v=>exact akm v
 |func f=>exact⟨#[],rfl,rfl,by simp⟩
 |global g=>trivial
theorem oz.val{x:A}(hk:jD N σ o.dst x k=some r)(h:∀ aj ρ a w,Rl w0 N aj ρ σ a w->∃ v,(execOp a.eval o).run P w = .ok (.value v) w/\RA w w0.heap.size aj ρ x v):∃ aA,k aA=some r/\oz P w0 N o σ aA:=by
 unfold jD at hk;split at hk
 ·rename_i hd
  refine⟨σ,hk,λa w K Q hR hK=>?_⟩
  obtain⟨aj,ρ,hl⟩:=hR;obtain⟨v,hv,hx⟩:=h aj ρ a w hl;unfold Oper.wp;rw[hv,Oper.upon_value,hd];exact hK _ _ ⟨aj,ρ,hl⟩
 ·rename_i d hd;cases hN:Nat.blt d N with
  |false=>rw[hN]at hk;cases hk
  | true=>
   rw[hN]at hk
   refine⟨_,hk,λa w K Q hR hK=>?_⟩
   obtain⟨aj,ρ,hl⟩:=hR;obtain⟨v,hv,hx⟩:=h aj ρ a w hl;unfold Oper.wp;rw[hv,Oper.upon_value,hd];exact hK _ _ ⟨aj,ρ,hl.set hx (by have:=cT hN;omega)⟩
/-! Contents of leaves. -/
def gR{X:Type}(m:Nat->ak bg):af Nat->(V->ak X)->ak X
 | [r],k=>match m r with
  |some (.sl y)=>k y
  |_=>none
 | j :: i :: s :: q,k=>gR m q λy=>match y with
  |.sl t (o+2) _ l=>if s=aB t then (if h:i<l.length then (match (enc t o l[i])[j]? with|some z=>k z|none=>none)else none)else none
  |_=>none
 |_,_=>none
theorem th{m:Nat->ak bg}:∀ (q:af Nat) (k:V->ak X),gR m q k=some r->∃ y,vL m q y/\k y=some r
 |[],_,h=>by simp[gR]at h
 | [x],k,h=>by
  simp only[gR]at h;split at h
  next y hy=>exact⟨y,.root x y hy,h⟩
  ·cases h
 |[_,_],_,h=>by simp[gR]at h
 | j :: i :: s :: q,k,h=>by
  simp only[gR]at h;obtain⟨y,hy,h2⟩:=th q _ h;clear h;split at h2
  ·split at h2
   ·rename_i hs;subst hs;split at h2
    ·rename_i hi;split at h2
     next z hz=>exact⟨z,.elem j i q _ _ _ _ z hy hi hz,h2⟩
     ·cases h2
    ·cases h2
   ·cases h2
  ·cases h2
def kK{X:Type}(σ:S)(x:Lf)(k:V->ak X):ak X:=
 match x with
 |.v y=>k y
 |.own q=>gR σ.m q k
 |.dead=>none
theorem RV.part{q:af Nat}{tc:TC}{g:Nat}{qn:Bool}{xs:af (T tc)}{A:ak Addr}{n c a h:Nat}(hr:RV w B aj q (.sl tc g qn xs) (.slice A n c))(hg:g<2)(h1:a<=h)(h2:h<=xs.length):RV w B aj q (.sl tc g false ((xs.take h).drop a)) (sliced A a h c (aB tc))/\n=xs.length/\xs.length<=c:=by
 have hlen:((xs.take h).drop a).length=h-a:=by simp;omega
 cases hr with
 | c9=>
  have:a=0:=by simp at h2;omega
  have:h=0:=by simpa using h2
  subst_vars
  exact⟨.c9 _ _ _,rfl,gj _⟩
 | dm=>
  have:h=0:=by simpa using h2
  subst this;have:a=0:=by omega
  subst this;exact⟨by unfold sliced;split<;>exact .dm _ _ _ _ _ hg,rfl,Nat.zero_le _⟩
 | dD=>
  have:h=0:=by simpa using h2
  subst this;have:a=0:=by omega
  subst this;exact⟨by unfold sliced;split<;>exact .dm _ _ _ _ _ hg,rfl,Nat.zero_le _⟩
 |own=>omega
 | az _ _ _ _ _ b off cap u ho hl hb hB eA hc hr=>
  refine⟨?_,rfl,eA⟩;by_cases he:a=h
  ·subst he;have e0:(xs.take a).drop a=[]:=List.eq_nil_of_length_eq_zero (by rw[hlen];omega);rw[e0];unfold sliced;rw[Nat.sub_self];split<;>exact .dm _ _ _ _ _ hg
  ·unfold sliced;rw[cm (by omega),<-hlen];have yQ:(some (⟨b,off,none⟩:Addr)).map (·.add (a*aB tc))=some ⟨b,off+a*aB tc,none⟩:=by
    simp only[jM];unfold Addr.add;split<;>simp_all
   rw[yQ];have kL:∀ i (hi:i<((xs.take h).drop a).length),((xs.take h).drop a)[i]=xs[a+i]'(by omega):=by
    intro i hi;rw[List.getElem_drop,List.getElem_take]
   refine .az _ _ _ _ _ b (off+a*aB tc) (c-a) (λi j=>u (a+i) j) ho hl hb hB (by omega) (λi hi j x hx=>?_) (λi hi j x hx=>?_)
   ·rw[kL i hi]at hx;have:=hc (a+i) (by omega) j x hx;rw[<-this];congr 2;rw[Nat.add_mul];omega
   ·rw[kL i hi]at hx;exact hr (a+i) (by omega) j x hx
def Z5(s i j:Nat):V->ak V
 |.sl t _ _ l=>bif Nat.beq s (aB t)then some (.sl t 0 false ((l.take j).drop i))else none
 |_=>none
def tj{X:Type}(σ:S)(q:af Nat)(s i j:Nat)(k:V->ak X):ak X:=
 gR σ.m q λy=>match Z5 s i j y with
  |some z=>k z
  |none=>none
def qX{X:Type}(σ:S)(y:A)(k:V->ak X):ak X:=
 match y with
 |.lf l=>kK σ l k
 |.view q s i j=>tj σ q s i j k
 |_=>none
theorem Z6{q:af Nat}{s i j:Nat}{k:V->ak X}(h:tj σ q s i j k=some r):∃ z,k z=some r/\z.az=true/\∀ w0 N aj ρ a w,Rl w0 N aj ρ σ a w->∀ u,RA w w0.heap.size aj ρ (.view q s i j) u->∀ B',RV w B' (λ_=>none) [] z u:=by
 obtain⟨y,hy,h2⟩:=th q _ h;clear h;split at h2
 ·rename_i z hz;unfold Z5 at hz;split at hz
  ·rename_i t g qn l;cases hs:Nat.beq s (aB t)with
   |false=>rw[hs]at hz;cases hz
   | true=>
    rw[hs,aq]at hz;obtain rfl:=cr hs;injection hz with hz;subst hz
    refine⟨_,h2,rfl,λw0 N aj ρ a w hR u hu B'=>?_⟩
    obtain⟨A,n,c,hv,h1,h3,rfl⟩:=hu;obtain⟨v,eM,hr⟩:=hy.ok hR.root;rw[hv]at eM;injection eM with eM;subst eM;have hf:RV w B' (λ_=>none) [] (.sl t 0 qn l) (.slice A n c):=hr.iO;have hn:n=l.length:=by cases hf<;>rfl
    exact(hf.part (by omega) h1 (by omega)).1
  ·cases hz
 ·cases h2
def vK{X:Type}(x:A)(k:V->ak X):ak X:=
 match x with
 |.lf (.v y)=>k y
 |_=>none
theorem Ml{x:A}{k:V->ak X}(h:vK x k=some r):∃ y,x = .lf (.v y)/\k y=some r:=by
 unfold vK at h;split at h
 ·exact⟨_,rfl,h⟩
 ·cases h
theorem RV.jf{q:af Nat}{k:IntKind}{n:Int}{u:Value}(h:RV w B aj q (.int k n) u):u = .int k n:=by cases h;rfl
theorem RV.zq{q:af Nat}{n:Bool}{u:Value}(h:RV w B aj q (.bool n) u):u = .bool n:=by cases h;rfl
theorem RV.xd{q:af Nat}{n:ByteArray}{u:Value}(h:RV w B aj q (.str n) u):u = .string n:=by cases h;rfl
/-! Arithmetic and comparison. -/
def bH(n:Nat):Bool:=decide (n<1073741824)
def oA{X:Type}(P:Program)(ty:TypeId)(op:BinOp)(x y:V)(k:V->ak X):ak X:=
 match x,y with
 | .int kx a,.int ky b=>match op with
  |.shl=>if b<0 then none else k (.int kx (kx.wrap (a*2 ^ (min b.toNat kx.bits))))
  |.shr=>if b<0 then none else k (.int kx (a.fdiv (2 ^ (min b.toNat kx.bits))))
  | op=>if kx=ky then (match op with
   |.add=>k (.int kx (kx.wrap (a+b)))
   |.sub=>k (.int kx (kx.wrap (a-b)))
   |.mul=>k (.int kx (kx.wrap (a*b)))
   |.quo=>if b=0 then none else k (.int kx (kx.wrap (a.tdiv b)))
   |.rem=>if b=0 then none else k (.int kx (a.tmod b))
   |.and=>k (.int kx (bits .and kx a b))
   |.or=>k (.int kx (bits .or kx a b))
   |.xor=>k (.int kx (bits .xor kx a b))
   |.andNot=>k (.int kx (bits .andNot kx a b))
   |.eql=>k (.bool (a==b))
   |.neq=>k (.bool (a != b))
   |.lss=>k (.bool (decide (a<b)))
   |.leq=>k (.bool (decide (a<=b)))
   |.gtr=>k (.bool (decide (a > b)))
   |.geq=>k (.bool (decide (a >= b)))
   |_=>none)else none
 | .bool a,.bool b=>match P.underlying ty with
  | some .bool=>(match op with
   |.eql=>k (.bool (a==b))
   |.neq=>k (.bool (!(a==b)))
   |_=>none)
  |_=>none
 | .str a,.str b=>match op with
  |.add=>bif bH (a.size+b.size)then k (.str (a++b))else none
  |.eql=>k (.bool (a.toList==b.toList))
  |.neq=>k (.bool (!(a.toList==b.toList)))
  |_=>none
 |_,_=>none
theorem akn{ty:TypeId}{op:BinOp}{x y:V}{k:V->ak X}(h:oA P ty op x y k=some r):∃ z,k z=some r/\z.plain=true/\∀ (w:World) (B:Nat) (aj:bM) (xo yo:Operand) (q q':af Nat) (u v:Value),RV w B aj q x u->RV w B aj q' y v->
  ∃t,(do eqGuard op ty xo yo u v;binOp op ty u v:Sem Value).run P w = .ok t w/\RV w B aj [] z t:=by
 unfold oA at h;split at h
 ·rename_i kx a ky b;split at h
  ·split at h
   ·cases h
   ·rename_i hb
    refine⟨_,h,rfl,λw B aj xo yo q q' u v hu hv=>?_⟩
    obtain rfl:=hu.jf;obtain rfl:=hv.jf;exact⟨_,by simp[eqGuard,binOp,Op.shift,hb],.int _ _ _⟩
  ·split at h
   ·cases h
   ·rename_i hb
    refine⟨_,h,rfl,λw B aj xo yo q q' u v hu hv=>?_⟩
    obtain rfl:=hu.jf;obtain rfl:=hv.jf;exact⟨_,by simp[eqGuard,binOp,Op.shift,hb],.int _ _ _⟩
  ·rename_i h1 h2;split at h
   ·rename_i hk;subst hk;cases op
    case shl=>exact absurd rfl h1
    case shr=>exact absurd rfl h2
    case quo=>
     by_cases hb:b=0
     ·simp only[hb,if_true]at h;cases h
     ·simp only[hb,if_false]at h
      refine⟨_,h,rfl,λw B aj xo yo q q' u v hu hv=>?_⟩
      obtain rfl:=hu.jf;obtain rfl:=hv.jf;exact⟨_,by simp[eqGuard,binOp,Op.intDiv,hb],.int _ _ _⟩
    case rem=>
     by_cases hb:b=0
     ·simp only[hb,if_true]at h;cases h
     ·simp only[hb,if_false]at h
      refine⟨_,h,rfl,λw B aj xo yo q q' u v hu hv=>?_⟩
      obtain rfl:=hu.jf;obtain rfl:=hv.jf;exact⟨_,by simp[eqGuard,binOp,Op.intDiv,hb],.int _ _ _⟩
    all_goals first
     | (refine⟨_,h,rfl,λw B aj xo yo q q' u v hu hv=>?_⟩
        obtain rfl:=hu.jf;obtain rfl:=hv.jf
        first
         |(refine⟨_,?_,.int _ _ _⟩;simp[eqGuard,binOp,Op.intArith];done)
         |(refine⟨_,?_,.int _ _ _⟩;simp[eqGuard,binOp,intBits_and,intBits_or,intBits_xor,intBits_andNot];done)
         |(refine⟨_,?_,.bool _ _⟩;simp[eqGuard,binOp,Op.intCmp];done))
     |cases h
   ·cases h
 ·rename_i a b;split at h
  ·rename_i GL;split at h
   ·refine⟨_,h,rfl,λw B aj xo yo q q' u v hu hv=>?_⟩
    obtain rfl:=hu.zq;obtain rfl:=hv.zq;have e:binOp .eql ty (.bool a) (.bool b)=(do pure (.bool (<-Op.equal ty (.bool a) (.bool b)))):=rfl;have g:eqGuard .eql ty xo yo (.bool a) (.bool b)=pure ():=rfl;exact⟨_,by rw[e,g,gk,Sem.run_pure,oZ,gk,run_equal_bool _ _ _ _ GL];rfl,.bool _ _⟩
   ·refine⟨_,h,rfl,λw B aj xo yo q q' u v hu hv=>?_⟩
    obtain rfl:=hu.zq;obtain rfl:=hv.zq;have e:binOp .neq ty (.bool a) (.bool b)=(do pure (.bool (!(<-Op.equal ty (.bool a) (.bool b))))):=rfl;have g:eqGuard .neq ty xo yo (.bool a) (.bool b)=pure ():=rfl;exact⟨_,by rw[e,g,gk,Sem.run_pure,oZ,gk,run_equal_bool _ _ _ _ GL];rfl,.bool _ _⟩
   ·cases h
  ·cases h
 ·rename_i a b;split at h
  ·cases hL:bH (a.size+b.size)with
   |false=>rw[hL]at h;cases h
   | true=>
    rw[hL]at h
    refine⟨_,h,rfl,λw B aj xo yo q q' u v hu hv=>?_⟩
    obtain rfl:=hu.xd;obtain rfl:=hv.xd;have hL':a.size+b.size<1073741824:=by simpa [bH]using hL
    refine⟨_,?_,.str _ _⟩;have h9:IntKind.i64.max=9223372036854775807:=rfl;simp only[eqGuard,binOp,Op.stringOp,h9];simp;omega
  ·refine⟨_,h,rfl,λw B aj xo yo q q' u v hu hv=>?_⟩
   obtain rfl:=hu.xd;obtain rfl:=hv.xd;exact⟨_,by simp[eqGuard,binOp,Op.stringOp],.bool _ _⟩
  ·refine⟨_,h,rfl,λw B aj xo yo q q' u v hu hv=>?_⟩
   obtain rfl:=hu.xd;obtain rfl:=hv.xd;exact⟨_,by simp[eqGuard,binOp,Op.stringOp],.bool _ _⟩
  ·cases h
 ·cases h
def D7{X:Type}(op:UnOp)(x:V)(k:V->ak X):ak X:=
 match op,x with
 |.not,.bool b=>k (.bool (!b))
 |.neg,.int kx n=>k (.int kx (kx.wrap (0-n)))
 |_,_=>none
theorem ako{op:UnOp}{x:V}{k:V->ak X}(h:D7 op x k=some r):∃ z,k z=some r/\z.plain=true/\∀ (w:World) (B:Nat) (aj:bM) (q:af Nat) (u:Value),RV w B aj q x u->∃ t,(Op.unary op u).run P w = .ok t w/\RV w B aj [] z t:=by
 unfold D7 at h;split at h
 ·refine⟨_,h,rfl,λw B aj q u hu=>?_⟩
  obtain rfl:=hu.zq;exact⟨_,by simp[Op.unary],.bool _ _⟩
 ·refine⟨_,h,rfl,λw B aj q u hu=>?_⟩
  obtain rfl:=hu.jf;exact⟨_,by simp[Op.unary,Op.intArith],.int _ _ _⟩
 ·cases h
theorem V.GM{x:V}(h:x.plain=true):x.az=true:=by cases x<;>first|rfl|cases h
end
end Go.Proofs.YtecofnkoloihpaaGreat
namespace Go.Proofs.YtecofnkoloihpaaGreat
open Go.RowKit
set_option linter.unusedVariables false
def kM(P:Program)(t:TypeId):ak Nat:=(P.info? t).map (·.size)
def D8(P:Program)(t:TypeId):ak Bool:=
 match P.underlying t with
 |some (.struct _)|some (.array _ _)=>some true
 |some _=>some false
 |none=>none
def qY(P:Program)(t:TypeId):ak TypeId:=
 match P.underlying t with
 |some (.slice e)=>some e
 |_=>none
def GN(P:Program)(s:TypeId)(f:Nat):ak Field:=
 match P.underlying s with
 |some (.struct fs)=>fs[f]?
 |_=>none
def p7{X:Type}(P:Program)(t:TypeId)(cs:af Lf)(k:A->ak X):ak X:=
 match kM P t with
 | some n=>if cs.length=n then (match D8 P t with
  |some true=>k (.agg cs)
  | some false=>(match cs with
   |[y]=>k (.lf y)
   |_=>none)
  |none=>none)else none
 |none=>none
def leaves(key:Nat->af Nat):Nat->af V->af Lf
 |_,[]=>[]
 |j,z::zs=>(bif z.az then .v z else .own (key j))::leaves key (j+1) zs
def mq{X:Type}(P:Program)(σ:S)(t:TypeId)(x:A)(k:A->ak X):ak X:=
 match kM P t with
 |none=>none
 | some n=>match x with
  | .aK r j=>(match σ.m r with
   |some (.aC cs)=>p7 P t ((cs.drop j).take n) k
   |_=>none)
  |.je cs=>p7 P t ((cs.take n).map .v) k
  | .ptr (j :: i :: s :: q)=>gR σ.m q λy=>(match y with
   |.sl t' (o+2) _ l=>if s=aB t' then (if h:i<l.length then p7 P t (leaves (λj'=>j'::i::s::q) j (((enc t' o l[i]).drop j).take n)) k else none)else none
   |_=>none)
  |_=>none
section
variable {P:Program} {w:World} {w0:Wd} {B N:Nat} {aj:bM} {ρ:Nat->Loc} {σ:S} {a:Act} {X:Type} {r:X} {o:Oper}
theorem Z7(key:Nat->af Nat):∀ (j:Nat) (zs:af V) (n:Nat),(leaves key j zs)[n]?=(zs[n]?).map λz=>bif z.az then .v z else .own (key (j+n))
 |_,[],n=>by simp[leaves]
 |j,z::zs,0=>by simp[leaves]
 | j,z :: zs,n+1=>by
  simp only[leaves,List.getElem?_cons_succ,Z7 key (j+1) zs n];rw[show j+1+n=j+(n+1) by omega]
theorem SW{t:TypeId}{cs:af Lf}{k:A->ak X}(h:p7 P t cs k=some r):∃ x,k x=some r/\∀ (w:World) (B:Nat) (aj:bM) (ρ:Nat->Loc) (b o:Nat) (vs:af Value),eG w B aj ρ cs vs.toArray->w.rangeAt b o vs->
  ∃v,(Instr.loadAt t (.pointer (some ⟨b,o,none⟩))).run P w = .ok v w/\RA w B aj ρ x v:=by
 unfold p7 at h;split at h
 ·rename_i n hn;split at h
  ·rename_i hlen;split at h
   ·rename_i kj
    refine⟨_,h,λw B aj ρ b o vs hl hr=>?_⟩
    have tq:vs.length=n:=by have:=hl.1;simpa [hlen]using this
    unfold D8 at kj;split at kj
    next fs hu=>exact⟨_,run_loadAt_mid w b o t vs _ hr hu rfl (by rw[tq];exact hn),_,rfl,hl⟩
    next c e hu=>exact⟨_,run_loadAt_mid w b o t vs _ hr hu rfl (by rw[tq];exact hn),_,rfl,hl⟩
    ·cases kj
    ·cases kj
   ·rename_i kj;split at h
    ·rename_i y
     refine⟨_,h,λw B aj ρ b o vs hl hr=>?_⟩
     have tq:vs.length=1:=by have:=hl.1;simpa using this
     obtain⟨v,rfl⟩:=List.length_eq_one_iff.1 tq;have hv:w.cell? ⟨b,o,none⟩=some v:=hr 0 v rfl;obtain⟨u,hu,hR⟩:=hl.2 0 y rfl;have:v=u:=by simpa using hu
     subst this;refine⟨v,?_,hR⟩;unfold D8 at kj;split at kj
     ·cases kj
     ·cases kj
     ·rename_i d hs ha hu;have xe:(isAgg t).run P w = .ok false w:=by
       unfold isAgg;rw[gk,jw hu w];cases d<;>first|rfl|(rename_i x;exact absurd rfl (hs x))|(rename_i x y;exact absurd rfl (ha x y))|simp_all
      simp[Instr.loadAt,Instr.sureAddr,loadVar,gk,xe,load,Sem.run,hv]
     ·cases kj
    ·cases h
   ·cases h
  ·cases h
 ·cases h
theorem Mm{α:Type}(l:af α)(j n i:Nat)(x:α)(h:((l.drop j).take n)[i]?=some x):i<n/\l[j+i]?=some x:=by
 rw[List.getElem?_take]at h;split at h
 next hi=>rw[List.getElem?_drop]at h;exact⟨hi,h⟩
 ·cases h
theorem Z8{t:TypeId}{x:A}{k:A->ak X}(h:mq P σ t x k=some r):∃ y,k y=some r/\∀ aj ρ a w,Rl w0 N aj ρ σ a w->∀ u,RA w w0.heap.size aj ρ x u->
  ∃v,(Instr.loadAt t u).run P w = .ok v w/\RA w w0.heap.size aj ρ y v:=by
 unfold mq at h;split at h
 ·cases h
 ·rename_i n hn;split at h
  ·rename_i r' j;split at h
   ·rename_i cs eR;obtain⟨y,hy,hf⟩:=SW h
    refine⟨y,hy,λaj ρ a w hR u hu=>?_⟩
    obtain⟨b,off,aO,rfl⟩:=hu;have hr:=hR.root r' _ eR;generalize he:bg.aC cs=x at hr;cases hr with
    |sl=>cases he
    |mp=>cases he
    |gh=>cases he
    | aC b' qL cells e fy us iH hl hh hs hc=>
     injection he with he;subst he;rw[aO]at iH;injection iH with e1 e2;subst e1 e2
     refine hf w _ aj ρ b (off+j) (((cs.drop j).take n).mapIdx λi _=>us (j+i)) ⟨by simp,λi x hx=>?_⟩ (λi v hv=>?_)
     ·obtain⟨hi,cW⟩:=Mm _ _ _ _ _ hx;refine⟨us (j+i),?_,(hc _ x cW).2⟩;simp only[List.getElem?_toArray,List.getElem?_mapIdx,hx,jM]
     ·rw[List.getElem?_mapIdx]at hv;cases hx:((cs.drop j).take n)[i]? with
      |none=>rw[hx]at hv;cases hv
      | some x=>
       rw[hx]at hv;injection hv with hv;subst hv;obtain⟨hi,cW⟩:=Mm _ _ _ _ _ hx;rw[cell_of_row w b _ cells _ _ hh,Nat.add_assoc];exact(hc _ x cW).1
   ·cases h
  ·rename_i cs;obtain⟨y,hy,hf⟩:=SW h
   refine⟨y,hy,λaj ρ a w hR u hu=>?_⟩
   obtain⟨b,off,rfl,hb,hl,hc⟩:=hu;have kL:∀ (i:Nat) (x:Lf),((cs.take n).map Lf.v)[i]?=some x->∃ z v,x = .v z/\z.az=true/\w.cell? ⟨b,off+i,none⟩=some v/\RV w w0.heap.size aj [] z v:=by
    intro i x hx;rw[dP]at hx;cases hz:(cs.take n)[i]? with
    |none=>rw[hz]at hx;cases hx
    | some z=>
     rw[hz]at hx;injection hx with hx;rw[List.getElem?_take]at hz;split at hz
     ·obtain⟨tr,v,hv,hr⟩:=hc i z hz;exact⟨z,v,hx.symm,tr,hv,hr⟩
     ·cases hz
   refine hf w _ aj ρ b off (((cs.take n).map Lf.v).mapIdx λi _=>(w.cell? ⟨b,off+i,none⟩).getD undef) ⟨by simp,λi x hx=>?_⟩ (λi v hv=>?_)
   ·obtain⟨z,v,rfl,tr,hv,hr⟩:=kL i x hx;refine⟨v,?_,tr,hr⟩;simp only[List.getElem?_toArray,List.getElem?_mapIdx,hx,jM,hv,Option.getD_some]
   ·rw[List.getElem?_mapIdx]at hv;cases hx:((cs.take n).map Lf.v)[i]? with
    |none=>rw[hx]at hv;cases hv
    | some x=>
     rw[hx]at hv;obtain⟨z,v',rfl,tr,eM,hr⟩:=kL i x hx;rw[eM]at hv;injection hv with hv;rw[eM];exact bJ some hv
  ·rename_i j i s q;obtain⟨y0,hg,h2⟩:=th _ _ h;clear h;split at h2
   ·rename_i t' o' qn l;split at h2
    ·rename_i hs;subst hs;split at h2
     ·rename_i hi;obtain⟨y,hy,hf⟩:=SW h2
      refine⟨y,hy,λaj ρ a w hR u hu=>?_⟩
      obtain⟨ad,rfl,jC⟩:=hu;obtain⟨hv,fA,lN⟩:=hg.ok hR.root;cases lN with
      |c9=>simp at hi
      |dm=>simp at hi
      |dD=>simp at hi
      |az _ _ _ _ _ _ _ _ _ ho=>omega
      | own _ _ _ _ _ b cap cs us dH hh hs hn tf hc hr=>
       rw[Bl j i (aB t') fA dH]at jC;injection jC with jC;subst jC;have kL:∀ (m:Nat) (x:Lf),(leaves (λj'=>j' :: i :: aB t' :: q) j (((enc t' o' l[i]).drop j).take n))[m]?=some x->cs[i*aB t'+(j+m)]?=some (us i (j+m))/\dY w w0.heap.size aj ρ x (us i (j+m)):=by
        intro m x hx;rw[Z7]at hx;cases hz:(((enc t' o' l[i]).drop j).take n)[m]? with
        |none=>rw[hz]at hx;cases hx
        | some z=>
         rw[hz]at hx;injection hx with hx;have hx:(bif z.az then Lf.v z else Lf.own ((j+m)::i::aB t'::q))=x:=hx;obtain⟨_,tu⟩:=Mm _ _ _ _ _ hz;have h3:=hc i hi _ z tu;have h4:=hr i hi _ z tu;refine⟨h3,?_⟩;cases D9:z.az with
         | true=>
          rw[D9]at hx;have hx:Lf.v z=x:=hx;subst hx;exact⟨D9,h4.key D9⟩
         | false=>
          rw[D9]at hx;have hx:Lf.own ((j+m)::i::aB t'::q)=x:=hx;subst hx;refine⟨?_,?_⟩
          ·exact h4.SN D9
          ·rw[Mi,Bl (j+m) i (aB t') fA dH];show w.cell? _=_;rw[cell_of_row w b _ cs _ _ hh];exact h3
       refine hf w _ aj ρ b (i*aB t'+j) ((leaves (λj'=>j'::i::aB t'::q) j (((enc t' o' l[i]).drop j).take n)).mapIdx λm _=>us i (j+m)) ⟨by simp,λm x hx=>?_⟩ (λm v hv=>?_)
       ·refine⟨us i (j+m),?_,(kL m x hx).2⟩;simp only[List.getElem?_toArray,List.getElem?_mapIdx,hx,jM]
       ·rw[List.getElem?_mapIdx]at hv;cases hx:(leaves (λj'=>j' :: i :: aB t' :: q) j (((enc t' o' l[i]).drop j).take n))[m]? with
        |none=>rw[hx]at hv;cases hv
        | some x=>
         rw[hx]at hv;injection hv with hv;subst hv;rw[cell_of_row w b _ cs _ _ hh,Nat.add_assoc];exact(kL m x hx).1
     ·cases h2
    ·cases h2
   ·cases h2
  ·cases h
end
end Go.Proofs.YtecofnkoloihpaaGreat
namespace Go.Proofs.YtecofnkoloihpaaGreat
open Go.RowKit
set_option linter.unusedVariables false
def A.zu:A->ak (af Lf)
 |.lf x=>some [x]
 |.agg xs=>some xs
 |_=>none
def Lf.live:Lf->Bool
 |.dead=>false
 |_=>true
def Lf.pl:Lf->ak V
 |.v x=>bif x.plain then some x else none
 |_=>none
def sg:af Lf->ak (af V)
 |[]=>some []
 | x :: xs=>match x.pl,sg xs with
  |some y,some ys=>some (y::ys)
  |_,_=>none
def p8{X:Type}(m:Nat->ak bg):af Nat->V->((Nat->ak bg)->ak X)->ak X
 | [r],y,k=>match m r with
  |some (.sl _)=>k (cB m r (some (.sl y)))
  |_=>none
 | j :: i :: s :: q,y,k=>gR m q λz=>match z with
  | .sl t (o+2) qn l=>if s=aB t then (if h:i<l.length then (if j<aB t then (match dec t o (splice (enc t o l[i]) j [y])with
   |some e=>p8 m q (.sl t (o+2) qn (l.set i e)) k
   |none=>none)else none)else none)else none
  |_=>none
 |_,_,_=>none
def oB{X:Type}(P:Program)(σ:S)(t:TypeId)(x y:A)(k:S->ak X):ak X:=
 match kM P t,y.zu with
 | some n,some xs=>if xs.length=n then (match x with
  | .aK r j=>(match σ.m r with
   |some (.aC cs)=>if j+n<=cs.length then (bif xs.all Lf.live then k ⟨σ.t,cB σ.m r (some (.aC (splice cs j xs)))⟩else none)else none
   |_=>none)
  | .ptr (j :: i :: s :: q)=>(match sg xs with
   |none=>none
   | some vs=>gR σ.m q λy=>(match y with
    | .sl t' (o+2) qn l=>if s=aB t' then (if h:i<l.length then (if j+vs.length<=aB t' then (bif (((enc t' o l[i]).drop j).take vs.length).all V.plain then (match dec t' o (splice (enc t' o l[i]) j vs)with
     |some e=>p8 σ.m q (.sl t' (o+2) qn (l.set i e)) λm=>k ⟨σ.t,m⟩
     |none=>none)else none)else none)else none)else none
    |_=>none))
  |_=>none)else none
 |_,_=>none
section
variable {P:Program} {w:World} {w0:Wd} {B N:Nat} {aj:bM} {ρ:Nat->Loc} {σ:S} {a:Act} {X:Type} {r:X} {o:Oper}
theorem Z9{m:Nat->ak bg}:∀ (q:af Nat) (y:V) (k:(Nat->ak bg)->ak X),p8 m q y k=some r->∃ m',zn m q y m'/\k m'=some r
 |[],_,_,h=>by simp[p8]at h
 | [x],y,k,h=>by
  simp only[p8]at h;split at h
  next y0 hy=>exact⟨_,.root x y0 y hy,h⟩
  ·cases h
 |[_,_],_,_,h=>by simp[p8]at h
 | j :: i :: s :: q,y,k,h=>by
  simp only[p8]at h;obtain⟨z,hz,h2⟩:=th q _ h;clear h;split at h2
  ·split at h2
   ·rename_i hs;subst hs;split at h2
    ·rename_i hi;split at h2
     ·rename_i hj;split at h2
      next e he=>obtain⟨m',pn,h3⟩:=Z9 q _ k h2;exact⟨m',.elem j i q _ _ _ _ y e m' hz hi hj he pn,h3⟩
      ·cases h2
     ·cases h2
    ·cases h2
   ·cases h2
  ·cases h2
theorem Mn:∀ (xs:af Lf) (vs:af V),sg xs=some vs->xs=vs.map .v/\∀ v∈vs,v.plain=true
 | [],vs,h=>by
  simp[sg]at h;subst h;exact⟨rfl,by simp⟩
 | x :: xs,vs,h=>by
  unfold sg at h;split at h
  ·rename_i y ys hy oC;injection h with h;subst h;obtain⟨h1,h2⟩:=Mn xs ys oC;have:x = .v y/\y.plain=true:=by
    cases x with
    | v z=>
     unfold Lf.pl at hy;cases hz:z.plain with
     | true=>
      simp only[hz,aq]at hy;injection hy with hy;subst hy;exact⟨rfl,hz⟩
     |false=>simp[hz]at hy
    |own q=>cases hy
    |dead=>cases hy
   refine⟨by rw[this.1,h1];rfl,λv hv=>?_⟩
   rcases jq.1 hv with rfl|hv
   ·exact this.2
   ·exact h2 v hv
  ·cases h
theorem akp{u:Value}(h:u.oneCell'=true):u.cells = #[u]:=by cases u<;>first|rfl|cases h
theorem dY.one{x:Lf}{u:Value}(h:dY w B aj ρ x u)(hd:x.live=true):u.oneCell'=true:=by
 cases x with
 |v z=>exact h.2.one
 | own k=>
  have:=h.1;cases u<;>first|rfl|cases this
 |dead=>cases hd
theorem GO{y:A}{xs:af Lf}(h:y.zu=some xs)(hd:xs.all Lf.live=true){u:Value}(hu:RA w B aj ρ y u):eG w B aj ρ xs u.cells/\u.cells.all (·.oneCell')=true:=by
 have key:∀ us:Array Value,eG w B aj ρ xs us->us.all (·.oneCell')=true:=by
  intro us hs;rw[Array.all_eq_true];intro i hi;have hx:=cu (l:=xs) (i:=i) (by rw[<-hs.1];exact hi);obtain⟨v,hv,hr⟩:=hs.2 i _ hx;have:us[i]=v:=by rw[Array.getElem?_eq_getElem hi]at hv;injection hv
  rw[this];exact hr.one (dQ.1 hd _ (fW _))
 cases y with
 | lf x=>
  injection h with h;subst h;have hu:dY w B aj ρ x u:=hu;have h1:=hu.one (by simpa using hd);have:eG w B aj ρ [x] u.cells:=by
   rw[akp h1]
   refine⟨rfl,λj y hy=>?_⟩
   cases j with
   |zero=>simp at hy;subst hy;exact⟨u,rfl,hu⟩
   |succ j=>simp at hy
  exact⟨this,key _ this⟩
 | agg xs'=>
  injection h with h;subst h;obtain⟨us,rfl,h⟩:=hu;exact⟨h,key _ h⟩
 |_=>cases h
theorem SX(w:World)(b o:Nat)(ty:TypeId)(v:Value)(ht:w.there b o v.cells.size)(hi:(P.info? ty).map (·.size)=some v.cells.size)(h1:v.cells.all (·.oneCell')=true):
  (Instr.storeAt ty (.pointer (some ⟨b,o,none⟩)) v).run P w = .ok () (w.setCells b o v.cells.toList):=by
 have:=run_storeCells_cells (P:=P) b o v.cells.toList 0 w (λj hj=>by simpa using (ht j (by simpa using hj)).1) (λj hj=>by simpa using (ht j (by simpa using hj)).2)
  (λv hv=>(Array.all_eq_true_iff_forall_mem.1 h1) v (by simpa using hv))
 cases hq:P.info? ty with
 |none=>simp[hq]at hi
 | some i=>
  have hs:v.cells.size=i.size:=by simp[hq]at hi;omega
  simp only[Nat.add_zero]at this;simp[Instr.storeAt,Instr.sureAddr,storeVar,sizeOf,typeInfo,hq,hs,this]
theorem aaa{t:TypeId}{x y:A}{k:S->ak X}(h:oB P σ t x y k=some r):∃ aA,k aA=some r/\∀ aj ρ a w,Rl w0 N aj ρ σ a w->∀ u v,RA w w0.heap.size aj ρ x u->RA w w0.heap.size aj ρ y v->
  ∃w',(Instr.storeAt t u v).run P w = .ok () w'/\Rl w0 N aj ρ aA a w':=by
 unfold oB at h;split at h
 ·rename_i n xs hn gV;split at h
  ·rename_i hlen;split at h
   ·rename_i r' j;split at h
    ·rename_i cs eR;split at h
     ·rename_i hj;cases jg:xs.all Lf.live with
      |false=>rw[jg]at h;cases h
      | true=>
       rw[jg]at h
       refine⟨_,h,λaj ρ a w hR u v hu hv=>?_⟩
       obtain⟨b,off,aO,rfl⟩:=hu;obtain⟨hl,ko⟩:=GO gV jg hv;obtain⟨b',qL,iH,GP,aV⟩:=hR.GI eR hl (by rw[hlen];exact hj);rw[aO]at iH;injection iH with e1 e2;subst e1 e2;exact⟨_,SX w b (off+j) t v GP (by rw[hl.1,hlen];exact hn) ko,aV⟩
     ·cases h
    ·cases h
   ·rename_i j i s q;split at h
    ·cases h
    ·rename_i vs gW;obtain⟨y0,hg,h2⟩:=th _ _ h;clear h;split at h2
     ·rename_i t' o' qn l;split at h2
      ·rename_i hs;subst hs;split at h2
       ·rename_i hi;split at h2
        ·rename_i hj;cases hold:(((enc t' o' l[i]).drop j).take vs.length).all V.plain with
         |false=>rw[hold]at h2;cases h2
         | true=>
          rw[hold,aq]at h2;split at h2
          ·rename_i e he;obtain⟨m',pn,h3⟩:=Z9 q _ _ h2
           refine⟨_,h3,λaj ρ a w hR u v hu hv=>?_⟩
           obtain⟨ad,rfl,jC⟩:=hu;obtain⟨zx,SY⟩:=Mn xs vs gW;have jg:xs.all Lf.live=true:=by rw[zx];simp[Lf.live]
           obtain⟨hl,ko⟩:=GO gV jg hv;have tq:vs.length=n:=by rw[<-hlen,zx,gB]
           have q1:∀ (n':Nat) x,n'<vs.length->(enc t' o' l[i])[j+n']?=some x->x.plain=true:=by
            intro n' x p6 hx;refine dQ.1 hold x (hJ (i:=n') ?_);rw[List.getElem?_take,bB p6,List.getElem?_drop];exact hx
           have q2:∀ (n':Nat) x,vs[n']?=some x->∃ u',v.cells[n']?=some u'/\RV w w0.heap.size aj [] x u':=by
            intro n' x hx;obtain⟨u',lO,dG⟩:=hl.2 n' (.v x) (by rw[zx,dP,hx];rfl);exact⟨u',lO,dG.2⟩
           obtain⟨b,hb,GP,aV⟩:=hR.akk (xs:=vs) (us:=v.cells) hg hi hj he q1 SY (by rw[hl.1,zx,gB]) q2 pn;rw[jC]at hb;injection hb with hb;subst hb;exact⟨_,SX w b _ t v GP (by rw[hl.1,hlen];exact hn) ko,aV⟩
          ·cases h2
        ·cases h2
       ·cases h2
      ·cases h2
     ·cases h2
   ·cases h
  ·cases h
 ·cases h
end
end Go.Proofs.YtecofnkoloihpaaGreat
namespace Go.Proofs.YtecofnkoloihpaaGreat
open Go.RowKit
set_option linter.unusedVariables false
def vM{X:Type}(P:Program)(s:TypeId)(x:A)(f:Nat)(k:A->ak X):ak X:=
 match GN P s f with
 |none=>none
 | some fd=>match kM P fd.type with
  | some (_+1)=>(match x with
   |.aK r j=>k (.aK r (j+fd.offset))
   |.je cs=>k (.je (cs.drop fd.offset))
   |.ptr (j::i::s::q)=>k (.ptr ((j+fd.offset)::i::s::q))
   |_=>none)
  |_=>none
def qZ{X:Type}(P:Program)(σ:S)(t:TypeId)(x i:A)(k:A->ak X):ak X:=
 match qY P t with
 |none=>none
 | some e=>match kM P e,i with
  | some n,.lf (.v (.int _ iv))=>(match x with
   |.lf (.v (.sl t' g _ l))=>if n=aB t' then (bif Nat.blt g 2 then (if h:0<=iv/\iv.toNat<l.length then k (.je (enc t' g (l[iv.toNat]'h.2)))else none)else none)else none
   | .lf (.own q)=>gR σ.m q λy=>(match y with
    |.sl t' g _ l=>if n=aB t' then (if h:0<=iv/\iv.toNat<l.length then (bif Nat.blt g 2 then k (.je (enc t' g (l[iv.toNat]'h.2)))else k (.ptr (0::iv.toNat::aB t'::q)))else none)else none
    |_=>none)
   |_=>none)
  |_,_=>none
def p9{X:Type}(P:Program)(σ:S)(t:TypeId)(x:A)(k:A->ak X):ak X:=
 match x with
 | .lf y=>kK σ y λz=>(match z with
  |.sl _ _ _ l=>(match P.underlying t with|some (.slice _)=>k (.lf (.v (.int .i64 (l.length:Int))))|_=>none)
  |.nil=>(match P.underlying t with|some (.slice _)=>k (.lf (.v (.int .i64 0)))|_=>none)
  |.str s=>(match P.underlying t with|some .string=>k (.lf (.v (.int .i64 (s.size:Int))))|_=>none)
  |_=>none)
 |.view _ _ i j=>(match P.underlying t with|some (.slice _)=>k (.lf (.v (.int .i64 ((j-i:Nat):Int))))|_=>none)
 |_=>none
def si:Bool×af Lf->ak A
 |(true,cs)=>some (.agg cs)
 |(false,[y])=>some (.lf y)
 |_=>none
def xg{X:Type}(x:A)(i:Nat)(k:A->ak X):ak X:=
 match x with
 | .cU xs=>match (xs[i]?).bind si with
  |some y=>k y
  |none=>none
 |_=>none
section
variable {P:Program} {w:World} {w0:Wd} {B N:Nat} {aj:bM} {ρ:Nat->Loc} {σ:S} {a:Act} {X:Type} {r:X} {o:Oper}
theorem akq(n:Nat){j i s:Nat}{q:af Nat}{ad:Addr}(h:addrAt w aj ρ (j :: i :: s :: q)=some ad):addrAt w aj ρ ((j+n) :: i :: s :: q)=some ⟨ad.block,ad.off+n,none⟩:=by
 match q,h with
 |[],h=>simp[addrAt]at h
 | [r],h=>
  simp only[addrAt]at h ⊢;split at h
  ·split at h
   next hl=>injection h with h;subst h;rw[bB hl,Nat.add_assoc]
   ·cases h
  ·cases h
 | x :: y :: q,h=>
  simp only[addrAt]at h ⊢;split at h
  ·split at h
   next hl=>injection h with h;subst h;rw[bB hl,Nat.add_assoc]
   ·cases h
  ·cases h
theorem SZ(w:World)(s:TypeId)(f:Nat)(fd:Field)(n b off:Nat)(hf:GN P s f=some fd)(hs:kM P fd.type=some (n+1)):
  (Instr.fieldAt s (.pointer (some ⟨b,off,none⟩)) f).run P w = .ok (.pointer (some ⟨b,off+fd.offset,none⟩)) w:=by
 unfold GN at hf;split at hf
 ·rename_i fs hu;unfold kM at hs;cases hq:P.info? fd.type with
  |none=>simp[hq]at hs
  | some i=>
   have hi:i.size=n+1:=by simpa [hq]using hs
   simp[Instr.fieldAt,jw hu,hf,Instr.sureAddr,fieldPlace,sizeOf,typeInfo,hq,hi,Addr.add_mid]
 ·cases hf
theorem akr{s:TypeId}{x:A}{f:Nat}{k:A->ak X}(h:vM P s x f k=some r):∃ y,k y=some r/\∀ (w:World) (B:Nat) (aj:bM) (ρ:Nat->Loc) (u:Value),RA w B aj ρ x u->
  ∃v,(Instr.fieldAt s u f).run P w = .ok v w/\RA w B aj ρ y v:=by
 unfold vM at h;split at h
 ·cases h
 ·rename_i fd qa;split at h
  ·rename_i n hn;split at h
   ·rename_i r' j
    refine⟨_,h,λw B aj ρ u hu=>?_⟩
    obtain⟨b,off,aO,rfl⟩:=hu;exact⟨_,SZ w s f fd n b _ qa hn,b,off,aO,by rw[Nat.add_assoc]⟩
   ·rename_i cs
    refine⟨_,h,λw B aj ρ u hu=>?_⟩
    obtain⟨b,off,rfl,hb,hl,hc⟩:=hu
    refine⟨_,SZ w s f fd n b _ qa hn,b,_,rfl,hb,hl,λj x hx=>?_⟩
    rw[List.getElem?_drop]at hx;have:=hc _ x hx;rw[<-Nat.add_assoc]at this;exact this
   ·rename_i j i s' q
    refine⟨_,h,λw B aj ρ u hu=>?_⟩
    obtain⟨ad,rfl,jC⟩:=hu;have h2:=akq fd.offset jC;obtain⟨_,_,_,_,_,_,_,qW,_⟩:=zm _ _ jC;obtain⟨b,off,sp⟩:=ad;simp only at qW;subst qW;exact⟨_,SZ w s f fd n b off qa hn,_,rfl,h2⟩
   ·cases h
  ·cases h
theorem S0(w:World)(t e:TypeId)(n b off len cap:Nat)(kk:IntKind)(iv:Int)(hu:qY P t=some e)(hs:kM P e=some n)(h0:0<=iv)(h1:iv.toNat<len):
  (Instr.indexAt t (.slice (some ⟨b,off,none⟩) len cap) (.int kk iv)).run P w = .ok (.pointer (some ⟨b,off+iv.toNat*n,none⟩)) w:=by
 unfold qY at hu;split at hu
 ·rename_i e' lO;injection hu with hu;subst hu;unfold kM at hs;cases hq:P.info? e' with
  |none=>simp[hq]at hs
  | some i=>
   have hi:i.size=n:=by simpa [hq]using hs
   have h2:iv<(len:Int):=by omega
   simp[Instr.indexAt,jw lO,asIntOf,h0,h2,sizeOf,typeInfo,hq,hi,Addr.add_mid]
 ·cases hu
theorem aks{t:TypeId}{x i:A}{k:A->ak X}(h:qZ P σ t x i k=some r):∃ y,k y=some r/\∀ aj ρ a w,Rl w0 N aj ρ σ a w->∀ u v,RA w w0.heap.size aj ρ x u->RA w w0.heap.size aj ρ i v->
  ∃p,(Instr.indexAt t u v).run P w = .ok p w/\RA w w0.heap.size aj ρ y p:=by
 unfold qZ at h;split at h
 ·cases h
 ·rename_i e he;split at h
  ·rename_i n kk iv hn;split at h
   ·rename_i t' g qn l;split at h
    ·rename_i nO;subst nO;cases hg:Nat.blt g 2 with
     |false=>rw[hg]at h;cases h
     | true=>
      rw[hg,aq]at h;split at h
      ·rename_i hb
       refine⟨_,h,λaj ρ a w hR u v hu hv=>?_⟩
       obtain rfl:=hv.2.jf;have vN:g<2:=by have:=cT hg;omega
       cases hu.2 with
       |c9=>simp at hb
       |dm=>simp at hb
       |dD=>simp at hb
       |own=>exact absurd vN (by omega)
       | az _ _ _ _ _ b off cap us ho hl oD h1 eA hc hr=>
        refine⟨_,S0 w t e _ b off _ cap kk iv he hn hb.1 hb.2,b,_,rfl,oD,hl,λj x hx=>⟨mj t' g _ vN j x hx,us iv.toNat j,?_,hr _ hb.2 j x hx⟩⟩
        rw[Nat.add_assoc];exact hc _ hb.2 j x hx
      ·cases h
    ·cases h
   ·rename_i q;obtain⟨y0,hg,h2⟩:=th _ _ h;clear h;split at h2
    ·rename_i t' o' qn l;split at h2
     ·rename_i nO;subst nO;split at h2
      ·rename_i hb;cases vO:Nat.blt o' 2 with
       | true=>
        rw[vO,aq]at h2;have S1:o'<2:=cT vO
        refine⟨_,h2,λaj ρ a w hR u v hu hv=>?_⟩
        obtain rfl:=hv.2.jf;obtain⟨eM,fA,lN⟩:=hg.ok hR.root;have:eM=u:=by
         have h3:=hu.2;rw[fA]at h3;injection h3
        subst this;cases lN with
        |c9=>simp at hb
        |dm=>simp at hb
        |dD=>simp at hb
        |own=>exact absurd S1 (by omega)
        | az _ _ _ _ _ b off cap us ho hl oD h1 eA hc hr=>
         refine⟨_,S0 w t e _ b off _ cap kk iv he hn hb.1 hb.2,b,_,rfl,oD,hl,λj x hx=>⟨mj t' o' _ S1 j x hx,us iv.toNat j,?_,hr _ hb.2 j x hx⟩⟩
         rw[Nat.add_assoc];exact hc _ hb.2 j x hx
       | false=>
        rw[vO,au]at h2;have S1:¬ o'<2:=λbW=>by have h9:Nat.blt o' 2=true:=mJ bW;rw[h9]at vO;cases vO
        refine⟨_,h2,λaj ρ a w hR u v hu hv=>?_⟩
        obtain rfl:=hv.2.jf;obtain⟨eM,fA,lN⟩:=hg.ok hR.root;have:eM=u:=by
         have h3:=hu.2;rw[fA]at h3;injection h3
        subst this;cases lN with
        |c9=>simp at hb
        |dm=>simp at hb
        |dD=>simp at hb
        |az _ _ _ _ _ _ _ _ _ ho=>omega
        | own _ _ _ _ _ b cap cs us dH hh hs p6 tf hc hr=>
         refine⟨_,S0 w t e _ b 0 _ cap kk iv he hn hb.1 hb.2,_,rfl,?_⟩;rw[Bl 0 iv.toNat (aB t') fA dH];simp
      ·cases h2
     ·cases h2
    ·cases h2
   ·cases h
  ·cases h
theorem akt{t ty:TypeId}{x:A}{k:A->ak X}(h:p9 P σ t x k=some r):∃ y,k y=some r/\∀ aj ρ a w,Rl w0 N aj ρ σ a w->∀ u,RA w w0.heap.size aj ρ x u->
  ∃v,(Builtin.len_ #[t] ty #[u]).run P w = .ok v w/\RA w w0.heap.size aj ρ y v:=by
 unfold p9 at h;split at h
 ·rename_i y;have key:∃ z,(∀ aj ρ a w,Rl w0 N aj ρ σ a w->∀ u,dY w w0.heap.size aj ρ y u->∃ q,RV w w0.heap.size aj q z u)/\(match z with
    |.sl _ _ _ l=>(match P.underlying t with|some (.slice _)=>k (.lf (.v (.int .i64 (l.length:Int))))|_=>none)
    |.nil=>(match P.underlying t with|some (.slice _)=>k (.lf (.v (.int .i64 0)))|_=>none)
    |.str s=>(match P.underlying t with|some .string=>k (.lf (.v (.int .i64 (s.size:Int))))|_=>none)
    |_=>none)=some r:=by
   cases y with
   |v z=>exact⟨z,λaj ρ a w _ u hu=>⟨[],hu.2⟩,h⟩
   |dead=>cases h
   | own q=>
    obtain⟨z,hz,h⟩:=th q _ h
    refine⟨z,λaj ρ a w hR u hu=>?_,h⟩
    obtain⟨v,hv,hr⟩:=hz.ok hR.root;have h3:=hu.2;rw[hv]at h3;injection h3 with h3;subst h3;exact⟨q,hr⟩
  obtain⟨z,hz,h2⟩:=key;clear h;split at h2
  ·rename_i t' g qn l;split at h2
   ·rename_i e he
    refine⟨_,h2,λaj ρ a w hR u hu=>?_⟩
    obtain⟨q,hr⟩:=hz aj ρ a w hR u hu;cases hr with
    |c9=>exact⟨_,by simp[Builtin.len_,jw he,goInt],rfl,.int _ _ _⟩
    |dm=>exact⟨_,by simp[Builtin.len_,jw he,goInt],rfl,.int _ _ _⟩
    |dD=>exact⟨_,by simp[Builtin.len_,jw he,goInt],rfl,.int _ _ _⟩
    |az=>exact⟨_,by simp[Builtin.len_,jw he,goInt],rfl,.int _ _ _⟩
    |own=>exact⟨_,by simp[Builtin.len_,jw he,goInt],rfl,.int _ _ _⟩
   ·cases h2
  ·split at h2
   ·rename_i e he
    refine⟨_,h2,λaj ρ a w hR u hu=>?_⟩
    obtain⟨q,hr⟩:=hz aj ρ a w hR u hu;cases hr;exact⟨_,by simp[Builtin.len_,jw he,goInt],rfl,.int _ _ _⟩
   ·cases h2
  ·split at h2
   ·rename_i he
    refine⟨_,h2,λaj ρ a w hR u hu=>?_⟩
    obtain⟨q,hr⟩:=hz aj ρ a w hR u hu;obtain rfl:=hr.xd;exact⟨_,by simp[Builtin.len_,jw he,goInt],rfl,.int _ _ _⟩
   ·cases h2
  ·cases h2
 ·split at h
  ·rename_i e he
   refine⟨_,h,λaj ρ a w hR u hu=>?_⟩
   obtain⟨A,n,c,hv,h1,h2,rfl⟩:=hu;exact⟨_,by cases A<;>simp[sliced,Builtin.len_,jw he,goInt],rfl,.int _ _ _⟩
  ·cases h
 ·cases h
theorem S2{p:Bool×af Lf}{y:A}(h:si p=some y){u:Value}(hu:RP w B aj ρ p u):RA w B aj ρ y u:=by
 unfold si at h;split at h
 ·injection h with h;subst h;exact hu
 ·rename_i z;injection h with h;subst h;obtain⟨u',lO,hr⟩:=hu.2 0 z rfl;have:u=u':=by simpa using lO
  subst this;exact hr
 ·cases h
theorem aku{x:A}{i:Nat}{k:A->ak X}(h:xg x i k=some r):∃ y,k y=some r/\∀ (w:World) (B:Nat) (aj:bM) (ρ:Nat->Loc) (u:Value),RA w B aj ρ x u->
  ∃v,(Instr.extract u i).run P w = .ok v w/\RA w B aj ρ y v:=by
 unfold xg at h;split at h
 ·rename_i xs;split at h
  ·rename_i y hy
   refine⟨y,h,λw B aj ρ u hu=>?_⟩
   obtain⟨us,rfl,hs,hp⟩:=hu;cases hx:xs[i]? with
   |none=>rw[hx]at hy;cases hy
   | some p=>
    rw[hx]at hy;obtain⟨v,hv,hr⟩:=hp i p hx;exact⟨v,by simp[Instr.extract,hv],S2 hy hr⟩
  ·cases h
 ·cases h
end
end Go.Proofs.YtecofnkoloihpaaGreat
namespace Go.Proofs.YtecofnkoloihpaaGreat
open Go.RowKit
set_option linter.unusedVariables false
section
variable {P:Program} {w w':World} {w0:Wd} {B N:Nat} {aj aD:bM} {ρ ρ':Nat->Loc} {σ:S} {a:Act} {X:Type} {d:Nat}
theorem akv{k:af Nat}(h:[d] <:+ k):bP d k=true:=by
 obtain⟨y,rfl⟩:=h;simp[bP]
theorem S3{k:af Nat}(h:bP d k=true):[d] <:+ k:=by
 have h:k.getLast?=some d:=by simpa [bP]using h
 obtain⟨y,hy⟩:=List.getLast?_eq_some_iff.1 h;exact⟨y,hy.symm⟩
theorem Mo{j i s:Nat}{q:af Nat}(hq:q≠[]):bP d (j :: i :: s :: q)=bP d q:=by
 cases q with
 |nil=>exact absurd rfl hq
 |cons x q=>simp[bP]
structure vP (w w':World) (aj aD:bM) (d:Nat):Prop where
 size:w.heap.size<=w'.heap.size
 block:∀b,b<w.heap.size->aj b≠some [d]->w'.heap[b]?=w.heap[b]?
 xh:∀b,b<w.heap.size->aD b=aj b
 ne:∀b,aj b≠some []
theorem RV.nA{q:af Nat}{x:V}{v:Value}(h:RV w B aj q x v)(hw:vP w w' aj aD d)(hq:¬ [d] <:+ q\/x.az=true):RV w' B aD q x v:=by
 induction h with
 |int=>exact .int _ _ _
 |bool=>exact .bool _ _
 |str=>exact .str _ _
 |nil=>exact .nil _
 |c9=>exact .c9 _ _ _
 |dm=>exact .dm _ _ _ _ _ (by first|assumption|omega)
 |dD=>exact .dD _ _ _ _ _ (by first|assumption|omega)
 | az q t o qn l b off cap u ho hl hb h1 eA hc hr ih=>
  have br:aj b≠some [d]:=by rw[hl];simp
  exact .az _ _ _ _ _ _ _ _ u ho ((hw.xh b hb).trans hl) (mg hb hw.size) h1 eA (λi h j x hx=>(mH (a:=⟨b,_,none⟩) (hw.block b hb br)).trans (hc i h j x hx)) (λi h j x hx=>ih i h j x hx (.inr (mj t o l[i] ho j x hx)))
 | own q t o qn l b cap cs u hl hh hs hn hm hc hr ih=>
  have hb:b<w.heap.size:=(ia.1 hh).1;have mQ:¬ [d] <:+ q:=by
   rcases hq with hq|hq
   ·exact hq
   ·simp[V.az]at hq;omega
  have br:aj b≠some [d]:=by
   rw[hl];intro e;injection e with e;exact mQ (by rw[e];exact List.suffix_refl _)
  refine .own _ _ _ _ _ _ _ cs u ((hw.xh b hb).trans hl) ((hw.block b hb br).trans hh) hs hn hm hc (λi h j x hx=>ih i h j x hx (.inl λny=>mQ ?_))
  have hq0:q≠[]:=by rintro rfl;exact hw.ne b hl
  exact S3 ((Mo hq0).symm.trans (akv ny))
theorem akw{j i s:Nat}{q:af Nat}(hq:q≠[])(h:bP d (j :: i :: s :: q)=false):bP d q=false:=by
 cases q with
 |nil=>exact absurd rfl hq
 |cons x q=>simpa [bP]using h
theorem S4(hw:vP w w' aj aD d)(hg:∀ b k,aj b=some k->b<w.heap.size)(aO:∀ r,r≠d->ρ' r=ρ r):∀ (k:af Nat) (ad:Addr),bP d k=false->addrAt w aj ρ k=some ad->addrAt w' aD ρ' k=some ad
 |[],_,_,h=>h
 |[_],_,_,h=>h
 |[_,_],_,_,h=>h
 |[_,_,_],_,_,h=>by simp only[addrAt]at h ⊢;exact h
 | [j,i,s,r],_,hd,h=>by
  have hr:r≠d:=by rintro rfl;simp[bP]at hd
  simp only[addrAt,aO r hr]at h ⊢;split at h
  ·rename_i v b n c hr;split at h
   next hl=>rw[bB ((hw.xh _ (hg _ _ hl)).trans hl)];exact h
   ·cases h
  ·cases h
 | j :: i :: s :: x :: y :: q,ad,hd,h=>by
  have vQ:=akw (by simp) hd;simp only[addrAt]at h ⊢;cases ha:addrAt w aj ρ (x::y::q)with
  |none=>rw[ha]at h;cases h
  | some p5=>
   rw[S4 hw hg aO _ _ vQ ha];rw[ha]at h;cases hc:w.cell? p5 with
   |none=>simp[hc]at h
   | some v=>
    have br:aj p5.block≠some [d]:=by
     obtain⟨j',i',s',q',e,hl,_⟩:=zm _ _ ha;rw[hl];intro e';injection e' with e';subst e';rw[e]at vQ;simp[bP]at vQ
    have e:w'.cell? p5=some v:=(mH (hw.block _ (block_lt_of_cell hc) br)).trans hc;simp only[Option.bind_some,hc]at h;simp only[Option.bind_some,e];split at h
    ·split at h
     next hl=>rw[bB ((hw.xh _ (hg _ _ hl)).trans hl)];exact h
     ·cases h
    ·cases h
theorem aab(hw:vP w w' aj aD d)(hg:∀ b k,aj b=some k->b<w.heap.size)(aO:∀ r,r≠d->ρ' r=ρ r)(k:af Nat)(u:Value)(hd:bP d k=false)(h:cJ w aj ρ k=some u):cJ w' aD ρ' k=some u:=by
 match k,hd,h with
 |[],_,h=>simp[cJ,addrAt]at h
 | [r],hd,h=>
  have hr:r≠d:=by rintro rfl;simp[bP]at hd
  simp only[cJ,aO r hr]at h ⊢;exact h
 | x :: y :: q,hd,h=>
  simp only[cJ]at h ⊢;cases ha:addrAt w aj ρ (x::y::q)with
  |none=>rw[ha]at h;cases h
  | some ad=>
   rw[S4 hw hg aO _ _ hd ha];rw[ha]at h;have h:w.cell? ad=some u:=h;have br:aj ad.block≠some [d]:=by
    obtain⟨j',i',s',q',e,hl,_⟩:=zm _ _ ha;rw[hl];intro e';injection e' with e';subst e';rw[e]at hd;simp[bP]at hd
   exact(mH (hw.block _ (block_lt_of_cell h) br)).trans h
theorem dY.nA{x:Lf}{u:Value}(h:dY w B aj ρ x u)(hw:vP w w' aj aD d)(hg:∀ b k,aj b=some k->b<w.heap.size)(aO:∀ r,r≠d->ρ' r=ρ r):dY w' B aD ρ' (x.drop d) u:=by
 cases x with
 |v x=>exact⟨h.1,h.2.nA hw (.inr h.1)⟩
 |dead=>trivial
 | own k=>
  have e:Lf.drop d (.own k)=(bif bP d k then .dead else .own k):=rfl;rw[e];cases hl:bP d k with
  |true=>trivial
  |false=>exact⟨h.1,aab hw hg aO k u hl h.2⟩
theorem eG.nA{cs:af Lf}{us:Array Value}(h:eG w B aj ρ cs us)(hw:vP w w' aj aD d)(hg:∀ b k,aj b=some k->b<w.heap.size)(aO:∀ r,r≠d->ρ' r=ρ r):eG w' B aD ρ' (cs.map (Lf.drop d)) us:=by
 refine⟨by rw[gB];exact h.1,λj x hx=>?_⟩
 rw[dP]at hx;cases hy:cs[j]? with
 |none=>rw[hy]at hx;cases hx
 | some y=>
  rw[hy]at hx;injection hx with hx;subst hx;obtain⟨u,hu,r⟩:=h.2 j y hy;exact⟨u,hu,r.nA hw hg aO⟩
theorem RP.nA{p:Bool×af Lf}{u:Value}(h:RP w B aj ρ p u)(hw:vP w w' aj aD d)(hg:∀ b k,aj b=some k->b<w.heap.size)(aO:∀ r,r≠d->ρ' r=ρ r):RP w' B aD ρ' (p.1,p.2.map (Lf.drop d)) u:=by
 obtain⟨b,cs⟩:=p;cases b with
 |true=>obtain⟨us,e,h⟩:=h;exact⟨us,e,h.nA hw hg aO⟩
 |false=>exact eG.nA h hw hg aO
theorem RA.nA{x:A}{u:Value}(h:RA w B aj ρ x u)(hw:vP w w' aj aD d)(hg:∀ b k,aj b=some k->b<w.heap.size)(aO:∀ r,r≠d->ρ' r=ρ r):RA w' B aD ρ' (x.drop d) u:=by
 cases x with
 |undef=>trivial
 |skip=>exact h
 |lf x=>exact dY.nA h hw hg aO
 |agg cs=>exact RP.nA (p:=(true,cs)) h hw hg aO
 | cU xs=>
  obtain⟨us,e,hs,h⟩:=h
  refine⟨us,e,by rw[gB];exact hs,λj p hp=>?_⟩
  rw[dP]at hp;cases hy:xs[j]? with
  |none=>rw[hy]at hp;cases hp
  | some y=>
   rw[hy]at hp;injection hp with hp;subst hp;obtain⟨v,hv,r⟩:=h j y hy;exact⟨v,hv,r.nA hw hg aO⟩
 | ptr k=>
  have e:A.drop d (.ptr k)=(bif bP d k then .undef else .ptr k):=rfl;rw[e];cases hl:bP d k with
  |true=>trivial
  |false=>obtain⟨ad,e,h⟩:=h;exact⟨ad,e,S4 hw hg aO k _ hl h⟩
 | view k s i j=>
  have e:A.drop d (.view k s i j)=(bif bP d k then .undef else .view k s i j):=rfl;rw[e];cases hl:bP d k with
  |true=>trivial
  |false=>obtain⟨A,n,c,h,g⟩:=h;exact⟨A,n,c,aab hw hg aO k _ hl h,g⟩
 | pk r n=>
  have e:A.drop d (.pk r n)=(bif Nat.beq r d then .undef else .pk r n):=rfl;rw[e];cases hl:Nat.beq r d with
  |true=>trivial
  | false=>
   have hr:r≠d:=by rintro rfl;simp at hl
   obtain⟨b,e,h⟩:=h;exact⟨b,(aO r hr).trans e,h⟩
 | aK r j=>
  have e:A.drop d (.aK r j)=(bif Nat.beq r d then .undef else .aK r j):=rfl;rw[e];cases hl:Nat.beq r d with
  |true=>trivial
  | false=>
   have hr:r≠d:=by rintro rfl;simp at hl
   obtain⟨b,off,e,h⟩:=h;exact⟨b,off,(aO r hr).trans e,h⟩
 | je cs=>
  obtain⟨b,off,e,hb,hl,h⟩:=h;have br:aj b≠some [d]:=by rw[hl];simp
  refine⟨b,off,e,mg hb hw.size,(hw.xh b hb).trans hl,λj x hx=>?_⟩
  obtain⟨hf,v,hv,hr⟩:=h j x hx;exact⟨hf,v,(mH (a:=⟨b,_,none⟩) (hw.block b hb br)).trans hv,hr.nA hw (.inr hf)⟩
 | mm f cs=>
  obtain⟨pv,e0,h⟩:=h;refine⟨pv,e0,?_⟩;obtain⟨b,off,e,hb,hl,h⟩:=h;have br:aj b≠some [d]:=by rw[hl];simp
  refine⟨b,off,e,mg hb hw.size,(hw.xh b hb).trans hl,λj x hx=>?_⟩
  obtain⟨hf,v,hv,hr⟩:=h j x hx;exact⟨hf,v,(mH (a:=⟨b,_,none⟩) (hw.block b hb br)).trans hv,hr.nA hw (.inr hf)⟩
 | fn f cap=>
  have e:A.drop d (.fn f cap)=(bif cap.any (λp=>Nat.beq p.1 d)then .undef else .fn f cap):=rfl;rw[e];cases hl:cap.any (λp=>Nat.beq p.1 d)with
  |true=>trivial
  | false=>
   obtain⟨vs,e,hs,h⟩:=h
   refine⟨vs,e,hs,λj p hp=>?_⟩
   obtain⟨b,off,e2,h2⟩:=h j p hp;have hr:p.1≠d:=by
    rintro rfl;have:=List.any_eq_false.1 hl p (hJ hp);simp at this
   exact⟨b,off,(aO _ hr).trans e2,h2⟩
theorem fz.nA{r:Nat}(hr:r≠d){x:bg}(h:fz w B aj ρ r x)(hw:vP w w' aj aD d)(hg:∀ b k,aj b=some k->b<w.heap.size)(aO:∀ r,r≠d->ρ' r=ρ r):fz w' B aD ρ' r (x.drop d):=by
 have xj:¬ [d] <:+ [r]:=Z1 (λe=>hr e.symm);cases h with
 | aC b off cells e cs us jB hl hh hs hc=>
  have hb:b<w.heap.size:=(ia.1 hh).1;have br:aj b≠some [d]:=by
   rw[hl];intro e;injection e with e;injection e with e;exact hr e
  refine .aC b off cells e _ us ((aO r hr).trans jB) ((hw.xh b hb).trans hl) ((hw.block b hb br).trans hh) (by rw[gB];exact hs) (λj x hx=>?_)
  rw[dP]at hx;cases hy:cs[j]? with
  |none=>rw[hy]at hx;cases hx
  | some y=>
   rw[hy]at hx;injection hx with hx;subst hx;exact⟨(hc j y hy).1,(hc j y hy).2.nA hw hg aO⟩
 |sl v y jB GH=>exact .sl v y ((aO r hr).trans jB) (GH.nA hw (.inl xj))
 | mp b c es l jB hl hh he=>
  have hb:b<w.heap.size:=(ia.1 hh).1;have br:aj b≠some [d]:=by
   rw[hl];intro e;injection e with e;injection e with e;exact hr e
  exact .mp b c es l ((aO r hr).trans jB) ((hw.xh b hb).trans hl) ((hw.block b hb br).trans hh) he
 | gh us xs jB hx=>
  refine .gh us _ ((aO r hr).trans jB) (λj x hj=>?_)
  rw[dP]at hj;cases hy:xs[j]? with
  |none=>rw[hy]at hj;cases hj
  | some y=>
   rw[hy]at hj;injection hj with hj;subst hj;exact(hx j y hy).nA hw hg aO
theorem Rl.Bo{x:bg}(h:Rl w0 N aj ρ σ a w)(hF:w0.F d=none)(hb:kJ w0 w w')(hw:vP w w' aj aD d)(hg:∀ b k,w.heap.size<=b->aD b=some k->b<w'.heap.size/\k≠[])(aO:∀ r,r≠d->ρ' r=ρ r)(hx:fz w' w0.heap.size aD ρ' d x):
  Rl w0 N aD ρ' ((σ.drop d).root d x) a w':=by
 have uo:∀b k,aj b=some k->b<w.heap.size:=λb k hb=>(h.dF b k hb).2.1
 refine⟨h.below.trans hb,λb k nu=>?_,λr y hy=>?_,λk=>(h.tmp k).nA hw uo aO,h.size,h.defers,λr l' hr=>(aO r (by rintro rfl;rw[hF]at hr;cases hr)).trans (h.fix r l' hr),h.ef⟩
 ·rcases Nat.lt_or_ge b w.heap.size with bW | ox
  ·rw[hw.xh b bW]at nu;have:=h.dF b k nu;exact⟨this.1,mg this.2.1 hw.size,this.2.2⟩
  ·have:=hg b k ox nu;exact⟨.inl (Nat.le_trans h.below.size ox),this.1,this.2⟩
 ·by_cases hr:r=d
  ·subst hr;have hy:(cB (σ.drop r).m r (some x)) r=some y:=hy;rw[cG]at hy;injection hy with hy;subst hy;exact hx
  ·have hy:(cB (σ.drop d).m d (some x)) r=some y:=hy;rw[cV _ _ _ hr]at hy;have hb:Nat.beq r d=false:=by
    cases hb:Nat.beq r d with
    |false=>rfl
    |true=>exact absurd (cr hb) hr
   simp only[S.drop,hb,au]at hy;cases hm:σ.m r with
   |none=>rw[hm]at hy;cases hy
   | some z=>
    rw[hm]at hy;injection hy with hy;subst hy;exact(h.root r z hm).nA hr hw uo aO
end
end Go.Proofs.YtecofnkoloihpaaGreat
namespace Go.Proofs.YtecofnkoloihpaaGreat
open Go.RowKit
set_option linter.unusedVariables false
def jh(q:Nat)(nk k:af Nat):af Nat:=bif bP q k then k.dropLast++nk else k
def bM.jh(aj:bM)(q:Nat)(nk:af Nat):bM:=λb=>(aj b).map (Proofs.YtecofnkoloihpaaGreat.jh q nk)
section
variable {P:Program} {w w':World} {w0:Wd} {B N:Nat} {aj aD:bM} {ρ ρ':Nat->Loc} {σ:S} {a:Act} {X:Type} {d q:Nat} {nk:af Nat}
theorem aac:jh q nk [q]=nk:=by simp[jh,bP]
theorem akx{k:af Nat}(h:bP q k=false):jh q nk k=k:=by simp[jh,h]
theorem aky{j i s:Nat}{k:af Nat}(hk:k≠[]):jh q nk (j :: i :: s :: k)=j :: i :: s :: jh q nk k:=by
 unfold jh;rw[Mo hk];cases bP q k with
 |false=>rfl
 | true=>
  cases k with
  |nil=>exact absurd rfl hk
  |cons x k=>simp
theorem aad{k:af Nat}(hn:nk≠[])(hk:k≠[]):jh q nk k≠[]:=by
 unfold jh;cases bP q k with
 |false=>simpa using hk
 |true=>simp[hn]
theorem bM.S5{b:Nat}(h:aj b=none):aj.jh q nk b=none:=by simp[bM.jh,h]
theorem bM.aae{b:Nat}{k:af Nat}(h:aj b=some k):aj.jh q nk b=some (Proofs.YtecofnkoloihpaaGreat.jh q nk k):=by simp[bM.jh,h]
theorem bM.aaf{b:Nat}{k:af Nat}(h:aj b=some k)(hk:bP q k=false):aj.jh q nk b=some k:=by rw[bM.aae h,akx hk]
theorem RV.jh{k:af Nat}{x:V}{v:Value}(h:RV w B aj k x v)(br:∀ b,aj b≠some []):RV w B (aj.jh q nk) (Proofs.YtecofnkoloihpaaGreat.jh q nk k) x v:=by
 induction h with
 |int=>exact .int _ _ _
 |bool=>exact .bool _ _
 |str=>exact .str _ _
 |nil=>exact .nil _
 |c9=>exact .c9 _ _ _
 |dm=>exact .dm _ _ _ _ _ (by first|assumption|omega)
 |dD=>exact .dD _ _ _ _ _ (by first|assumption|omega)
 | az k t o qn l b off cap u ho hl hb h1 eA hc hr ih=>
  exact .az _ _ _ _ _ _ _ _ u ho (bM.S5 hl) hb h1 eA hc (λi h j x hx=>ih i h j x hx)
 | own k t o qn l b cap cs u hl hh hs hn hm hc hr ih=>
  have hk:k≠[]:=by rintro rfl;exact br b hl
  refine .own _ _ _ _ _ _ _ cs u (bM.aae hl) hh hs hn hm hc (λi h j x hx=>?_)
  have:=ih i h j x hx;rw[aky hk]at this;exact this
structure Rel (q:Nat) (aj aD:bM):Prop where
 ne:∀b,aj b≠some []
 none:∀b,aj b=none->aD b=Option.none
 iz:∀b k,aj b=some k->bP q k=false->aD b=some k
theorem GQ(br:∀b,aj b≠some []):Rel q aj (aj.jh q nk):=⟨br,λ_ h=>bM.S5 h,λ_ _ h hk=>bM.aaf h hk⟩
theorem RV.rel(dn:Rel q aj aD){k:af Nat}{x:V}{v:Value}(h:RV w B aj k x v)(hk:bP q k=false\/x.az=true):RV w B aD k x v:=by
 induction h with
 |int=>exact .int _ _ _
 |bool=>exact .bool _ _
 |str=>exact .str _ _
 |nil=>exact .nil _
 |c9=>exact .c9 _ _ _
 |dm=>exact .dm _ _ _ _ _ (by first|assumption|omega)
 |dD=>exact .dD _ _ _ _ _ (by first|assumption|omega)
 | az k t o qn l b off cap u ho hl hb h1 eA hc hr ih=>
  exact .az _ _ _ _ _ _ _ _ u ho (dn.none _ hl) hb h1 eA hc (λi h j x hx=>ih i h j x hx (.inr (mj t o l[i] ho j x hx)))
 | own k t o qn l b cap cs u hl hh hs hn hm hc hr ih=>
  have eB:bP q k=false:=by
   rcases hk with hk|hk
   ·exact hk
   ·simp[V.az]at hk;omega
  refine .own _ _ _ _ _ _ _ cs u (dn.iz _ _ hl eB) hh hs hn hm hc (λi h j x hx=>ih i h j x hx ?_)
  cases k with
  |nil=>exact absurd hl (dn.ne b)
  |cons z k=>exact .inl (by rw[Mo (by simp)];exact eB)
theorem S6(dn:Rel q aj aD):∀ (k:af Nat) (ad:Addr),bP q k=false->addrAt w aj ρ k=some ad->addrAt w aD ρ k=some ad
 |[],_,_,h=>h
 |[_],_,_,h=>h
 |[_,_],_,_,h=>h
 |[_,_,_],_,_,h=>by simp only[addrAt]at h ⊢;exact h
 | [j,i,s,r],_,hd,h=>by
  have hr:bP q [r]=false:=by simpa [bP]using hd
  simp only[addrAt]at h ⊢;split at h
  ·rename_i v b n c e;split at h
   next hl=>rw[bB (dn.iz _ _ hl hr)];exact h
   ·cases h
  ·cases h
 | j :: i :: s :: x :: y :: k,ad,hd,h=>by
  have vQ:bP q (x::y::k)=false:=by simpa [bP]using hd
  simp only[addrAt]at h ⊢;cases ha:addrAt w aj ρ (x::y::k)with
  |none=>rw[ha]at h;cases h
  | some p5=>
   rw[S6 dn _ _ vQ ha];rw[ha]at h;split at h
   ·rename_i v b n c e;split at h
    next hl=>rw[bB (dn.iz _ _ hl vQ)];exact h
    ·cases h
   ·cases h
theorem S7(dn:Rel q aj aD)(k:af Nat)(u:Value)(hd:bP q k=false)(h:cJ w aj ρ k=some u):cJ w aD ρ k=some u:=by
 match k,hd,h with
 |[],_,h=>simp[cJ,addrAt]at h
 |[r],_,h=>exact h
 | x :: y :: k,hd,h=>
  simp only[cJ]at h ⊢;cases ha:addrAt w aj ρ (x::y::k)with
  |none=>rw[ha]at h;cases h
  | some ad=>
   rw[S6 dn _ _ hd ha];rw[ha]at h;exact h
theorem dY.rel(dn:Rel q aj aD){x:Lf}{u:Value}(h:dY w B aj ρ x u):dY w B aD ρ (x.drop q) u:=by
 cases x with
 |v x=>exact⟨h.1,h.2.rel dn (.inr h.1)⟩
 |dead=>trivial
 | own k=>
  have e:Lf.drop q (.own k)=(bif bP q k then .dead else .own k):=rfl;rw[e];cases hl:bP q k with
  |true=>trivial
  |false=>exact⟨h.1,S7 dn k u hl h.2⟩
theorem eG.rel(dn:Rel q aj aD){cs:af Lf}{us:Array Value}(h:eG w B aj ρ cs us):eG w B aD ρ (cs.map (Lf.drop q)) us:=by
 refine⟨by rw[gB];exact h.1,λj x hx=>?_⟩
 rw[dP]at hx;cases hy:cs[j]? with
 |none=>rw[hy]at hx;cases hx
 | some y=>
  rw[hy]at hx;injection hx with hx;subst hx;obtain⟨u,hu,r⟩:=h.2 j y hy;exact⟨u,hu,r.rel dn⟩
theorem RP.rel(dn:Rel q aj aD){p:Bool×af Lf}{u:Value}(h:RP w B aj ρ p u):RP w B aD ρ (p.1,p.2.map (Lf.drop q)) u:=by
 obtain⟨b,cs⟩:=p;cases b with
 |true=>obtain⟨us,e,h⟩:=h;exact⟨us,e,h.rel dn⟩
 |false=>exact eG.rel dn h
theorem RA.rel(dn:Rel q aj aD){x:A}{u:Value}(h:RA w B aj ρ x u):RA w B aD ρ (x.drop q) u:=by
 cases x with
 |undef=>trivial
 |skip=>exact h
 |lf x=>exact dY.rel dn h
 |agg cs=>exact RP.rel dn (p:=(true,cs)) h
 | cU xs=>
  obtain⟨us,e,hs,h⟩:=h
  refine⟨us,e,by rw[gB];exact hs,λj p hp=>?_⟩
  rw[dP]at hp;cases hy:xs[j]? with
  |none=>rw[hy]at hp;cases hp
  | some y=>
   rw[hy]at hp;injection hp with hp;subst hp;obtain⟨v,hv,r⟩:=h j y hy;exact⟨v,hv,r.rel dn⟩
 | ptr k=>
  have e:A.drop q (.ptr k)=(bif bP q k then .undef else .ptr k):=rfl;rw[e];cases hl:bP q k with
  |true=>trivial
  |false=>obtain⟨ad,e,h⟩:=h;exact⟨ad,e,S6 dn k ad hl h⟩
 | view k s i j=>
  have e:A.drop q (.view k s i j)=(bif bP q k then .undef else .view k s i j):=rfl;rw[e];cases hl:bP q k with
  |true=>trivial
  |false=>obtain⟨A,n,c,h,r⟩:=h;exact⟨A,n,c,S7 dn k _ hl h,r⟩
 | aK r j=>
  have e:A.drop q (.aK r j)=(bif Nat.beq r q then .undef else .aK r j):=rfl;rw[e];cases hl:Nat.beq r q with
  |true=>trivial
  |false=>exact h
 | pk r n=>
  have e:A.drop q (.pk r n)=(bif Nat.beq r q then .undef else .pk r n):=rfl;rw[e];cases hl:Nat.beq r q with
  |true=>trivial
  |false=>exact h
 | je cs=>
  obtain⟨b,off,e,hb,hl,h⟩:=h
  refine⟨b,off,e,hb,dn.none _ hl,λj x hx=>?_⟩
  obtain⟨hf,v,hv,hr⟩:=h j x hx;exact⟨hf,v,hv,hr.rel dn (.inr hf)⟩
 | mm f cs=>
  obtain⟨pv,e0,h⟩:=h;refine⟨pv,e0,?_⟩;obtain⟨b,off,e,hb,hl,h⟩:=h
  refine⟨b,off,e,hb,dn.none _ hl,λj x hx=>?_⟩
  obtain⟨hf,v,hv,hr⟩:=h j x hx;exact⟨hf,v,hv,hr.rel dn (.inr hf)⟩
 | fn f cap=>
  have e:A.drop q (.fn f cap)=(bif cap.any (λp=>Nat.beq p.1 q)then .undef else .fn f cap):=rfl;rw[e];cases hl:cap.any (λp=>Nat.beq p.1 q)with
  |true=>trivial
  |false=>exact h
theorem fz.rel(dn:Rel q aj aD){r:Nat}(hr:r≠q){x:bg}(h:fz w B aj ρ r x):fz w B aD ρ r (x.drop q):=by
 have xj:bP q [r]=false:=by simpa [bP]using λe=>hr e
 cases h with
 | aC b off cells e cs us jB hl hh hs hc=>
  refine .aC b off cells e _ us jB (dn.iz _ _ hl xj) hh (by rw[gB];exact hs) (λj x hx=>?_)
  rw[dP]at hx;cases hy:cs[j]? with
  |none=>rw[hy]at hx;cases hx
  | some y=>
   rw[hy]at hx;injection hx with hx;subst hx;exact⟨(hc j y hy).1,(hc j y hy).2.rel dn⟩
 |sl v y jB GH=>exact .sl v y jB (GH.rel dn (.inl xj))
 |mp b c es l jB hl hh he=>exact .mp b c es l jB (dn.iz _ _ hl xj) hh he
 | gh us xs jB hx=>
  refine .gh us _ jB (λj x hj=>?_)
  rw[dP]at hj;cases hy:xs[j]? with
  |none=>rw[hy]at hj;cases hj
  | some y=>
   rw[hy]at hj;injection hj with hj;subst hj;exact(hx j y hy).rel dn
theorem Rl.xk(h:Rl w0 N aj ρ σ a w):∀b,aj b≠some []:=λb hb=>(h.dF b [] hb).2.2 rfl
theorem Rl.rel(h:Rl w0 N aj ρ σ a w)(dn:Rel q aj aD)(hg:∀ b k,aD b=some k->(∃ k',aj b=some k')/\k≠[]):Rl w0 N aD ρ (σ.drop q) a w:=by
 refine⟨h.below,λb k nu=>?_,λr x hx=>?_,λk=>(h.tmp k).rel dn,h.size,h.defers,h.fix,h.ef⟩
 ·obtain⟨⟨k',hl⟩,hk⟩:=hg b k nu;have:=h.dF b k' hl;exact⟨this.1,this.2.1,hk⟩
 ·have hx:(bif Nat.beq r q then none else (σ.m r).map (bg.drop q))=some x:=hx;cases hb:Nat.beq r q with
  |true=>rw[hb]at hx;cases hx
  | false=>
   rw[hb,au]at hx;have dG:r≠q:=by rintro rfl;simp at hb
   cases pn:σ.m r with
   |none=>rw[pn]at hx;cases hx
   | some y=>
    rw[pn]at hx;injection hx with hx;subst hx;exact(h.root r y pn).rel dn dG
theorem Rl.akz{z:V}(h:Rl w0 N aj ρ σ a w)(hm:σ.m q=some (.sl z))(hn:nk≠[]):∃ u,ρ q = .eK u/\Rl w0 N (aj.jh q nk) ρ (σ.drop q) a w/\RV w w0.heap.size (aj.jh q nk) nk z u:=by
 have br:=h.xk;have hq:=h.root q _ hm;generalize he:bg.sl z=x at hq;cases hq with
 |aC=>cases he
 |mp=>cases he
 |gh=>cases he
 | sl u y aO hr=>
  injection he with he;subst he
  refine⟨u,aO,h.rel (GQ br) λb k nu=>?_,?_⟩
  ·unfold bM.jh at nu;cases hl:aj b with
   |none=>rw[hl]at nu;cases nu
   | some k'=>
    rw[hl]at nu;injection nu with nu;subst nu;exact⟨⟨k',rfl⟩,aad hn (λe=>br b (by rw[hl,e]))⟩
  ·have:=hr.jh (q:=q) (nk:=nk) br
   rwa [aac]at this
def ji(r:Nat)(key:Nat->af Nat):Nat->Nat->af Lf->S->ak (af V×S)
 |_,_,[],σ=>some ([],σ)
 |f+1,j,.v x::xs,σ=>(ji r key f (j+1) xs σ).map λp=>(x::p.1,p.2)
 | f+1,j,.own [q] :: xs,σ=>match σ.m q with
  |some (.sl z)=>bif Nat.beq q r then none else (ji r key f (j+1) (xs.map (Lf.drop q)) (σ.drop q)).map λp=>(z::p.1,p.2)
  |_=>none
 |_,_,_,_=>none
theorem Mp{r:Nat}{key:Nat->af Nat}(Bp:∀ j,bP r (key j)=true):∀ (f j:Nat) (xs:af Lf) (σ τ:S) (vs:af V),ji r key f j xs σ=some (vs,τ)->∀ aj ρ a w,Rl w0 N aj ρ σ a w->∀ us:af Value,eG w w0.heap.size aj ρ xs us.toArray->
  ∃ aD,Rl w0 N aD ρ τ a w/\vs.length=xs.length/\(∀ (n:Nat) x,vs[n]?=some x->∃ u,us[n]?=some u/\RV w w0.heap.size aD (key (j+n)) x u)/\(∀ k x v,bP r k=true->RV w w0.heap.size aj k x v->RV w w0.heap.size aD k x v)/\
   (∀x,σ.m r=some (.sl x)->τ.m r=some (.sl x))/\(∀k u,bP r k=true->cJ w aj ρ k=some u->cJ w aD ρ k=some u)/\(∀b,aj b=some [r]->aD b=some [r])/\(∀b,aj b=none->aD b=none)
 | 0,j,[],σ,τ,vs,h,aj,ρ,a,w,hR,us,hu=>by
  simp only[ji,gl,jx]at h;obtain⟨rfl,rfl⟩:=h;exact⟨aj,hR,rfl,by simp,λ_ _ _ _ h=>h,λ_ h=>h,λ_ _ _ h=>h,λ_ h=>h,λ_ h=>h⟩
 | f+1,j,[],σ,τ,vs,h,aj,ρ,a,w,hR,us,hu=>by
  simp only[ji,gl,jx]at h;obtain⟨rfl,rfl⟩:=h;exact⟨aj,hR,rfl,by simp,λ_ _ _ _ h=>h,λ_ h=>h,λ_ _ _ h=>h,λ_ h=>h,λ_ h=>h⟩
 |0,j,x::xs,σ,τ,vs,h,aj,ρ,a,w,hR,us,hu=>by simp[ji]at h
 | f+1,j,x :: xs,σ,τ,vs,h,aj,ρ,a,w,hR,us,hu=>by
  obtain⟨u0,us,rfl⟩:∃ u0 Mq,us=u0 :: Mq:=by
   cases us with
   |nil=>have:=hu.1;simp at this
   |cons u0 us=>exact⟨_,_,rfl⟩
  have kr:dY w w0.heap.size aj ρ x u0:=by
   obtain⟨u,e,h⟩:=hu.2 0 x rfl;simp at e;subst e;exact h
  have gv:eG w w0.heap.size aj ρ xs us.toArray:=⟨by have:=hu.1;simpa using this,λn y hy=>by
   obtain⟨u,e,h⟩:=hu.2 (n+1) y hy;exact⟨u,by simpa using e,h⟩⟩
  cases x with
  | v x=>
   simp only[ji,Option.map_eq_some_iff]at h;obtain⟨⟨tv,gp⟩,h,e⟩:=h;simp only[jx]at e;obtain⟨rfl,rfl⟩:=e;obtain⟨aD,h1,h2,h3,h4,h5⟩:=Mp Bp f (j+1) xs σ gp tv h aj ρ a w hR us gv
   refine⟨aD,h1,by simp[h2],λn y hy=>?_,h4,h5⟩
   cases n with
   | zero=>
    simp at hy;subst hy;refine⟨u0,rfl,h4 _ _ _ (Bp _) (kr.2.key kr.1)⟩
   | succ n=>
    obtain⟨u,e,h⟩:=h3 n y (by simpa using hy);exact⟨u,by simpa using e,by rw[show j+(n+1)=j+1+n by omega];exact h⟩
  |dead=>simp[ji]at h
  | own k=>
   match k,kr,h with
   |[],_,h=>simp[ji]at h
   |_::_::_,_,h=>simp[ji]at h
   | [q],kr,h=>
    simp only[ji]at h;split at h
    ·rename_i z hz;cases S8:Nat.beq q r with
     |true=>rw[S8]at h;cases h
     | false=>
      rw[S8,au,Option.map_eq_some_iff]at h;obtain⟨⟨tv,gp⟩,akA,e⟩:=h;simp only[jx]at e;obtain⟨rfl,rfl⟩:=e;have br:q≠r:=by rintro rfl;simp at S8
      have hkj:key j≠[]:=by intro e;have:=Bp j;rw[e]at this;simp[bP]at this
      obtain⟨u,aO,aV,lN⟩:=hR.akz hz hkj;have GR:u=u0:=by
       have h4:=kr.2;simp only[cJ,aO]at h4;injection h4
      subst GR;have js:∀ k,bP r k=true->bP q k=false:=by
       intro k hk;cases hq:bP q k with
       |false=>rfl
       | true=>
        exfalso;have h1:=S3 hk;have h2:=S3 hq;exact br (Z3 h1 h2)
      obtain⟨aD,h1,h2,h3,h4,h5,h6,h7,h8⟩:=Mp Bp f (j+1) (xs.map (Lf.drop q)) (σ.drop q) gp tv akA _ ρ a w aV us (gv.rel (GQ hR.xk))
      refine⟨aD,h1,by simp[h2],λn y hy=>?_,λk x v hk hv=>h4 _ _ _ hk (hv.rel (GQ hR.xk) (.inl (js k hk))),λx hx=>h5 x ?_,λk v hk hv=>h6 k v hk (S7 (GQ hR.xk) k v (js k hk) hv),λb hb=>h7 b (bM.aaf hb (by simpa [bP]using λe=>br e.symm)),λb hb=>h8 b (bM.S5 hb)⟩
      ·cases n with
       | zero=>
        simp at hy;subst hy;exact⟨u,rfl,h4 _ _ _ (Bp _) lN⟩
       | succ n=>
        obtain⟨u,e,h⟩:=h3 n y (by simpa using hy);exact⟨u,by simpa using e,by rw[show j+(n+1)=j+1+n by omega];exact h⟩
      ·have hb:Nat.beq r q=false:=by
        cases hb:Nat.beq r q with
        |false=>rfl
        |true=>exact absurd (cr hb).symm br
       simp only[S.drop,hb,au,hx,jM,bg.drop]
    ·cases h
end
end Go.Proofs.YtecofnkoloihpaaGreat
namespace Go.Proofs.YtecofnkoloihpaaGreat
open Go.RowKit
set_option linter.unusedVariables false
def jE:Value->Lf
 |.int k n=>.v (.int k n)
 |.bool b=>.v (.bool b)
 |.string s=>.v (.str s)
 |.slice none 0 0=>.v .nil
 |_=>.dead
def zeroV:Value->ak V
 |.int k n=>some (.int k n)
 |.bool b=>some (.bool b)
 |.string s=>some (.str s)
 |.slice none 0 0=>some .nil
 |_=>none
def GS:af Value->ak (af V)
 |[]=>some []
 | v :: vs=>match zeroV v,GS vs with
  |some x,some xs=>some (x::xs)
  |_,_=>none
def zeroOf(P:Program)(e:TypeId):ak Value:=(P.info? e).bind (·.zero)
def bytesOf(P:Program)(e:TypeId):ak Nat:=(P.info? e).map (·.bytes)
def jF{X:Type}(N:Nat)(σ:S)(d:Nat)(x:bg)(y:A)(k:S->ak X):ak X:=
 bif Nat.blt d N then k (((σ.drop d).root d x).set d y)else none
def tw{X:Type}(P:Program)(N:Nat)(σ:S)(d:Nat)(e:TypeId)(k:S->ak X):ak X:=
 match zeroOf P e with
 |some z=>jF N σ d (.aC (z.cells.toList.map jE)) (.aK d 0) k
 |none=>none
def vR(P:Program)(t:TypeId):ak (TypeId×TC):=
 match qY P t with
 |none=>none
 | some e=>match ZW e,kM P e,bytesOf P e with
  |some tc,some n,some b=>bif Nat.beq n (aB tc)&&Nat.ble b 65536 then some (e,tc)else none
  |_,_,_=>none
def Mr(P:Program)(e:TypeId)(tc:TC):ak (T tc):=
 match zeroOf P e with
 |none=>none
 | some z=>match GS z.cells.toList with
  |none=>none
  |some vs=>dec tc (full tc) vs
def Bq{X:Type}(P:Program)(N:Nat)(σ:S)(d:Nat)(t:TypeId)(l c:A)(k:S->ak X):ak X:=
 match vR P t,l,c with
 | some (e,tc),.lf (.v (.int _ n)),.lf (.v (.int _ c))=>match Mr P e tc with
  |none=>none
  |some z=>if 0<=n/\n<=c/\c<1073741824 then jF N σ d (.sl (.sl tc (full tc+2) false (List.replicate n.toNat z))) (.lf (.own [d])) k else none
 |_,_,_=>none
def V.Ms(t:TC):V->ak (af (T t))
 |.sl t' _ _ l=>if h:t'=t then some (h ▸ l)else none
 |.nil=>some []
 |_=>none
def q5{X:Type}(P:Program)(N:Nat)(σ:S)(d:Nat)(t:TypeId)(x y:A)(k:S->ak X):ak X:=
 match vR P t with
 | some (e,tc)=>bif Nat.beq (full tc) 0&&(zeroOf P e).any (λz=>Nat.beq z.cells.size (aB tc))then qX σ y λyv=>(match yv.Ms tc with
  |none=>none
  | some l2=>match x with
   |.lf (.v .nil)=>bif bH l2.length then jF N σ d (.sl (.sl tc 2 false l2)) (.lf (.own [d])) k else none
   | .lf (.own [r])=>(match σ.m r with
    |some (.sl (.sl t' (o+2) q l))=>if h:t'=tc then (bif Nat.blt d N&&(Nat.blt r N ||Nat.ble 60000 r)&&bH (l.length+l2.length)then k (((σ.drop r).root r (.sl (.sl tc (o+2) false ((h ▸ l)++l2)))).set d (.lf (.own [r])))else none)else none
    |_=>none)
   |_=>none)else none
 |none=>none
section
variable {P:Program} {w w':World} {w0:Wd} {B N:Nat} {aj aD:bM} {ρ ρ':Nat->Loc} {σ:S} {a:Act} {X:Type} {d:Nat} {r:X}
theorem Mt(v:Value):dY w B aj ρ (jE v) v:=by
 unfold jE;split
 ·exact⟨rfl,.int _ _ _⟩
 ·exact⟨rfl,.bool _ _⟩
 ·exact⟨rfl,.str _ _⟩
 ·exact⟨rfl,.nil _⟩
 ·trivial
theorem aag{v:Value}{x:V}(h:zeroV v=some x)(q:af Nat):RV w B aj q x v:=by
 unfold zeroV at h;split at h<;>first|(injection h with h;subst h;first|exact .int _ _ _|exact .bool _ _|exact .str _ _|exact .nil _)|cases h
theorem S9:∀ (vs:af Value) (xs:af V),GS vs=some xs->xs.length=vs.length/\∀ (j:Nat) x,xs[j]?=some x->∃ v,vs[j]?=some v/\zeroV v=some x
 | [],xs,h=>by
  simp[GS]at h;subst h;simp
 | v :: vs,xs,h=>by
  unfold GS at h;split at h
  ·rename_i y ys hy oC;injection h with h;subst h;obtain⟨h1,h2⟩:=S9 vs ys oC
   refine⟨by simp[h1],λj x hx=>?_⟩
   cases j with
   |zero=>simp at hx;subst hx;exact⟨v,rfl,hy⟩
   |succ j=>simp at hx;simpa using h2 j x hx
  ·cases h
theorem kJ.akB(w0:Wd)(w:World)(o:Obj)(h:w0.heap.size<=w.heap.size):kJ w0 w (w.alloc o):=.of ((Below.refl w0.heap.size w).alloc h o) (gj _)
theorem Rl.Ea{c:Array Value}{e:TypeId}{x:bg}{ρ':Nat->Loc}(h:Rl w0 N aj ρ σ a w)(hF:w0.F d=none)(aO:∀ r,r≠d->ρ' r=ρ r)
  (hx:fz (w.alloc (.cells c e)) w0.heap.size (cB aj w.heap.size (some [d])) ρ' d x):Rl w0 N (cB aj w.heap.size (some [d])) ρ' ((σ.drop d).root d x) a (w.alloc (.cells c e)):=by
 refine h.Bo hF (kJ.akB w0 w _ h.below.size) ⟨by simp,λb hb _=>Below.heap_alloc w _ b hb,λb hb=>cV _ _ _ (by omega),λb hb=>(h.dF b [] hb).2.2 rfl⟩ (λb k hb hk=>?_) aO hx
 by_cases e:b=w.heap.size
 ·subst e;rw[cG]at hk;injection hk with hk;subst hk;exact⟨by simp,by simp⟩
 ·rw[cV _ _ _ e]at hk;have:=(h.dF b k hk).2.1;omega
theorem q6{x:bg}{y:A}{k:S->ak X}(h:jF N σ d x y k=some r):d<N/\k (((σ.drop d).root d x).set d y)=some r:=by
 unfold jF at h;cases hN:Nat.blt d N with
 |false=>rw[hN]at h;cases h
 |true=>rw[hN]at h;exact⟨by have:=cT hN;omega,h⟩
theorem akC{e:TypeId}{k:S->ak X}(h:tw P N σ d e k=some r):∃ aA,k aA=some r/\∀ aj ρ a w,Rl w0 N aj ρ σ a w->∃ w' aD ρ' v,(Instr.alloc e true (.tuple #[])).run P w = .ok v w'/\Rl w0 N aD ρ' aA (a.put (some d) v) w':=by
 unfold tw at h;split at h
 ·rename_i z hz;obtain⟨hd,h⟩:=q6 h
  refine⟨_,h,λaj ρ a w hR=>?_⟩
  have bE:(Instr.alloc e true (.tuple #[])).run P w = .ok (.pointer (some ⟨w.heap.size,0,none⟩)) (w.alloc (.cells z.cells e)):=by
   unfold zeroOf at hz;cases hi:P.info? e with
   |none=>simp[hi]at hz
   | some i=>
    have hz:i.zero=some z:=by simpa [hi]using hz
    simp[Instr.alloc,zeroValue,typeInfo,hi,hz,newVar,newRow]
  refine⟨_,cB aj w.heap.size (some [d]),cB ρ d (.aC w.heap.size 0),_,bE,(hR.Ea (hR.ef d (.inl hd)) (λr hr=>cV _ _ _ hr) ?_).set ⟨w.heap.size,0,cG _ _ _,rfl⟩ hd⟩
  refine .aC w.heap.size 0 z.cells e _ (λj=>z.cells.getD j undef) (cG _ _ _) (cG _ _ _) (heap_alloc_new w _) (by simp) λj x hx=>?_
  rw[dP]at hx;cases hv:z.cells.toList[j]? with
  |none=>rw[hv]at hx;cases hx
  | some v=>
   rw[hv]at hx;injection hx with hx;subst hx;have eM:z.cells[j]?=some v:=by simpa using hv
   have hg:z.cells.getD j undef=v:=by rw[jn,eM];rfl
   rw[hg,fV];exact⟨eM,Mt v⟩
 ·cases h
theorem zy{t e:TypeId}{tc:TC}(h:vR P t=some (e,tc)):P.underlying t=some (.slice e)/\tid tc=e/\∃ i,P.info? e=some i/\i.size=aB tc/\i.bytes<=65536:=by
 unfold vR at h;split at h
 ·cases h
 ·rename_i e' he;split at h
  ·rename_i tc' n b htc hn hb;cases hc:(Nat.beq n (aB tc')&&Nat.ble b 65536)with
   |false=>rw[hc]at h;cases h
   | true=>
    rw[hc,aq]at h;injection h with h;injection h with h1 h2;subst h1 h2;rw[bx]at hc;refine⟨?_,ake htc,?_⟩
    ·unfold qY at he;split at he
     next e'' hu=>injection he with he;subst he;exact hu
     ·cases he
    ·unfold kM at hn;unfold bytesOf at hb;cases hi:P.info? e' with
     |none=>simp[hi]at hn
     | some i=>
      simp only[hi,jM,gl]at hn hb;refine⟨i,rfl,hn.trans (cr hc.1),by rw[hb];exact cT hc.2⟩
  ·cases h
theorem aah(z:Array Value)(n i j:Nat)(hz:j<z.size)(h:i*z.size+j<n):(madeCells z n)[i*z.size+j]?=some z[j]:=by
 have hm:(i*z.size+j) % z.size=j:=by rw[Nat.add_comm,Nat.add_mul_mod_self_right,Nat.mod_eq_of_lt hz]
 simp only[madeCells,Array.getElem?_map,Array.getElem?_range,h,if_true,jM,hm];simp[hz]
theorem akD{t:TypeId}{l c:A}{k:S->ak X}(h:Bq P N σ d t l c k=some r):∃ aA,k aA=some r/\∀ aj ρ a w,Rl w0 N aj ρ σ a w->∀ u v,RA w w0.heap.size aj ρ l u->RA w w0.heap.size aj ρ c v->
  ∃w' aD ρ' x,(Instr.makeSlice t u v).run P w = .ok x w'/\Rl w0 N aD ρ' aA (a.put (some d) x) w':=by
 unfold Bq at h;split at h
 ·rename_i e tc kl n kc c gE;split at h
  ·cases h
  ·rename_i z hz;split at h
   ·rename_i hb;obtain⟨hd,h⟩:=q6 h
    refine⟨_,h,λaj ρ a w hR u v hu hv=>?_⟩
    obtain rfl:=hu.2.jf;obtain rfl:=hv.2.jf;obtain⟨fQ,ht,i,hi,dO,lJ⟩:=zy gE;unfold Mr at hz;split at hz
    ·cases hz
    ·rename_i zv GU;split at hz
     ·cases hz
     ·rename_i vs gW;have qb:i.zero=some zv:=by unfold zeroOf at GU;simpa [hi]using GU
      obtain⟨qc,iA⟩:=S9 _ _ gW;have hk:=nW tc (full tc) vs z hz;have gM:zv.cells.size=aB tc:=by rw[<-lA tc (full tc) z,<-hk.1,qc];simp
      have RG:(i.bytes:Int)*c<=281474976710656:=by
       have h1:(i.bytes:Int)<=65536:=by omega
       have h2:(i.bytes:Int)*c<=65536*c:=Int.mul_le_mul_of_nonneg_right h1 (by omega);omega
      have bE:=run_make (P:=P) w t e i zv fQ hi qb kl kc n c hb.1 hb.2.1 RG (by omega);rw[dO,<-gM]at bE
      refine⟨_,cB aj w.heap.size (some [d]),cB ρ d (.eK (.slice (some ⟨w.heap.size,0,none⟩) n.toNat c.toNat)),_,bE,(hR.Ea (hR.ef d (.inl hd)) (λr hr=>cV _ _ _ hr) ?_).set ⟨rfl,?_⟩ hd⟩
      ·refine .sl _ _ (cG _ _ _) ?_;have hlen:(List.replicate n.toNat z).length=n.toNat:=by simp
       have:=RV.own (w:=w.alloc (.cells (madeCells zv.cells (c.toNat*zv.cells.size)) e)) (B:=w0.heap.size) (aj:=cB aj w.heap.size (some [d])) [d] tc (full tc) false (List.replicate n.toNat z) w.heap.size c.toNat (madeCells zv.cells (c.toNat*zv.cells.size)) (λ_ j=>zv.cells.getD j undef)
        (cG _ _ _) (by rw[ht];exact heap_alloc_new w _) (by rw[size_madeCells,gM]) (by rw[hlen];omega) ⟨by unfold maxLen;omega,λh=>by cases h⟩ (λi' h' j x hx=>?_) (λi' h' j x hx=>?_)
       ·rw[hlen]at this;exact this
       ·rw[List.getElem_replicate]at hx;have hj:j<aB tc:=by have:=(dS.1 hx).1;rwa [lA]at this
        rw[hlen]at h';rw[<-gM]at hj;rw[<-gM,aah zv.cells _ i' j hj (by
         have:(i'+1)*zv.cells.size<=c.toNat*zv.cells.size:=kG _ (by omega);rw[jo]at this;omega)]
        simp[jn,hj]
       ·rw[List.getElem_replicate]at hx;have hj:j<(enc tc (full tc) z).length:=(dS.1 hx).1;rw[<-hk.1]at hj;have hy:=cu hj;generalize vs[j]=y at hy;obtain⟨v,hv,Ta⟩:=iA j y hy;have eM:zv.cells[j]?=some v:=by simpa using hv
        have hg:zv.cells.getD j undef=v:=by rw[jn,eM];rfl
        rw[hg];exact(aag Ta _).wk (hk.2 j y x hy hx)
      ·simp[cJ,cG]
   ·cases h
 ·cases h
end
end Go.Proofs.YtecofnkoloihpaaGreat
namespace Go.Proofs.YtecofnkoloihpaaGreat
open Go.RowKit
set_option linter.unusedVariables false
section
variable {P:Program} {w w':World} {w0:Wd} {B N:Nat} {aj aD:bM} {ρ ρ':Nat->Loc} {σ:S} {a:Act} {X:Type} {d:Nat} {r:X}
theorem Eb(t:TC)(h:full t=0)(o o':Nat)(x:T t):enc t o x=enc t o' x:=by
 have key:∀ o,enc t o x=enc t 0 x:=by
  intro o;rw[ZX t o x];have:=zk t o x h
  conv=>lhs;rw[<-List.map_id (enc t o x)]
  apply mK;intro y hy;have hp:=this y hy;cases y<;>first|rfl|cases hp
 rw[key o,key o']
def xl(u:Nat->Nat->Value)(n s:Nat):af Value:=(List.range (n*s)).map λk=>u (k / s) (k % s)
theorem aai(u:Nat->Nat->Value)(n s i j:Nat)(hi:i<n)(hj:j<s):(xl u n s)[i*s+j]?=some (u i j):=by
 have bW:i*s+j<n*s:=by
  have:(i+1)*s<=n*s:=kG _ hi;rw[jo]at this;omega
 have hd:(i*s+j) / s=i:=by rw[Nat.add_comm,Nat.add_mul_div_right _ _ (by omega),Nat.div_eq_of_lt hj,fV]
 have hm:(i*s+j) % s=j:=by rw[Nat.add_comm,Nat.add_mul_mod_self_right,Nat.mod_eq_of_lt hj]
 simp[xl,bW,hd,hm]
theorem Mv(u:Nat->Nat->Value)(n s k:Nat)(v:Value)(hs:0<s)(h:(xl u n s)[k]?=some v):∃ i j,k=i*s+j/\i<n/\j<s/\v=u i j:=by
 have hk:k<n*s:=by
  have:=(dS.1 h).1
  simpa [xl]using this
 refine⟨k / s,k % s,by rw[Nat.mul_comm];exact(Nat.div_add_mod k s).symm,Nat.div_lt_of_lt_mul (by rw[Nat.mul_comm];exact hk),Nat.mod_lt _ hs,?_⟩;simp only[xl,dP,List.getElem?_range hk,jM,gl]at h;exact h.symm
theorem Br(t:TC)(o:Nat)(x:T t)(j:Nat)(hj:j<aB t):∃y,(enc t o x)[j]?=some y:=⟨_,cu (by rw[lA];exact hj)⟩
def xm(t:TC)(l:af (T t))(vs:af Value):Prop:=
 ∀i (hi:i<l.length) (o j:Nat) x,(enc t o l[i])[j]?=some x->∃v,vs[i*aB t+j]?=some v/\v.oneCell'=true/\∀(w':World) (B':Nat) (aD:bM) (q':af Nat),RV w' B' aD q' x v
theorem RV.reads{q:af Nat}{t:TC}{g:Nat}{qn:Bool}{l:af (T t)}{u:Value}(h:RV w B aj q (.sl t g qn l) u)(hf:full t=0):
  ∃A c news,u = .slice A l.length c/\Reads w w.heap.size (aB t) A l.length news/\(∀v∈news,v.oneCell'=true)/\xm t l news:=by
 cases h with
 |c9=>exact⟨none,0,[],rfl,Reads.none_,by simp,λi hi=>by simp at hi⟩
 |dm=>exact⟨_,_,[],rfl,⟨by simp,λh=>by simp at h⟩,by simp,λi hi=>by simp at hi⟩
 |dD=>exact⟨_,_,[],rfl,⟨by simp,λh=>by simp at h⟩,by simp,λi hi=>by simp at hi⟩
 | az _ _ _ _ _ b off cap us ho hl hb h1 eA hc hr=>
  have ko:∀ i (hi:i<l.length) j,j<aB t->(us i j).oneCell'=true:=by
   intro i hi j hj;obtain⟨y,hy⟩:=Br t g l[i] j hj;exact(hr i hi j y hy).one
  refine⟨_,cap,xl us l.length (aB t),rfl,⟨by simp[xl],λhn=>⟨b,off,rfl,hb,λk v hv=>?_⟩⟩,λv hv=>?_,λi hi o j x hx=>?_⟩
  ·obtain⟨i,j,rfl,hi,hj,rfl⟩:=Mv us _ _ k v (p4 t) hv;obtain⟨y,hy⟩:=Br t g l[i] j hj;exact hc i hi j y hy
  ·obtain⟨k,hk⟩:=List.mem_iff_getElem?.1 hv;obtain⟨i,j,rfl,hi,hj,rfl⟩:=Mv us _ _ k v (p4 t) hk;exact ko i hi j hj
  ·have hj:j<aB t:=by have:=(dS.1 hx).1;rwa [lA]at this
   rw[Eb t hf o g]at hx
   refine⟨us i j,aai us _ _ i j hi hj,ko i hi j hj,λw' B' aD q'=>(hr i hi j x hx).uk (zk t g l[i] hf x (hJ hx))⟩
 | own _ _ o _ _ b cap cs us hl hh hs hn hm hc hr=>
  have ko:∀ i (hi:i<l.length) j,j<aB t->(us i j).oneCell'=true:=by
   intro i hi j hj;obtain⟨y,hy⟩:=Br t o l[i] j hj;exact(hr i hi j y hy).one
  refine⟨_,cap,xl us l.length (aB t),rfl,⟨by simp[xl],λhn=>⟨b,0,rfl,(ia.1 hh).1,λk v hv=>?_⟩⟩,λv hv=>?_,λi hi o' j x hx=>?_⟩
  ·obtain⟨i,j,rfl,hi,hj,rfl⟩:=Mv us _ _ k v (p4 t) hv;obtain⟨y,hy⟩:=Br t o l[i] j hj;rw[fV,cell_of_row w b _ cs _ _ hh];exact hc i hi j y hy
  ·obtain⟨k,hk⟩:=List.mem_iff_getElem?.1 hv;obtain⟨i,j,rfl,hi,hj,rfl⟩:=Mv us _ _ k v (p4 t) hk;exact ko i hi j hj
  ·have hj:j<aB t:=by have:=(dS.1 hx).1;rwa [lA]at this
   rw[Eb t hf o' o]at hx
   refine⟨us i j,aai us _ _ i j hi hj,ko i hi j hj,λw' B' aD q'=>(hr i hi j x hx).uk (zk t o l[i] hf x (hJ hx))⟩
theorem RV.aaj{q:af Nat}{t:TC}{o:Nat}{qn:Bool}{l:af (T t)}{u:Value}(h:RV w B aj q (.sl t (o+2) qn l) u)(hf:full t=0){B':Nat}(hB:∀ b,aj b=some q->B'<=b):
  ∃xs,w.ownsRow B' (tid t) (aB t) u l.length xs/\(∀b,u.ownBlock=some b->aj b=some q)/\(qn=true->u.ownBlock≠none)/\xm t l xs:=by
 cases h with
 |dm=>omega
 |dD=>omega
 |c9=>exact⟨[],⟨by simp,.inl ⟨rfl,rfl⟩⟩,by simp[Value.ownBlock],by simp,λi hi=>by simp at hi⟩
 |az _ _ _ _ _ _ _ _ _ ho=>omega
 | own _ _ _ _ _ b cap cs us hl hh hs hn hm hc hr=>
  refine⟨cs.toList.take (l.length*aB t),⟨?_,.inr ⟨b,cap,cs,rfl,hB b hl,hh,hn,hm.1,hs,rfl⟩⟩,λb' mR=>?_,λ_=>by simp[Value.ownBlock],λi hi o' j x hx=>?_⟩
  ·have eC:cs.toList.length=cap*aB t:=by rw[<-hs];simp
   rw[jN,eC];have:=kG (aB t) hn;omega
  ·have:b=b':=by simpa [Value.ownBlock]using mR
   subst this;exact hl
  ·have hj:j<aB t:=by have:=(dS.1 hx).1;rwa [lA]at this
   have bW:i*aB t+j<l.length*aB t:=by
    have:(i+1)*aB t<=l.length*aB t:=kG _ hi;rw[jo]at this;omega
   rw[Eb t hf o' o]at hx
   refine⟨us i j,?_,(hr i hi j x hx).one,λw' B' aD q'=>(hr i hi j x hx).uk (zk t o l[i] hf x (hJ hx))⟩
   rw[List.getElem?_take,bB bW,nh];exact hc i hi j x hx
theorem xm.append{t:TC}{l l2:af (T t)}{xs ys:af Value}(h:xm t l xs)(h2:xm t l2 ys)(hl:xs.length=l.length*aB t):xm t (l++l2) (xs++ys):=by
 intro i hi o j x hx;have hj:j<aB t:=by have:=(dS.1 hx).1;rwa [lA]at this
 by_cases bW:i<l.length
 ·rw[List.getElem_append_left bW]at hx;obtain⟨v,hv,r⟩:=h i bW o j x hx;refine⟨v,?_,r⟩;rw[List.getElem?_append_left (dS.1 hv).1];exact hv
 ·rw[List.getElem_append_right (by omega)]at hx;have Tb:i-l.length<l2.length:=by rw[List.length_append]at hi;omega
  obtain⟨v,hv,r⟩:=h2 (i-l.length) Tb o j x hx;refine⟨v,?_,r⟩;have e:i*aB t+j=xs.length+((i-l.length)*aB t+j):=by
   rw[hl,Nat.sub_mul];have:l.length*aB t<=i*aB t:=kG _ (by omega);omega
  rw[e,List.getElem?_append_right (by omega),Nat.add_sub_cancel_left];exact hv
theorem Tc{q:af Nat}{t:TC}{o:Nat}{l:af (T t)}{u:Value}{xs:af Value}{B':Nat}(h:w.ownsRow B' (tid t) (aB t) u l.length xs)(he:xm t l xs)(hl:∀ b,u.ownBlock=some b->aj b=some q):
  RV w B aj q (.sl t (o+2) false l) u:=by
 rcases h.2 with ⟨rfl,h0⟩|⟨b,cap,cs,rfl,hB,hh,hn,hm,hs,ht⟩
 ·have:l=[]:=List.eq_nil_of_length_eq_zero h0;subst this;exact .c9 _ _ _
 ·have kL:∀ i (hi:i<l.length) j x,(enc t o l[i])[j]?=some x->∃ v,cs[i*aB t+j]?=some v/\∀ (w':World) (B':Nat) (aD:bM) (q':af Nat),RV w' B' aD q' x v:=by
   intro i hi j x hx;obtain⟨v,hv,_,r⟩:=he i hi o j x hx;refine⟨v,?_,r⟩;rw[<-ht,List.getElem?_take]at hv;split at hv
   ·rw[nh]at hv;exact hv
   ·cases hv
  refine .own q t o false l b cap cs (λi j=>(cs[i*aB t+j]?).getD undef) (hl b rfl) hh hs hn ⟨hm,λh=>by cases h⟩ (λi hi j x hx=>?_) (λi hi j x hx=>?_)
  ·obtain⟨v,hv,_⟩:=kL i hi j x hx;rw[hv];rfl
  ·obtain⟨v,hv,r⟩:=kL i hi j x hx;rw[hv];exact r _ _ _ _
theorem Rl.append{t e ty:TypeId}{tc:TC}{i:TypeInfo}{z:Value}{rr o g:Nat}{q qn:Bool}{l l2:af (T tc)}{u v:Value}{q':af Nat}{Bx:Nat}{Td:bM}(h:Rl w0 N aj ρ σ a w)(hF:w0.F rr=none)(fQ:P.underlying t=some (.slice e))(ht:tid tc=e)(hi:P.info? e=some i)(hz:i.zero=some z)
  (dO:i.size=aB tc) (lJ:i.bytes<=65536) (gM:z.cells.size=aB tc) (hf:full tc=0) (hd:RV w w0.heap.size aj [rr] (.sl tc (o+2) q l) u) (hs:RV w Bx Td q' (.sl tc g qn l2) v) (hlen:l.length+l2.length<1073741824):
  ∃v' w' aD,(Builtin.append_ #[t,t] ty #[u,v]).run P w = .ok v' w'/\Rl w0 N aD (cB ρ rr (.eK v')) ((σ.drop rr).root rr (.sl (.sl tc (o+2) false (l++l2)))) a w'/\ow v'=true:=by
 subst ht;obtain⟨xs,nc,xq,GV,jR⟩:=hd.aaj hf (B':=0) (λb _=>Nat.zero_le b);obtain⟨A,c,news,rfl,q7,ko,GW⟩:=hs.reads hf;have ga:(l.length+l2.length)*i.bytes<=140737488355328:=by
  have h1:(l.length+l2.length)*i.bytes<=1073741824*65536:=Nat.mul_le_mul (by omega) lJ;omega
 obtain⟨v',w',bE,q8,oE,kN⟩:=RD (P:=P) w 0 t ty (tid tc) i z (aB tc) i.bytes fQ hi hz dO rfl gM (p4 tc) u l.length xs nc _ A l2.length c news q7 ko (by unfold maxLen;omega) ga (Nat.zero_le _);have Bt:(l++l2).length=l.length+l2.length:=List.length_append;rw[<-Bt]at q8;have Bu:=jR.append GW nc.1;have gQ:ow v'=true:=by rcases q8.2 with ⟨rfl,_⟩|⟨_,_,_,rfl,_⟩<;>rfl
 have q9:Below 0 w w':=(Below.refl 0 w).grown oE (Nat.zero_le _) (λ_ _=>Nat.zero_le _);have iV:kJ w0 w w':=⟨q9.os,q9.tape,q9.output,q9.size,λk hk hL=>oE.block k (mg hk h.below.size) (λe'=>by
  rcases(h.dF k _ (xq k e'.symm)).1 with h1|h1
  ·exact absurd hk (Nat.not_lt.2 h1)
  ·exact h1 hL)⟩
 by_cases sj:v'.ownBlock=some w.heap.size
 ·have bW:w.heap.size<w'.heap.size:=by
   rcases q8.2 with ⟨rfl,_⟩|⟨b,cap,cs,rfl,_,hh,_⟩
   ·cases sj
   ·have:b=w.heap.size:=by simpa [Value.ownBlock]using sj
    subst this;exact(ia.1 hh).1
  refine⟨v',w',cB aj w.heap.size (some [rr]),bE,h.Bo hF iV ⟨oE.size,λb hb br=>oE.block b hb (λe'=>br (xq b e'.symm)),λb hb=>cV _ _ _ (by omega),λb hb=>(h.dF b [] hb).2.2 rfl⟩ (λb k hb hk=>?_) (λr hr=>cV _ _ _ hr) (.sl v' _ (cG _ _ _) (Tc q8 Bu (λb hb=>?_))),gQ⟩
  ·by_cases e:b=w.heap.size
   ·subst e;rw[cG]at hk;injection hk with hk;subst hk;exact⟨bW,by simp⟩
   ·rw[cV _ _ _ e]at hk;have:=(h.dF b k hk).2.1;omega
  ·rw[sj]at hb;injection hb with hb;subst hb;exact cG _ _ _
 ·have Te:v'.ownBlock=u.ownBlock:=by
   rcases kN with kN|kN
   ·exact kN
   ·exact absurd kN sj
  refine⟨v',w',aj,bE,h.Bo hF iV ⟨oE.size,λb hb br=>oE.block b hb (λe'=>br (xq b e'.symm)),λ_ _=>rfl,λb hb=>(h.dF b [] hb).2.2 rfl⟩ (λb k hb hk=>?_) (λr hr=>cV _ _ _ hr) (.sl v' _ (cG _ _ _) (Tc q8 Bu (λb hb=>xq b (by rw[<-Te];exact hb)))),gQ⟩
  have:=(h.dF b k hk).2.1;omega
theorem Tf{t:TC}{x:V}{l:af (T t)}(h:x.Ms t=some l){q:af Nat}{u:Value}(hu:RV w B aj q x u):∃ g qn,RV w B aj q (.sl t g qn l) u:=by
 unfold V.Ms at h;split at h
 ·rename_i t' g qn l';split at h
  next ht=>subst ht;injection h with h;subst h;exact⟨g,qn,hu⟩
  ·cases h
 ·injection h with h;subst h;cases hu;exact⟨0,false,.c9 _ _ _⟩
 ·cases h
theorem Tg{x:Lf}{k:V->ak X}(h:kK σ x k=some r):∃ y,(∀ aj ρ a w,Rl w0 N aj ρ σ a w->∀ u,dY w w0.heap.size aj ρ x u->∃ q,RV w w0.heap.size aj q y u)/\k y=some r:=by
 cases x with
 |v z=>exact⟨z,λaj ρ a w _ u hu=>⟨[],hu.2⟩,h⟩
 |dead=>cases h
 | own q=>
  obtain⟨z,hz,h⟩:=th q _ h
  refine⟨z,λaj ρ a w hR u hu=>?_,h⟩
  obtain⟨v,hv,hr⟩:=hz.ok hR.root;have h3:=hu.2;rw[hv]at h3;injection h3 with h3;subst h3;exact⟨q,hr⟩
theorem aak{y:A}{k:V->ak X}(h:qX σ y k=some r):∃ z,(∀ aj ρ a w,Rl w0 N aj ρ σ a w->∀ u,RA w w0.heap.size aj ρ y u->∃ q B' aD,RV w B' aD q z u)/\k z=some r:=by
 unfold qX at h;split at h
 ·obtain⟨z,hz,h2⟩:=Tg (w0:=w0) (N:=N) h;exact⟨z,λaj ρ a w hR u hu=>let ⟨q,hq⟩:=hz aj ρ a w hR u hu;⟨q,_,_,hq⟩,h2⟩
 ·obtain⟨z,h2,_,hz⟩:=Z6 h;exact⟨z,λaj ρ a w hR u hu=>⟨[],0,_,hz _ _ _ _ _ _ hR u hu 0⟩,h2⟩
 ·cases h
theorem akE{t ty:TypeId}{x y:A}{k:S->ak X}(h:q5 P N σ d t x y k=some r):∃ aA,k aA=some r/\∀ aj ρ a w,Rl w0 N aj ρ σ a w->∀ u v,RA w w0.heap.size aj ρ x u->RA w w0.heap.size aj ρ y v->
  ∃w' aD ρ' z,(Builtin.append_ #[t,t] ty #[u,v]).run P w = .ok z w'/\Rl w0 N aD ρ' aA (a.put (some d) z) w':=by
 unfold q5 at h;split at h
 ·rename_i e tc gE;obtain⟨fQ,ht,i,hi,dO,lJ⟩:=zy gE;cases hc:(Nat.beq (full tc) 0&&(zeroOf P e).any (λz=>Nat.beq z.cells.size (aB tc)))with
  |false=>rw[hc]at h;cases h
  | true=>
   rw[hc,aq]at h;rw[bx]at hc;have hf:=cr hc.1;obtain⟨z,hz,gM⟩:=(Option.any_eq_true _ _).1 hc.2;have gM:=cr gM;have qb:i.zero=some z:=by unfold zeroOf at hz;simpa [hi]using hz
   obtain⟨yv,Mw,h2⟩:=aak (w0:=w0) (N:=N) h;clear h;split at h2
   ·cases h2
   ·rename_i l2 iA;split at h2
    ·cases hL:bH l2.length with
     |false=>rw[hL]at h2;cases h2
     | true=>
      rw[hL,aq]at h2;have hL:l2.length<1073741824:=by simpa [bH]using hL
      obtain⟨hd,h3⟩:=q6 h2
      refine⟨_,h3,λaj ρ a w hR u v hu hv=>?_⟩
      have hu:u = .slice none 0 0:=by cases hu.2;rfl
      subst hu;obtain⟨q',_,_,eM⟩:=Mw aj ρ a w hR v hv;obtain⟨g,qn,eM⟩:=Tf iA eM;obtain⟨v',w',aD,bE,aV,gQ⟩:=hR.append (ty:=ty) (rr:=d) (o:=0) (q:=false) (l:=[]) (hR.ef d (.inl hd)) fQ ht hi qb dO lJ gM hf (.c9 _ _ _) eM (by simpa using hL);exact⟨w',aD,_,v',bE,aV.set ⟨gQ,by simp[cJ,cG]⟩ hd⟩
    ·rename_i rr;split at h2
     ·rename_i t' o q l hm;split at h2
      ·rename_i gw;subst gw;cases hL:(Nat.blt d N&&(Nat.blt rr N || Nat.ble 60000 rr)&&bH (l.length+l2.length))with
       |false=>rw[hL]at h2;cases h2
       | true=>
        rw[hL,aq]at h2;rw[bx,bx,fE]at hL;have GX:l.length+l2.length<1073741824:=by simpa [bH]using hL.2
        have hd:d<N:=by have:=cT hL.1.1;omega
        have mS:rr<N\/60000<=rr:=hL.1.2.imp (λh=>by have:=cT h;omega) (λh=>cT h)
        refine⟨_,h2,λaj ρ a w hR u v hu hv=>?_⟩
        obtain⟨q',_,_,eM⟩:=Mw aj ρ a w hR v hv;obtain⟨g,qn,eM⟩:=Tf iA eM;have cZ:=hR.root rr _ hm;generalize he:bg.sl (.sl t' (o+2) q l)=x at cZ;cases cZ with
        |aC=>cases he
        |mp=>cases he
        |gh=>cases he
        | sl uu y aO hr=>
         injection he with he;subst he;have GR:uu=u:=by
          have h4:=hu.2;simp only[cJ,aO]at h4;injection h4
         subst GR;obtain⟨v',w',aD,bE,aV,gQ⟩:=hR.append (ty:=ty) (hR.ef rr mS) fQ ht hi qb dO lJ gM hf hr eM GX;exact⟨w',aD,_,v',bE,aV.set ⟨gQ,by simp[cJ,cG]⟩ hd⟩
      ·cases h2
     ·cases h2
    ·cases h2
 ·cases h
end
end Go.Proofs.YtecofnkoloihpaaGreat
namespace Go.Proofs.YtecofnkoloihpaaGreat
open Go.RowKit
set_option linter.unusedVariables false
section
variable {P:Program} {w w':World} {w0:Wd} {B N:Nat} {aj aD:bM} {ρ ρ':Nat->Loc} {σ:S} {a:Act} {X:Type} {d q:Nat} {r:X} {o:Oper}
theorem Rl.aal{t:TC}{g p:Nat}{qn:Bool}{l ys:af (T t)}{news:af Value}(h:Rl w0 N aj ρ σ a w)(hm:σ.m q=some (.sl (.sl t (g+2) qn l)))(hf:full t=0)(hp:p+ys.length<=l.length)(js:0<l.length)(jR:xm t ys news)(sk:news.length=ys.length*aB t):
  ∃ b cap,ρ q = .eK (.slice (some ⟨b,0,none⟩) l.length cap)/\l.length<=cap/\(∀ n,n<news.length->(w.cell? ⟨b,p*aB t+n,none⟩).isSome=true/\w.frozen? ⟨b,p*aB t+n,none⟩=false)/\
   Rl w0 N aj ρ ⟨σ.t,cB σ.m q (some (.sl (.sl t (g+2) qn (splice l p ys))))⟩ a (w.setCells b (p*aB t) news):=by
 have cZ:=h.root q _ hm;generalize he:bg.sl (.sl t (g+2) qn l)=x at cZ;cases cZ with
 |aC=>cases he
 |mp=>cases he
 |gh=>cases he
 | sl v y aO dn=>
  injection he with he;subst he;cases dn with
  |c9=>exact absurd js (Nat.lt_irrefl 0)
  |dm=>exact absurd js (Nat.lt_irrefl 0)
  |dD=>exact absurd js (Nat.lt_irrefl 0)
  |az _ _ _ _ _ _ _ _ _ ho=>omega
  | own _ _ _ _ _ b cap cs u dH hh hs hn tf hc hr=>
   have rZ:(p+ys.length)*aB t<=cap*aB t:=kG _ (by omega);rw[Nat.add_mul]at rZ;have iG:p*aB t+news.length<=cs.size:=by rw[sk,hs];exact rZ
   have hW:=Mj w b (p*aB t) news;obtain⟨c2,ga,oy⟩:=FZ b (tid t) news (p*aB t) w cs hh iG;have um:∀ n,c2[n]?=if n<p*aB t then cs[n]? else if n<p*aB t+news.length then news[n-p*aB t]? else cs[n]?:=by
    intro n;have e2:c2[n]?=(splice cs.toList (p*aB t) news)[n]?:=by
     rw[show c2[n]?=c2.toList[n]? by simp,oy];rfl
    rw[e2,w7 _ _ _ (by simpa using iG)];simp
   have GK:c2.size=cs.size:=by
    rw[<-mI,oy];have:=ta cs.toList (p*aB t) news (by simpa using iG);simp only[splice]at this;rw[this];simp
   have uq:=p4 t;have hC:td w (w.setCells b (p*aB t) news) aj ρ:=by
    intro k ad v ha hv gQ;by_cases br:ad.block=b
    ·obtain⟨j',i',s',q',rfl,mQ,akl,qW,_⟩:=zm k ad ha;have jC:ad=⟨b,ad.off,none⟩:=by cases ad;simp_all
     rw[jC,cell_of_row w b _ cs _ _ hh]at hv;rw[jC,cell_of_row _ b _ c2 _ _ ga,um];by_cases h1:ad.off<p*aB t
     ·rw[bB h1];exact hv
     ·by_cases h2:ad.off<p*aB t+news.length
      ·exfalso;have hk:ad.off=(ad.off / aB t)*aB t+ad.off % aB t:=by rw[Nat.mul_comm];exact(Nat.div_add_mod _ _).symm
       have bW:ad.off<l.length*aB t:=by
        have:(p+ys.length)*aB t<=l.length*aB t:=kG _ hp;rw[Nat.add_mul]at this;omega
       have hi:ad.off / aB t<l.length:=Nat.div_lt_of_lt_mul (by rw[Nat.mul_comm];exact bW);obtain⟨y,hy⟩:=Br t g l[ad.off / aB t] (ad.off % aB t) (Nat.mod_lt _ uq);have h3:=hc _ hi _ y hy;rw[<-hk,hv]at h3;injection h3 with h3;have:=(hr _ hi _ y hy).Z4 (zk t g _ hf y (hJ hy));rw[<-h3,gQ]at this;cases this
      ·rw[cm h1,cm h2];exact hv
    ·exact(mH (hW.block _ br)).trans hv
   have Bm:cJ w aj ρ [q]=some (.slice (some ⟨b,0,none⟩) l.length cap):=by simp only[cJ,aO]
   refine⟨b,cap,aO,hn,λn p6=>⟨?_,frozen_of_row w b _ cs _ hh⟩,h.wrote hW dH hC ((zn.root q _ _ hm).ok h.root hW dH (List.suffix_refl _) hC Bm ?_)⟩
   ·rw[cell_of_row w b _ cs _ _ hh];simp;omega
   ·have hlen:(splice l p ys).length=l.length:=ta l p ys hp;have key:∀ i' (h:i'<(splice l p ys).length) (j':Nat) x,(enc t g (splice l p ys)[i'])[j']?=some x->∃ v,c2[i'*aB t+j']?=some v/\RV (w.setCells b (p*aB t) news) w0.heap.size aj (j' :: i' :: aB t :: [q]) x v:=by
     intro i' h' j' x hx;have pg:j'<aB t:=by have:=(dS.1 hx).1;rwa [lA]at this
     have mw:=cu h';generalize (splice l p ys)[i']=e at mw hx;rw[w7 l p ys hp]at mw;have iP:=zk t g e hf x (hJ hx);have old:l[i']?=some e->∃ v,cs[i'*aB t+j']?=some v/\RV (w.setCells b (p*aB t) news) w0.heap.size aj (j' :: i' :: aB t :: [q]) x v:=λhle=>by
      obtain⟨hi,rfl⟩:=dS.1 hle;exact⟨_,hc i' hi j' x hx,(hr i' hi j' x hx).uk iP⟩
     by_cases h1:i'<p
     ·rw[bB h1]at mw;have bW:(i'+1)*aB t<=p*aB t:=kG _ h1;rw[jo]at bW;rw[um,bB (by omega)];exact old mw
     ·rw[cm h1]at mw;by_cases h2:i'<p+ys.length
      ·rw[bB h2]at mw;obtain⟨hi,rfl⟩:=dS.1 mw;obtain⟨v,hv,_,lN⟩:=jR (i'-p) hi g j' x hx;have aA2:(i'-p)*aB t=i'*aB t-p*aB t:=Nat.sub_mul _ _ _;have hle:p*aB t<=i'*aB t:=kG _ (by omega);have bW:=(dS.1 hv).1;refine⟨v,?_,lN _ _ _ _⟩;rw[um,cm (by omega),bB (by omega),<-hv];congr 1;omega
      ·rw[cm h2]at mw;have ox:(p+ys.length)*aB t<=i'*aB t:=kG _ (by omega);rw[Nat.add_mul]at ox;rw[um,cm (by omega),cm (by rw[sk];omega)];exact old mw
    rw[<-hlen]
    refine .own [q] t g qn (splice l p ys) b cap c2 (λi' j'=>(c2[i'*aB t+j']?).getD undef) dH ga (GK.trans hs) (by rw[hlen];exact hn) ⟨tf.1,λh=>by rw[hlen];exact tf.2 h⟩ (λi' h j' x cW=>?_) (λi' h j' x cW=>?_)
    ·obtain⟨v,hv,_⟩:=key i' h j' x cW;rw[hv];rfl
    ·obtain⟨v,hv,hr⟩:=key i' h j' x cW;rw[hv];exact hr
theorem aam(b i c s:Nat):sliced (some ⟨b,0,none⟩) 0 i c s = .slice (some ⟨b,0,none⟩) i c:=by
 unfold sliced;split
 ·rfl
 ·rw[jM,Addr.add_lit];simp
def Bv{X:Type}(P:Program)(N:Nat)(σ:S)(d:Nat)(t:TypeId)(x y:A)(k:S->ak X):ak X:=
 match x,y with
 | .view [q] s 0 i,.view [q'] s' j m=>(match vR P t with
  | some (e,tc)=>bif Nat.beq q' q&&Nat.beq s (aB tc)&&Nat.beq s' (aB tc)&&Nat.beq (full tc) 0&&Nat.blt d N then (match σ.m q with
   |some (.sl (.sl t' (o+2) qn l))=>bif Nat.beq (full t') 0&&Nat.beq (aB t') (aB tc)then (if i<=j/\j<=m/\m<=l.length/\0<l.length then k ((σ.root q (.sl (.sl t' (o+2) qn (splice l i ((l.take m).drop j))))).set d (.view [q] s 0 (i+(m-j))))else none)else none
   |_=>none)else none
  |none=>none)
 |_,_=>none
theorem akF{t ty:TypeId}{x y:A}{k:S->ak X}(h:Bv P N σ d t x y k=some r):∃ aA,k aA=some r/\∀ aj ρ a w,Rl w0 N aj ρ σ a w->∀ u v,RA w w0.heap.size aj ρ x u->RA w w0.heap.size aj ρ y v->
  ∃w' aD ρ' z,(Builtin.append_ #[t,t] ty #[u,v]).run P w = .ok z w'/\Rl w0 N aD ρ' aA (a.put (some d) z) w':=by
 unfold Bv at h;split at h
 ·rename_i q s i q' s' j m;split at h
  ·rename_i e tc gE;obtain⟨fQ,ht,inf,hi,dO,lJ⟩:=zy gE;cases hc:(Nat.beq q' q&&Nat.beq s (aB tc)&&Nat.beq s' (aB tc)&&Nat.beq (full tc) 0&&Nat.blt d N)with
   |false=>rw[hc]at h;cases h
   | true=>
    rw[hc,aq]at h;simp only[bx]at hc;obtain⟨⟨⟨⟨c1,c2⟩,c3⟩,c4⟩,c5⟩:=hc;obtain rfl:=cr c1;obtain rfl:=cr c2;obtain rfl:=cr c3;have hd:d<N:=by have:=cT c5;omega
    split at h
    ·rename_i t' g qn l hm;cases xu:(Nat.beq (full t') 0&&Nat.beq (aB t') (aB tc))with
     |false=>rw[xu]at h;cases h
     | true=>
      rw[xu,aq]at h;rw[bx]at xu;have hf:=cr xu.1;have eR:=cr xu.2;split at h
      ·rename_i hb;obtain⟨b1,b2,b3,b4⟩:=hb
       refine⟨_,h,λaj ρ a w hR u v hu hv=>?_⟩
       obtain⟨A,n,c,zz,a1,a2,rfl⟩:=hu;obtain⟨A',n',c',Mx,a1',a2',rfl⟩:=hv;rw[zz]at Mx;injection Mx with Mx;injection Mx with e1 e2 e3;subst e1 e2 e3
       -- what is moved
       have cZ:=hR.root q' _ hm;generalize he:bg.sl (.sl t' (g+2) qn l)=x at cZ;cases cZ with
       |aC=>cases he
       |mp=>cases he
       |gh=>cases he
       | sl sn y aO dn=>
        injection he with he;subst he;have My:sn = .slice A n c:=by
         simp only[cJ,aO]at zz;injection zz
        subst My;have Mz:RV w 0 (λ_=>none) [] (.sl t' 0 qn l) (.slice A n c):=dn.iO;have hn:n=l.length:=by cases Mz<;>rfl
        obtain⟨hp,qe,so⟩:=Mz.part (a:=j) (h:=m) (by omega) b2 (by omega);obtain⟨A2,c2,news,gQ,q7,ko,jR⟩:=hp.reads hf;have hlen:((l.take m).drop j).length=m-j:=by rw[List.length_drop,jN];omega
        obtain⟨b,cap,iH,eA,kO,aV⟩:=hR.aal hm hf (p:=i) (ys:=(l.take m).drop j) (news:=news) (by rw[hlen];omega) b4 jR (by rw[hlen];exact hlen ▸ q7.1);rw[aO]at iH;injection iH with iH;injection iH with e1 e2 e3;subst e1 e2 e3;rw[hlen]at gQ;have kr:sliced (some ⟨b,0,none⟩) 0 i c (aB tc) = .slice (some ⟨b,0,none⟩) i c:=aam b i c _;obtain⟨ad,sn⟩:∃ ad,sliced (some ⟨b,0,none⟩) j m c (aB tc) = .slice (some ad) (m-j) (c-j):=by
         unfold sliced;by_cases hcj:c=j
         ·rw[bB hcj];exact⟨_,rfl⟩
         ·rw[cm hcj];exact⟨_,rfl⟩
        have Th:A2=some ad:=by
         rw[eR,sn]at gQ;injection gQ with e1;exact e1.symm
        subst Th;have sk:news.length=(m-j)*inf.size:=by rw[q7.1,hlen,dO,eR]
        have bE:=run_append_room_cells (P:=P) w t ty e inf fQ hi b 0 i c ad (m-j) (c-j) news sk (λk u hk=>by
         have eB:=(dS.1 hk).1;have uq:0<((l.take m).drop j).length:=by
          rcases Nat.eq_zero_or_pos ((l.take m).drop j).length with h0|h0
          ·rw[q7.1,h0]at eB;omega
          ·exact h0
         obtain⟨b',qL,e1,_,eC⟩:=q7.2 uq;injection e1 with e1;subst e1;rw[Addr.add_lit];exact eC k u hk) ko (by omega) (λk hk=>by rw[fV,dO,<-eR];exact(kO k hk).1) (λk hk=>by rw[fV,dO,<-eR];exact(kO k hk).2)
        refine⟨_,aj,ρ,_,by rw[kr,sn];exact bE,?_⟩;rw[fV,dO,<-eR];exact aV.set ⟨some ⟨b,0,none⟩,l.length,c,by simp only[cJ,aO],Nat.zero_le _,by omega,(aam b _ c _).symm⟩ hd
      ·cases h
    ·cases h
  ·cases h
 ·cases h
theorem akG{t:TypeId}{x y:A}{k:S->ak X}(h:Bv P N σ d t x y k=some r):∃ τ,k τ=some r/\∀ (X:Type) (k:S->ak X),Bv P N σ d t x y k=k τ:=by
 unfold Bv at h;split at h
 ·rename_i q s i q' s' j m;split at h
  ·rename_i e tc gE;cases hc:(Nat.beq q' q&&Nat.beq s (aB tc)&&Nat.beq s' (aB tc)&&Nat.beq (full tc) 0&&Nat.blt d N)with
   |false=>rw[hc]at h;cases h
   | true=>
    rw[hc,aq]at h;split at h
    ·rename_i t' g qn l hm;cases xu:(Nat.beq (full t') 0&&Nat.beq (aB t') (aB tc))with
     |false=>rw[xu]at h;cases h
     | true=>
      rw[xu,aq]at h;split at h
      ·rename_i hb
       refine⟨_,h,λX k=>?_⟩
       simp only[Bv,gE,hc,hm,xu,aq];rw[bB hb]
      ·cases h
    ·cases h
  ·cases h
 ·cases h
def Bw{X:Type}(P:Program)(σ:S)(t:TypeId)(x:A)(k:S->ak X):ak X:=
 match x with
 | .view [q] s i j=>(match vR P t with
  | some (e,tc)=>(match Mr P e tc with
   | some z=>(match σ.m q with
    |some (.sl (.sl t' (o+2) qn l))=>if h:tc=t' then (bif Nat.beq s (aB tc)&&Nat.beq (full tc) 0 then (if i<=j/\j<=l.length then k (σ.root q (.sl (.sl t' (o+2) qn (splice l i (List.replicate (j-i) (h ▸ z))))))else none)else none)else none
    |_=>none)
   |none=>none)
  |none=>none)
 |_=>none
theorem akH{t ty:TypeId}{x:A}{k:S->ak X}(h:Bw P σ t x k=some r):∃ aA,k aA=some r/\∀ aj ρ a w,Rl w0 N aj ρ σ a w->∀ u,RA w w0.heap.size aj ρ x u->
  ∃w',(Builtin.clear_ #[t] ty #[u]).run P w = .ok (.tuple #[]) w'/\Rl w0 N aj ρ aA a w':=by
 unfold Bw at h;split at h
 ·rename_i q s i j;split at h
  ·rename_i e tc gE;obtain⟨fQ,ht,inf,hi,dO,lJ⟩:=zy gE;split at h
   ·rename_i z hz;split at h
    ·rename_i t' g qn l hm;split at h
     ·rename_i gw;subst gw;cases hc:(Nat.beq s (aB tc)&&Nat.beq (full tc) 0)with
      |false=>rw[hc]at h;cases h
      | true=>
       rw[hc,aq]at h;rw[bx]at hc;obtain rfl:=cr hc.1;have hf:=cr hc.2;split at h
       ·rename_i hb
        refine⟨_,h,λaj ρ a w hR u hu=>?_⟩
        obtain⟨A,n,c,zz,a1,a2,rfl⟩:=hu;unfold Mr at hz;split at hz
        ·cases hz
        ·rename_i zv GU;split at hz
         ·cases hz
         ·rename_i vs gW;have qb:inf.zero=some zv:=by unfold zeroOf at GU;simpa [hi]using GU
          obtain⟨qc,iA⟩:=S9 _ _ gW;have hk:=nW tc (full tc) vs z hz;have gM:zv.cells.size=aB tc:=by rw[<-lA tc (full tc) z,<-hk.1,qc];simp
          have hzr:∀w:World,(zeroValue e).run P w = .ok zv w:=λw=>by simp[zeroValue,typeInfo,hi,qb]
          rcases Nat.eq_zero_or_pos (j-i)with h0|h0
          ·have qW:splice l i (List.replicate (j-i) z)=l:=by rw[h0];simp[splice]
           refine⟨w,?_,?_⟩
           ·unfold sliced;rw[h0];cases (if c=i then A else A.map (·.add (i*aB tc)))<;>simp[Builtin.clear_,jw fQ]
           ·show Rl w0 N aj ρ (σ.root q (.sl (.sl tc (g+2) qn (splice l i (List.replicate (j-i) z))))) a w;rw[qW];have:σ.root q (.sl (.sl tc (g+2) qn l))=σ:=by
             unfold S.root;have:cB σ.m q (some (.sl (.sl tc (g+2) qn l)))=σ.m:=by
              funext k;by_cases hk:k=q
              ·subst hk;rw[cG,hm]
              ·rw[cV _ _ _ hk]
             rw[this]
            rw[this];exact hR
          ·have qf:(Builtin.zeroCells zv.cells (j-i))=madeCells zv.cells ((j-i)*zv.cells.size):=rfl;have jR:xm tc (List.replicate (j-i) z) (Builtin.zeroCells zv.cells (j-i)).toList:=by
            intro i' h' o' j' x hx;rw[List.getElem_replicate]at hx;have hj:j'<aB tc:=by have:=(dS.1 hx).1;rwa [lA]at this
            rw[List.length_replicate]at h';have pg:=hj;rw[<-gM]at pg;have kO:(Builtin.zeroCells zv.cells (j-i)).toList[i'*aB tc+j']?=some zv.cells[j']:=by
             rw[qf,nh,<-gM];exact aah zv.cells _ i' j' pg (by
              have:(i'+1)*zv.cells.size<=(j-i)*zv.cells.size:=kG _ (by omega);rw[jo]at this;omega)
            rw[Eb tc hf o' (full tc)]at hx;have GY:j'<(enc tc (full tc) z).length:=(dS.1 hx).1;rw[<-hk.1]at GY;have hy:=cu GY;generalize vs[j']=y at hy;obtain⟨v,hv,Ta⟩:=iA j' y hy;have eM:zv.cells[j']=v:=by
             have e1:zv.cells.toList[j']?=some zv.cells[j']:=by simp[pg]
             rw[e1]at hv;injection hv
            have lN:∀(w':World) (B':Nat) (aD:bM) (q':af Nat),RV w' B' aD q' x v:=λw' B' aD q'=>(aag Ta _).wk (hk.2 j' y x hy hx)
            exact⟨_,kO,by rw[eM];exact(lN w 0 (λ_=>none) []).one,λw' B' aD q'=>by rw[eM];exact lN _ _ _ _⟩
           have sk:(Builtin.zeroCells zv.cells (j-i)).toList.length=(List.replicate (j-i) z).length*aB tc:=by rw[qf,List.length_replicate,mI,size_madeCells,gM]
           obtain⟨b,cap,aO,eA,kO,aV⟩:=hR.aal hm hf (p:=i) (ys:=List.replicate (j-i) z) (by rw[List.length_replicate];omega) (by omega) jR sk;simp only[cJ,aO]at zz;injection zz with zz;injection zz with e1 e2 e3;subst e1 e2 e3;refine⟨_,?_,aV⟩;have gQ:sliced (some ⟨b,0,none⟩) i j cap (aB tc) = .slice (some ⟨b,i*aB tc,none⟩) (j-i) (cap-i):=by
            unfold sliced;rw[cm (by omega),jM,Addr.add_lit,fV]
           have jk:=run_storeCells_cells (P:=P) b (i*aB tc) (Builtin.zeroCells zv.cells (j-i)).toList 0 w (λk hk=>(kO k hk).1) (λk hk=>(kO k hk).2) (λv hv=>by
            obtain⟨k,hk⟩:=List.mem_iff_getElem?.1 hv;have eB:=(dS.1 hk).1;rw[sk,List.length_replicate]at eB;have uq:=p4 tc;obtain⟨x,hx⟩:=Br tc 0 z (k % aB tc) (Nat.mod_lt _ uq);have bW:k / aB tc<(List.replicate (j-i) z).length:=by rw[List.length_replicate];exact Nat.div_lt_of_lt_mul (by rw[Nat.mul_comm];exact eB)
            obtain⟨v',eM,ko,_⟩:=jR (k / aB tc) bW 0 (k % aB tc) x (by rw[List.getElem_replicate];exact hx);rw[Nat.mul_comm,Nat.div_add_mod,hk]at eM;injection eM with eM;rw[eM];exact ko)
           simp only[Nat.add_zero]at jk;rw[gQ];obtain⟨n',p6⟩:∃n',j-i=n'+1:=⟨j-i-1,by omega⟩
           rw[p6]at jk ⊢;simp[Builtin.clear_,jw fQ,hzr,jk]
       ·cases h
     ·cases h
    ·cases h
   ·cases h
  ·cases h
 ·cases h
theorem akI{t:TypeId}{x:A}{k:S->ak X}(h:Bw P σ t x k=some r):∃ τ,k τ=some r/\∀ (X:Type) (k:S->ak X),Bw P σ t x k=k τ:=by
 unfold Bw at h;split at h
 ·rename_i q s i j;split at h
  ·rename_i e tc gE;split at h
   ·rename_i z hz;split at h
    ·rename_i t' g qn l hm;split at h
     ·rename_i gw;subst gw;cases hc:(Nat.beq s (aB tc)&&Nat.beq (full tc) 0)with
      |false=>rw[hc]at h;cases h
      | true=>
       rw[hc,aq]at h;split at h
       ·rename_i hb
        refine⟨_,h,λX k=>?_⟩
        simp only[Bw,gE,hz,hm,hc,aq,dite_true];rw[bB hb]
       ·cases h
     ·cases h
    ·cases h
   ·cases h
  ·cases h
 ·cases h
end
end Go.Proofs.YtecofnkoloihpaaGreat
namespace Go.Proofs.YtecofnkoloihpaaGreat
open Go.RowKit
set_option linter.unusedVariables false
def zA(place:Nat->ak (Nat×Nat))(cells:af Lf):af (Nat×A)->ak (af Lf)
 |[]=>some cells
 | (i,x) :: rest=>match place i,x.zu with
  |some (off,n),some xs=>if xs.length=n/\off+n<=cells.length then (bif xs.all Lf.live then zA place (splice cells off xs) rest else none)else none
  |_,_=>none
def aan(P:Program)(t:TypeId):ak (Nat->ak (Nat×Nat)):=
 match P.underlying t with
 |some (.array _ e)=>(P.info? e).map λie=>λi=>some (i*ie.size,ie.size)
 |some (.struct fields)=>(fields.toList.mapM (λf=>(P.info? f.type).map λi=>(f.offset,i.size))).map λps=>(ps.toArray[·]?)
 |_=>none
def vS{X:Type}(P:Program)(σ:S)(t:TypeId)(parts:af (Nat×Operand))(k:A->ak X):ak X:=
 match zeroOf P t,aan P t with
 | some z,some pl=>match zA pl (z.cells.toList.map jE) (parts.map λp=>(p.1,aH σ p.2))with
  |some cs=>k (.agg cs)
  |none=>none
 |_,_=>none
def Lf.asV:Lf->ak V
 |.v x=>some x
 |_=>none
def vT:af Lf->ak (af V)
 |[]=>some []
 | x :: xs=>match x.asV,vT xs with
  |some y,some ys=>some (y::ys)
  |_,_=>none
def GZ(t:TC)(g:Nat):Nat->af V->ak (af (T t))
 |0,[]=>some []
 |0,_=>none
 | n+1,vs=>match dec t g (vs.take (aB t)),GZ t g n (vs.drop (aB t))with
  |some x,some xs=>some (x::xs)
  |_,_=>none
def By{X:Type}(P:Program)(N:Nat)(σ:S)(d:Nat)(t:TypeId)(len:Nat)(parts:af (Nat×Operand))(k:S->ak X):ak X:=
 match vR P t with
 | some (e,tc)=>match zeroOf P e with
  | some z=>bif Nat.beq (full tc) 0&&Nat.beq z.cells.size (aB tc)&&Nat.blt (len*aB tc) 16777217 then (match zA (λi=>some (i*aB tc,aB tc)) (List.replicate len (z.cells.toList.map jE)).flatten (parts.map λp=>(p.1,aH σ p.2))with
   | some cs=>(match vT cs with
    | some vs=>(match GZ tc 0 len vs with
     |some l=>jF N σ d (.sl (.sl tc 2 true l)) (.lf (.own [d])) k
     |none=>none)
    |none=>none)
   |none=>none)else none
  |none=>none
 |none=>none
section
variable {P:Program} {w w':World} {w0:Wd} {B N:Nat} {aj aD:bM} {ρ ρ':Nat->Loc} {σ:S} {a:Act} {X:Type} {d:Nat} {r:X}
theorem aao(off:Nat):∀ (l:af Value) (n:Nat) (cs:Array Value),off+n+l.length<=cs.size->
  ((l.zipIdx n).foldl (λ(cs:Array Value) (p:Value×Nat)=>cs.setIfInBounds (off+p.2) p.1) cs).toList=splice cs.toList (off+n) l
 |[],n,cs,_=>by simp[splice]
 | v :: l,n,cs,h=>by
  simp only[nj]at h;rw[List.zipIdx_cons,List.foldl_cons,aao off l (n+1) (cs.setIfInBounds (off+n) v) (by simp;omega)];have bW:off+n<cs.toList.length:=by simp;omega
  simp only[splice,Array.toList_setIfInBounds,nj];have e1:(cs.toList.set (off+n) v).take (off+(n+1))=cs.toList.take (off+n)++[v]:=by
   rw[show off+(n+1)=off+n+1 by omega,List.take_succ_eq_append_getElem (by simpa using bW),qM,List.take_set_of_le (gj _)]
  have e2:(cs.toList.set (off+n) v).drop (off+(n+1)+l.length)=cs.toList.drop (off+(n+1)+l.length):=by
   rw[List.drop_set_of_lt (by omega)]
  rw[e1,e2,show off+n+(l.length+1)=off+(n+1)+l.length by omega];simp
theorem eG.splice{cs xs:af Lf}{cv xv:Array Value}(h:eG w B aj ρ cs cv)(hx:eG w B aj ρ xs xv){off:Nat}(hf:off+xs.length<=cs.length){gS:Array Value}(hc:gS.toList=Proofs.YtecofnkoloihpaaGreat.splice cv.toList off xv.toList):eG w B aj ρ (Proofs.YtecofnkoloihpaaGreat.splice cs off xs) gS:=by
 have hfv:off+xv.toList.length<=cv.toList.length:=by rw[mI,mI,hx.1,h.1];exact hf
 refine⟨?_,λj x hj=>?_⟩
 ·rw[ta _ _ _ hf,<-mI,hc,ta _ _ _ hfv,mI,h.1]
 ·have e:gS[j]?=(Proofs.YtecofnkoloihpaaGreat.splice cv.toList off xv.toList)[j]?:=by rw[<-hc,nh]
  rw[e,w7 _ _ _ hfv,mI,hx.1];rw[w7 _ _ _ hf]at hj;by_cases h1:j<off
  ·simp only[h1,if_true,nh]at hj ⊢;exact h.2 j x hj
  ·by_cases h2:j<off+xs.length
   ·simp only[h1,h2,if_true,if_false,nh]at hj ⊢;exact hx.2 _ x hj
   ·simp only[h1,h2,if_false,nh]at hj ⊢;exact h.2 j x hj
theorem MA{place:Nat->ak (Nat×Nat)}:∀ (parts:af (Nat×A)) (cells:af Lf) (cv:Array Value) (vs:af (Nat×Value)) (out:af Lf),zA place cells parts=some out->eG w B aj ρ cells cv->vs.length=parts.length->
  (∀(j:Nat) p q,parts[j]?=some p->vs[j]?=some q->p.1=q.1/\RA w B aj ρ p.2 q.2)->∃gS,Instr.fill place cv vs=some gS/\eG w B aj ρ out gS
 | [],cells,cv,vs,out,h,hR,hl,hp=>by
  have:vs=[]:=List.eq_nil_of_length_eq_zero hl;subst this;injection h with h;subst h;exact⟨cv,rfl,hR⟩
 | (i,x) :: rest,cells,cv,vs,out,h,hR,hl,hp=>by
  cases vs with
  |nil=>simp at hl
  | cons v vs=>
   obtain⟨i',v⟩:=v;obtain⟨e,hx⟩:=hp 0 _ _ rfl rfl;simp only at e hx;subst e;unfold zA at h;split at h
   ·rename_i off n xs iP gV;split at h
    ·rename_i hb;cases jg:xs.all Lf.live with
     |false=>rw[jg]at h;cases h
     | true=>
      rw[jg,aq]at h;obtain⟨hlx,_⟩:=GO gV jg hx;have xj:v.cells.size=n:=by rw[hlx.1];exact hb.1
      have iG:¬ (off+v.cells.size > cv.size):=by rw[xj,hR.1];omega
      have akJ:(v.cells.zipIdx.foldl (λ(cs:Array Value) (p:Value×Nat)=>cs.setIfInBounds (off+p.2) p.1) cv).toList=Proofs.YtecofnkoloihpaaGreat.splice cv.toList off v.cells.toList:=by
       have:=aao off v.cells.toList 0 cv (by rw[mI];omega);rw[<-Array.foldl_toList,Array.toList_zipIdx];exact this
      have qW:=hR.splice hlx (off:=off) (by rw[hb.1];exact hb.2) akJ;obtain⟨gS,tr,aV⟩:=MA rest _ _ vs out h qW (by simpa using hl) (λj p q MB mQ=>hp (j+1) p q (by simpa using MB) (by simpa using mQ));refine⟨gS,?_,aV⟩;have br:(v.cells.size≠n || off+v.cells.size > cv.size)=false:=by
       simp only[xj,ne_eq,not_true_eq_false,decide_false,Bool.false_or,decide_eq_false_iff_not];rw[<-xj];exact iG
      simp only[Instr.fill,iP];rw[cm (by rw[br];simp)];exact tr
    ·cases h
   ·cases h
theorem akK(z:Value):eG w B aj ρ (z.cells.toList.map jE) z.cells:=by
 refine⟨by simp,λj x hx=>?_⟩
 rw[dP]at hx;cases hv:z.cells.toList[j]? with
 |none=>rw[hv]at hx;cases hx
 | some v=>
  rw[hv]at hx;injection hx with hx;subst hx;exact⟨v,by simpa using hv,Mt v⟩
theorem akL{t:TypeId}{parts:Array (Nat×Operand)}{k:A->ak X}(h:vS P σ t parts.toList k=some r):∃ y,k y=some r/\∀ aj ρ a w,Rl w0 N aj ρ σ a w->
  ∃v,(Instr.build t (parts.map λ(i,x)=>(i,a.eval x))).run P w = .ok v w/\RA w w0.heap.size aj ρ y v:=by
 unfold vS at h;split at h
 ·rename_i z pl hz iP;split at h
  ·rename_i cs eR
   refine⟨_,h,λaj ρ a w hR=>?_⟩
   obtain⟨gS,hf,aV⟩:=MA (w:=w) (B:=w0.heap.size) (aj:=aj) (ρ:=ρ) _ _ z.cells (parts.toList.map λp=>(p.1,a.eval p.2)) cs eR (akK z) (by simp) (λj p q hp hq=>by
    rw[dP]at hp hq;cases hx:parts.toList[j]? with
    |none=>rw[hx]at hp;cases hp
    | some x=>
     rw[hx]at hp hq;injection hp with hp;injection hq with hq;subst hp hq;exact⟨rfl,hR.aH x.2⟩)
   refine⟨_,run_build (P:=P) w t _ gS ?_,gS,rfl,aV⟩;have G0:(parts.map λ(i,x)=>(i,a.eval x)).toList=parts.toList.map λp=>(p.1,a.eval p.2):=by simp
   rw[G0];unfold zeroOf at hz;unfold Program.built;cases hi:P.info? t with
   |none=>simp[hi]at hz
   | some i=>
    have hz:i.zero=some z:=by simpa [hi]using hz
    unfold aan at iP;split at iP
    ·rename_i n e hu;cases Ti:P.info? e with
     |none=>simp[Ti]at iP
     | some ie=>
      rw[Ti]at iP;injection iP with iP;subst iP;simp only[hu,hz,Ti];exact hf
    ·rename_i fields hu;cases hp:fields.toList.mapM (λf=>(P.info? f.type).map λi=>(f.offset,i.size))with
     |none=>rw[hp]at iP;cases iP
     | some ps=>
      rw[hp]at iP;injection iP with iP;subst iP;simp only[hu,hz,hp];exact hf
    ·cases iP
  ·cases h
 ·cases h
theorem MC:∀ (cs:af Lf) (vs:af V),vT cs=some vs->cs=vs.map .v
 |[],vs,h=>by injection h with h;subst h;rfl
 | x :: xs,vs,h=>by
  unfold vT at h;split at h
  next y ys hy oC=>injection h with h;subst h;rw[MC xs ys oC,lK];cases x<;>first|(injection hy with hy;rw[hy])|cases hy
  ·cases h
theorem Tj(t:TC)(g:Nat):∀ (n:Nat) (vs:af V) (l:af (T t)),GZ t g n vs=some l->l.length=n/\vs.length=n*aB t/\∀ i (hi:i<l.length) (j:Nat) x,(enc t g l[i])[j]?=some x->∃ y,vs[i*aB t+j]?=some y/\Wk y x
 | 0,[],l,h=>by
  injection h with h;subst h;exact⟨rfl,by simp,λi hi=>by simp at hi⟩
 |0,_::_,l,h=>by cases h
 | n+1,vs,l,h=>by
  unfold GZ at h;split at h
  ·rename_i x xs hx gV;injection h with h;subst h;obtain⟨h1,h2,h3⟩:=Tj t g n _ xs gV;have hk:=nW t g _ x hx;have hlen:(vs.take (aB t)).length=aB t:=by rw[hk.1,lA]
   have ox:aB t<=vs.length:=by rw[jN]at hlen;omega
   refine⟨by simp[h1],?_,λi hi j y hy=>?_⟩
   ·rw[List.length_drop]at h2;rw[jo];omega
   ·cases i with
    | zero=>
     simp only[List.getElem_cons_zero]at hy;have hj:j<aB t:=by have:=(dS.1 hy).1;rwa [lA]at this
     have fJ:=cu (l:=vs.take (aB t)) (i:=j) (by rw[hlen];exact hj);refine⟨_,?_,hk.2 j _ y fJ hy⟩;rw[List.getElem?_take,bB hj]at fJ;rw[Nat.zero_mul,fV];exact fJ
    | succ i=>
     simp only[List.getElem_cons_succ]at hy;obtain⟨z,hz,hw⟩:=h3 i (by simpa using hi) j y hy;refine⟨z,?_,hw⟩;rw[List.getElem?_drop]at hz;rw[jo,show i*aB t+aB t+j=aB t+(i*aB t+j) by omega];exact hz
  ·cases h
end
end Go.Proofs.YtecofnkoloihpaaGreat
