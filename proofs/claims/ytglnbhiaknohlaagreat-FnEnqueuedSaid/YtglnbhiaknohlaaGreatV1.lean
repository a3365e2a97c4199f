/-
  Running the program over pure contents, and that it follows (part 1). Nothing here is a claim.
-/
import Derived.Test.YtglnbhiaknohlaaGreatAppend
import Derived.Test.YtglnbhiaknohlaaGreatLaws
import Derived.Handy
import Derived.Great.BuildSlice
import Derived.ArgAppend
set_option linter.unusedSimpArgs false
namespace Go.Proofs.YtglnbhiaknohlaaGreat
open Go.RowKit
set_option linter.defProp false
abbrev aa:=List
abbrev aj:=Option
abbrev af:=Unit
def ak:=@cond_true
def dy:=@Bool.or_eq_true
def aK:=@Bool.and_eq_true
def bQ:=@Nat.eq_of_beq_eq_true
def cB:=@Nat.le_of_ble_eq_true
def fL:=@List.mem_of_getElem?
def cO:=@List.getElem?_map
def jD:=@Nat.lt_of_lt_of_le
def jZ:=@World.cell?_of_block
def fl:=@Array.getElem?_eq_some_iff
def eN:=@Nat.zero_add
def bk:=@if_pos
def cZ:=@List.length_map
def iW:=@List.any_eq_false
def aq:=@cond_false
def gE:=@Array.getD_eq_getD_getElem?
def ke:=@Array.length_toList
def kX:=@Array.getElem?_toList
def bB:=@if_neg
def jE:=@List.length_set
def c7:=@List.getElem?_eq_some_iff
def bK:=@List.getElem?_eq_getElem
def dV:=@Nat.le_refl
def gS:=@Nat.mul_le_mul_right
def fQ:=@Nat.succ_mul
def gn:=@Nat.zero_le
def gF:=@Option.map_some
def eC:=@Sem.run_bind
def iD:=@Result.andThen_ok
def gy:=@run_underlying
def bD:=@congrArg
def fF:=@List.mem_cons
def cv:=@List.all_eq_true
def cP:=@List.getElem_mem
def iE:=@Nat.ble_eq_true_of_le
def fh:=@Option.some.injEq
def gT:=@Prod.mk.injEq
def ic:=@List.map_congr_left
def fR:=@List.length_take
def mK:=@List.length_append
def lX:=@List.length_replicate
def kB:=@List.length_cons
def lY:=@decide_eq_false_iff_not
def ig:=@List.map_cons
def eX:=@List.getD_eq_getElem?_getD
def lZ:=@Bool.or_eq_false_iff
def fM:=@Bool.not_eq_true'
def cM:=@Bool.true_and
def aG:=@dif_pos
def kY:=@List.mem_singleton
def ij:=@List.length_singleton
def eD:=@List.mem_range
def kZ:=@List.getElem_range
def aW:=@decide_eq_true
def fH:=@decide_eq_true_eq
def bR:=@Bool.not_true
def p9:=@Int.tmod_eq_emod_of_nonneg
def br:=@decide_eq_false
def bJ:=@Int.toNat_natCast
def jF:=@List.take_length
def eO:=@Sum.elim_inl
def cA:=@Int.natCast_zero
def fI:=@Int.eq_ofNat_of_zero_le
def ld:=@beq_self_eq_true
def iX:=@List.mem_iff_getElem
def nA:=@List.findIdx?_eq_some_iff_getElem
def dD:=@List.length_range
def gU:=@Bool.not_false
def qM:=@Int.tdiv_eq_ediv_of_nonneg
def eS:=@beq_iff_eq
set_option linter.unusedVariables false
set_option linter.unusedSimpArgs false
structure aN where
 ck:Int
 aF:Int
 rows:Int
 aO:Int
structure aL where
 az:Int
 row:Int
 bT:Int
structure kC where
 order:Int
 hash:Bool
structure JP where
 owner:List Int
structure aI where
 kind:Int
 az:Int
 row:Int
 bT:Int
structure c8 where
 jG:Int
 rp:Int
 ga:Int
 mL:Int
 jH:Int
 nB:Int
 mM:Int
 mN:Int
 jk:Int
 wr:Int
 n8:Int
 n9:Int
 qN:Int
 oa:Int
 oR:Int
 xp:Int
 xs:Int
structure eP where
 open_:Bool
 row:Int
structure cK where
 aF:List eP
 bg:Int
structure fj where
 at_:Int
 cmd:aI
structure dM where
 last:List Int
 bx:List Int
structure bW where
 symbols:List Int
 iO:Bool
structure dP where
 cells:List bW
 bI:List Int
 bG:List Int
structure lg where
 bI:Int
 bG:Int
structure cw where
 rows:List Int
 counts:List Int
 ep:Int
structure c9 where
 bH:Int
 map:List Int
structure dc where
 aU:List Int
 wait:Int
 dR:Bool
structure aM where
 id:Int
 dj:Int
 line:Int
 write:Bool
 data:Int
 at_:Int
structure cq where
 weight:Int
 fz:Int
structure iq where
 on:Bool
 low:Int
 high:Int
structure JQ where
 owner:List Int
 length:Int
structure JR where
 id:Int
 at_:Int
structure eY where
 state:Int
 since:Int
 idle:Int
structure oc where
 down:Int
 sleep:Int
structure bX where
 line:Int
 code:Int
 times:Int
structure JS where
 agZ:List ByteArray
structure JT where
 ag0:List Int
 next:Int
structure JU where
 count:Int
 commands:List aI
structure BO where
 count:Int
 tag:Int
structure Ei where
 root:Int
 mid:List BO
 leaf:List BO
structure JV where
 key:Int
 tree:Ei
 data:List Int
 tags:List Int
structure l5 where
 next:Int
 every:Int
 wait:Int
structure JW where
 index:Int
 before:bW
 after:bW
 code:Int
structure JX where
 az:Int
 from_:Int
 to:Int
 next:Int
structure dF where
 eT:Int
 cap:Int
 eB:Int
 low:Int
 high:Int
 weights:List Int
 dW:oc
structure gz where
 bZ:dF
 next:dF
 waits:Bool
structure eH where
 ay:aN
 cc:c8
 mapping:kC
 bH:Int
 interval:Int
 ir:Int
 ew:lg
structure dz where
 id:Int
 at_:Int
 data:Int
 code:Int
structure av where
 config:eH
 box:gz
 now:Int
 bh:cK
 ready:dM
 array:dP
 spare:c9
 bu:dc
 bN:List cw
 guard:List Int
 pending:List aL
 queue:List aM
 shares:List cq
 drain:iq
 bg:eY
 cT:l5
 errors:List bX
 trace:List fj
 cC:List dz
structure iP where
 kind:Int
 request:aM
 n:Int
 wG:Int
 addr:aL
 nD:dF
structure JY where
 line:Int
 data:Int
 code:Int
structure bF where
 b:List Int
 i:Int
 h:Int
inductive TC where
 |int|u8|bool|str
 |dX
 |Addr
 |qO
 |wH
 |Command
 |iY
 |iZ
 |kf
 |Event
 |l6
 |Cell
 |Array
 |rU
 |iu
 |jI
 |ki
 |cY
 |fJ
 |qa
 |wI
 |wJ
 |Power
 |rV
 |fW
 |wK
 |wL
 |Receiver
 |Node
 |Tree
 |wM
 |rW
 |wN
 |Move
 |jl
 |mO
 |Config
 |kD
 |cr
 |Act
 |Fact
 |jm
 |sl (t:TC)
 |kE
 |BP (g:Nat)
 |wO (g:Nat)
 |BQ (g:Nat)
 |fnCommand (g:Nat)
deriving DecidableEq
def T:TC->Type
 |.int=>Int
 |.u8=>Int
 |.bool=>Bool
 |.str=>ByteArray
 |.dX=>aN
 |.Addr=>aL
 |.qO=>kC
 |.wH=>JP
 |.Command=>aI
 |.iY=>c8
 |.iZ=>eP
 |.kf=>cK
 |.Event=>fj
 |.l6=>dM
 |.Cell=>bW
 |.Array=>dP
 |.rU=>lg
 |.iu=>cw
 |.jI=>c9
 |.ki=>dc
 |.cY=>aM
 |.fJ=>cq
 |.qa=>iq
 |.wI=>JQ
 |.wJ=>JR
 |.Power=>eY
 |.rV=>oc
 |.fW=>bX
 |.wK=>JS
 |.wL=>JT
 |.Receiver=>JU
 |.Node=>BO
 |.Tree=>Ei
 |.wM=>JV
 |.rW=>l5
 |.wN=>JW
 |.Move=>JX
 |.jl=>dF
 |.mO=>gz
 |.Config=>eH
 |.kD=>dz
 |.cr=>av
 |.Act=>iP
 |.Fact=>JY
 |.jm=>bF
 |.sl t=>aa (T t)
 |.kE=>av
 |.BP _=>Int
 |.wO _=>aM
 |.BQ _=>aL
 |.fnCommand _=>aI
def aC:TC->Nat
 |.kE=>76
 |.BP _=>3
 |.wO _=>8
 |.BQ _=>5
 |.fnCommand _=>6
 |.dX=>4
 |.Addr=>3
 |.qO=>2
 |.wH=>1
 |.Command=>4
 |.iY=>17
 |.iZ=>2
 |.kf=>2
 |.Event=>5
 |.l6=>2
 |.Cell=>2
 |.Array=>3
 |.rU=>2
 |.iu=>3
 |.jI=>2
 |.ki=>3
 |.cY=>6
 |.fJ=>2
 |.qa=>3
 |.wI=>2
 |.wJ=>2
 |.Power=>3
 |.rV=>2
 |.fW=>3
 |.wK=>1
 |.wL=>2
 |.Receiver=>2
 |.Node=>2
 |.Tree=>3
 |.wM=>6
 |.rW=>3
 |.wN=>6
 |.Move=>4
 |.jl=>8
 |.mO=>17
 |.Config=>28
 |.kD=>4
 |.cr=>75
 |.Act=>20
 |.Fact=>3
 |.jm=>3
 |_=>1
def full:TC->Nat
 |.int|.u8|.bool|.str=>0
 |.dX=>0
 |.Addr=>0
 |.qO=>0
 |.wH=>2
 |.Command=>0
 |.iY=>0
 |.iZ=>0
 |.kf=>2
 |.Event=>0
 |.l6=>2
 |.Cell=>2
 |.Array=>4
 |.rU=>0
 |.iu=>2
 |.jI=>2
 |.ki=>2
 |.cY=>0
 |.fJ=>0
 |.qa=>0
 |.wI=>2
 |.wJ=>0
 |.Power=>0
 |.rV=>0
 |.fW=>0
 |.wK=>2
 |.wL=>2
 |.Receiver=>2
 |.Node=>0
 |.Tree=>2
 |.wM=>2
 |.rW=>0
 |.wN=>2
 |.Move=>0
 |.jl=>2
 |.mO=>2
 |.Config=>0
 |.kD=>0
 |.cr=>4
 |.Act=>2
 |.Fact=>0
 |.jm=>2
 |.sl t=>full t+2
 |.kE=>4
 |.BP _=>0
 |.wO _=>0
 |.BQ _=>0
 |.fnCommand _=>0
def tid:TC->TypeId
 |.int=>3
 |.u8=>5
 |.bool=>4
 |.str=>9
 |.dX=>25
 |.Addr=>137
 |.qO=>29
 |.wH=>0
 |.Command=>79
 |.iY=>27
 |.iZ=>157
 |.kf=>43
 |.Event=>81
 |.l6=>45
 |.Cell=>199
 |.Array=>48
 |.rU=>31
 |.iu=>181
 |.jI=>50
 |.ki=>52
 |.cY=>73
 |.fJ=>187
 |.qa=>58
 |.wI=>0
 |.wJ=>0
 |.Power=>60
 |.rV=>36
 |.fW=>190
 |.wK=>0
 |.wL=>0
 |.Receiver=>0
 |.Node=>0
 |.Tree=>0
 |.wM=>0
 |.rW=>62
 |.wN=>0
 |.Move=>0
 |.jl=>38
 |.mO=>40
 |.Config=>33
 |.kD=>101
 |.cr=>67
 |.Act=>249
 |.Fact=>0
 |.jm=>169
 |.sl .int=>34
 |.sl .bool=>284
 |.sl .str=>0
 |_=>0
inductive V where
 |int (k:IntKind) (n:Int)
 |bool (b:Bool)
 |str (s:ByteArray)
 |nil
 |sl (t:TC) (o:Nat) (q:Bool) (l:List (T t))
def V.aQ:V->aj Int|.int .i64 n=>some n|_=>none
def V.Pa:V->aj Int|.int .u8 n=>some n|_=>none
def V.l7:V->aj Bool|.bool b=>some b|_=>none
def V.Pb:V->aj ByteArray|.str s=>some s|_=>none
def V.dw(t:TC)(o:Nat):V->aj (aa (T t))
 |.sl D C _ l=>bif Nat.beq C o ||(Nat.ble (full t+2) C&&Nat.ble (full t+2) o)then (if h:D=t then some (h ▸ l)else none)else none
 |.nil=>some []
 |_=>none
inductive Wk:V->V->Prop
 |same (x:V):Wk x x
 |nil (t:TC) (o:Nat):Wk .nil (.sl t o false [])
 |q (t:TC) (o:Nat) (l:List (T t)):Wk (.sl t o true l) (.sl t o false l)
 |gr (t:TC) (o o':Nat) (qn:Bool) (l:List (T t)) (h:full t+2<=o) (h':full t+2<=o'):Wk (.sl t o' qn l) (.sl t o false l)
def bS(xs ys:aa V):Prop:=xs.length=ys.length/\∀(j:Nat) (x y:V),xs[j]?=some x->ys[j]?=some y->Wk x y
theorem bS.nil:bS [] []:=⟨rfl,by simp⟩
theorem bS.cons{x y:V}{xs ys:aa V}(h:Wk x y)(k:bS xs ys):bS (x :: xs) (y :: ys):=by
 refine⟨by simp[k.1],λj a b C hb=>?_⟩
 cases j with
 |zero=>simp at C hb;subst C;subst hb;exact h
 |succ j=>simp at C hb;exact k.2 j a b C hb
theorem V.aS{x:V}{n:Int}(h:x.aQ=some n):Wk x (.int .i64 n):=by
 unfold V.aQ at h;split at h<;>first|(injection h with h;subst h;exact .same _)|cases h
theorem V.ag1{x:V}{n:Int}(h:x.Pa=some n):Wk x (.int .u8 n):=by
 unfold V.Pa at h;split at h<;>first|(injection h with h;subst h;exact .same _)|cases h
theorem V.nE{x:V}{n:Bool}(h:x.l7=some n):Wk x (.bool n):=by
 unfold V.l7 at h;split at h<;>first|(injection h with h;subst h;exact .same _)|cases h
theorem V.ag2{x:V}{n:ByteArray}(h:x.Pb=some n):Wk x (.str n):=by
 unfold V.Pb at h;split at h<;>first|(injection h with h;subst h;exact .same _)|cases h
theorem V.dN{x:V}{t:TC}{o:Nat}{l:aa (T t)}(h:x.dw t o=some l):Wk x (.sl t o false l):=by
 unfold V.dw at h;split at h
 ·rename_i E C q I;cases hc:(Nat.beq C o || (Nat.ble (full t+2) C&&Nat.ble (full t+2) o))with
  |false=>rw[hc]at h;cases h
  | true=>
   rw[hc,ak]at h;split at h
   ·rename_i D;subst D;injection h with h;subst h;rw[dy,aK]at hc;rcases hc with hc | hc
    ·obtain rfl:=bQ hc;cases q
     ·exact .same _
     ·exact .q _ _ _
    ·exact .gr _ _ _ _ _ (cB hc.2) (cB hc.1)
   ·cases h
 ·injection h with h;subst h;exact .nil _ _
 ·cases h
def BR(o:Nat)(x:aN):aa V:=[.int .i64 x.ck,.int .i64 x.aF,.int .i64 x.rows,.int .i64 x.aO]
def wP(o:Nat)(x:aL):aa V:=[.int .i64 x.az,.int .i64 x.row,.int .i64 x.bT]
def BS(o:Nat)(x:kC):aa V:=[.int .i64 x.order,.bool x.hash]
def Ej(o:Nat)(x:JP):aa V:=[.sl .int o false x.owner]
def wQ(o:Nat)(x:aI):aa V:=[.int .i64 x.kind,.int .i64 x.az,.int .i64 x.row,.int .i64 x.bT]
def BU(o:Nat)(x:c8):aa V:=[.int .i64 x.jG,.int .i64 x.rp,.int .i64 x.ga,.int .i64 x.mL,.int .i64 x.jH,.int .i64 x.nB,.int .i64 x.mM,.int .i64 x.mN,.int .i64 x.jk,.int .i64 x.wr,.int .i64 x.n8,.int .i64 x.n9,.int .i64 x.qN,.int .i64 x.oa,.int .i64 x.oR,.int .i64 x.xp,.int .i64 x.xs]
def BV(o:Nat)(x:eP):aa V:=[.bool x.open_,.int .i64 x.row]
def El(o:Nat)(x:cK):aa V:=[.sl .iZ o false x.aF,.int .i64 x.bg]
def BW(o:Nat)(x:fj):aa V:=[.int .i64 x.at_,.int .i64 x.cmd.kind,.int .i64 x.cmd.az,.int .i64 x.cmd.row,.int .i64 x.cmd.bT]
def Em(o:Nat)(x:dM):aa V:=[.sl .int o false x.last,.sl .int o false x.bx]
def En(o:Nat)(x:bW):aa V:=[.sl .int o false x.symbols,.bool x.iO]
def Eo(o:Nat)(x:dP):aa V:=[.sl .Cell o false x.cells,.sl .int o false x.bI,.sl .int o false x.bG]
def BX(o:Nat)(x:lg):aa V:=[.int .i64 x.bI,.int .i64 x.bG]
def Ep(o:Nat)(x:cw):aa V:=[.sl .int o false x.rows,.sl .int o false x.counts,.int .i64 x.ep]
def Er(o:Nat)(x:c9):aa V:=[.int .i64 x.bH,.sl .int o false x.map]
def Es(o:Nat)(x:dc):aa V:=[.sl .int o false x.aU,.int .i64 x.wait,.bool x.dR]
def wR(o:Nat)(x:aM):aa V:=[.int .i64 x.id,.int .i64 x.dj,.int .i64 x.line,.bool x.write,.int .i64 x.data,.int .i64 x.at_]
def BY(o:Nat)(x:cq):aa V:=[.int .i64 x.weight,.int .i64 x.fz]
def BZ(o:Nat)(x:iq):aa V:=[.bool x.on,.int .i64 x.low,.int .i64 x.high]
def Et(o:Nat)(x:JQ):aa V:=[.sl .int o false x.owner,.int .i64 x.length]
def B0(o:Nat)(x:JR):aa V:=[.int .i64 x.id,.int .i64 x.at_]
def B1(o:Nat)(x:eY):aa V:=[.int .i64 x.state,.int .i64 x.since,.int .i64 x.idle]
def B2(o:Nat)(x:oc):aa V:=[.int .i64 x.down,.int .i64 x.sleep]
def B3(o:Nat)(x:bX):aa V:=[.int .i64 x.line,.int .i64 x.code,.int .i64 x.times]
def Eu(o:Nat)(x:JS):aa V:=[.sl .str o false x.agZ]
def Ev(o:Nat)(x:JT):aa V:=[.sl .int o false x.ag0,.int .i64 x.next]
def Ew(o:Nat)(x:JU):aa V:=[.int .i64 x.count,.sl .Command o false x.commands]
def B4(o:Nat)(x:BO):aa V:=[.int .i64 x.count,.int .i64 x.tag]
def Ex(o:Nat)(x:Ei):aa V:=[.int .i64 x.root,.sl .Node o false x.mid,.sl .Node o false x.leaf]
def Ey(o:Nat)(x:JV):aa V:=[.int .i64 x.key,.int .i64 x.tree.root,.sl .Node o false x.tree.mid,.sl .Node o false x.tree.leaf,.sl .int o false x.data,.sl .int o false x.tags]
def B5(o:Nat)(x:l5):aa V:=[.int .i64 x.next,.int .i64 x.every,.int .i64 x.wait]
def Ez(o:Nat)(x:JW):aa V:=[.int .i64 x.index,.sl .int o false x.before.symbols,.bool x.before.iO,.sl .int o false x.after.symbols,.bool x.after.iO,.int .i64 x.code]
def B6(o:Nat)(x:JX):aa V:=[.int .i64 x.az,.int .i64 x.from_,.int .i64 x.to,.int .i64 x.next]
def EA(o:Nat)(x:dF):aa V:=[.int .i64 x.eT,.int .i64 x.cap,.int .i64 x.eB,.int .i64 x.low,.int .i64 x.high,.sl .int o false x.weights,.int .i64 x.dW.down,.int .i64 x.dW.sleep]
def EB(o:Nat)(x:gz):aa V:=[.int .i64 x.bZ.eT,.int .i64 x.bZ.cap,.int .i64 x.bZ.eB,.int .i64 x.bZ.low,.int .i64 x.bZ.high,.sl .int o false x.bZ.weights,.int .i64 x.bZ.dW.down,.int .i64 x.bZ.dW.sleep,.int .i64 x.next.eT,.int .i64 x.next.cap,.int .i64 x.next.eB,.int .i64 x.next.low,.int .i64 x.next.high,.sl .int o false x.next.weights,.int .i64 x.next.dW.down,.int .i64 x.next.dW.sleep,.bool x.waits]
def B7(o:Nat)(x:eH):aa V:=[.int .i64 x.ay.ck,.int .i64 x.ay.aF,.int .i64 x.ay.rows,.int .i64 x.ay.aO,.int .i64 x.cc.jG,.int .i64 x.cc.rp,.int .i64 x.cc.ga,.int .i64 x.cc.mL,.int .i64 x.cc.jH,.int .i64 x.cc.nB,.int .i64 x.cc.mM,.int .i64 x.cc.mN,.int .i64 x.cc.jk,.int .i64 x.cc.wr,.int .i64 x.cc.n8,.int .i64 x.cc.n9,.int .i64 x.cc.qN,.int .i64 x.cc.oa,.int .i64 x.cc.oR,.int .i64 x.cc.xp,.int .i64 x.cc.xs,.int .i64 x.mapping.order,.bool x.mapping.hash,.int .i64 x.bH,.int .i64 x.interval,.int .i64 x.ir,.int .i64 x.ew.bI,.int .i64 x.ew.bG]
def B8(o:Nat)(x:dz):aa V:=[.int .i64 x.id,.int .i64 x.at_,.int .i64 x.data,.int .i64 x.code]
def wS(o:Nat)(x:av):aa V:=[.int .i64 x.config.ay.ck,.int .i64 x.config.ay.aF,.int .i64 x.config.ay.rows,.int .i64 x.config.ay.aO,.int .i64 x.config.cc.jG,.int .i64 x.config.cc.rp,.int .i64 x.config.cc.ga,.int .i64 x.config.cc.mL,.int .i64 x.config.cc.jH,.int .i64 x.config.cc.nB,.int .i64 x.config.cc.mM,.int .i64 x.config.cc.mN,.int .i64 x.config.cc.jk,.int .i64 x.config.cc.wr,.int .i64 x.config.cc.n8,.int .i64 x.config.cc.n9,.int .i64 x.config.cc.qN,.int .i64 x.config.cc.oa,.int .i64 x.config.cc.oR,.int .i64 x.config.cc.xp,.int .i64 x.config.cc.xs,.int .i64 x.config.mapping.order,.bool x.config.mapping.hash,.int .i64 x.config.bH,.int .i64 x.config.interval,.int .i64 x.config.ir,.int .i64 x.config.ew.bI,.int .i64 x.config.ew.bG,.int .i64 x.box.bZ.eT,.int .i64 x.box.bZ.cap,.int .i64 x.box.bZ.eB,.int .i64 x.box.bZ.low,.int .i64 x.box.bZ.high,.sl .int o false x.box.bZ.weights,.int .i64 x.box.bZ.dW.down,.int .i64 x.box.bZ.dW.sleep,.int .i64 x.box.next.eT,.int .i64 x.box.next.cap,.int .i64 x.box.next.eB,.int .i64 x.box.next.low,.int .i64 x.box.next.high,.sl .int o false x.box.next.weights,.int .i64 x.box.next.dW.down,.int .i64 x.box.next.dW.sleep,.bool x.box.waits,.int .i64 x.now,.sl .iZ o false x.bh.aF,.int .i64 x.bh.bg,.sl .int o false x.ready.last,.sl .int o false x.ready.bx,.sl .Cell o false x.array.cells,.sl .int o false x.array.bI,.sl .int o false x.array.bG,.int .i64 x.spare.bH,.sl .int o false x.spare.map,.sl .int o false x.bu.aU,.int .i64 x.bu.wait,.bool x.bu.dR,.sl .iu o false x.bN,.sl .int o false x.guard,.sl .Addr o false x.pending,.sl .cY o false x.queue,.sl .fJ o false x.shares,.bool x.drain.on,.int .i64 x.drain.low,.int .i64 x.drain.high,.int .i64 x.bg.state,.int .i64 x.bg.since,.int .i64 x.bg.idle,.int .i64 x.cT.next,.int .i64 x.cT.every,.int .i64 x.cT.wait,.sl .fW o false x.errors,.sl .Event o false x.trace,.sl .kD o false x.cC]
def EC(o:Nat)(x:iP):aa V:=[.int .i64 x.kind,.int .i64 x.request.id,.int .i64 x.request.dj,.int .i64 x.request.line,.bool x.request.write,.int .i64 x.request.data,.int .i64 x.request.at_,.int .i64 x.n,.int .i64 x.wG,.int .i64 x.addr.az,.int .i64 x.addr.row,.int .i64 x.addr.bT,.int .i64 x.nD.eT,.int .i64 x.nD.cap,.int .i64 x.nD.eB,.int .i64 x.nD.low,.int .i64 x.nD.high,.sl .int o false x.nD.weights,.int .i64 x.nD.dW.down,.int .i64 x.nD.dW.sleep]
def B9(o:Nat)(x:JY):aa V:=[.int .i64 x.line,.int .i64 x.data,.int .i64 x.code]
def ED(o:Nat)(x:bF):aa V:=[.sl .u8 o false x.b,.int .i64 x.i,.int .i64 x.h]
def enc:(t:TC)->(o:Nat)->T t->aa V
 |.int,_,x=>[.int .i64 x]
 |.u8,_,x=>[.int .u8 x]
 |.bool,_,x=>[.bool x]
 |.str,_,x=>[.str x]
 |.dX,o,x=>BR o x
 |.Addr,o,x=>wP o x
 |.qO,o,x=>BS o x
 |.wH,o,x=>Ej o x
 |.Command,o,x=>wQ o x
 |.iY,o,x=>BU o x
 |.iZ,o,x=>BV o x
 |.kf,o,x=>El o x
 |.Event,o,x=>BW o x
 |.l6,o,x=>Em o x
 |.Cell,o,x=>En o x
 |.Array,o,x=>Eo o x
 |.rU,o,x=>BX o x
 |.iu,o,x=>Ep o x
 |.jI,o,x=>Er o x
 |.ki,o,x=>Es o x
 |.cY,o,x=>wR o x
 |.fJ,o,x=>BY o x
 |.qa,o,x=>BZ o x
 |.wI,o,x=>Et o x
 |.wJ,o,x=>B0 o x
 |.Power,o,x=>B1 o x
 |.rV,o,x=>B2 o x
 |.fW,o,x=>B3 o x
 |.wK,o,x=>Eu o x
 |.wL,o,x=>Ev o x
 |.Receiver,o,x=>Ew o x
 |.Node,o,x=>B4 o x
 |.Tree,o,x=>Ex o x
 |.wM,o,x=>Ey o x
 |.rW,o,x=>B5 o x
 |.wN,o,x=>Ez o x
 |.Move,o,x=>B6 o x
 |.jl,o,x=>EA o x
 |.mO,o,x=>EB o x
 |.Config,o,x=>B7 o x
 |.kD,o,x=>B8 o x
 |.cr,o,x=>wS o x
 |.Act,o,x=>EC o x
 |.Fact,o,x=>B9 o x
 |.jm,o,x=>ED o x
 |.sl t,o,x=>[.sl t o false x]
 |.kE,o,x=>.bool true::wS o x
 |.BP g,o,x=>.bool false::.int .i64 (g:Int)::[.int .i64 x]
 |.wO g,o,x=>.bool false::.int .i64 (g:Int)::wR o x
 |.BQ g,o,x=>.bool false::.int .i64 (g:Int)::wP o x
 |.fnCommand g,o,x=>.bool false::.int .i64 (g:Int)::wQ o x
def Pc(o:Nat)(cs:aa V):aj aN:=match cs with
 |a0::C::D::E::[]=>(a0.aQ).bind λI=>(C.aQ).bind λJ=>(D.aQ).bind λL=>(E.aQ).bind λO=>some ⟨I,J,L,O⟩
 |_=>none
def JZ(o:Nat)(cs:aa V):aj aL:=match cs with
 |a0::C::D::[]=>(a0.aQ).bind λE=>(C.aQ).bind λI=>(D.aQ).bind λJ=>some ⟨E,I,J⟩
 |_=>none
def Pd(o:Nat)(cs:aa V):aj kC:=match cs with
 |a0::C::[]=>(a0.aQ).bind λD=>(C.l7).bind λE=>some ⟨D,E⟩
 |_=>none
def Pe(o:Nat)(cs:aa V):aj JP:=match cs with
 |a0::[]=>(a0.dw .int o).bind λC=>some ⟨C⟩
 |_=>none
def J0(o:Nat)(cs:aa V):aj aI:=match cs with
 |a0::C::D::E::[]=>(a0.aQ).bind λI=>(C.aQ).bind λJ=>(D.aQ).bind λL=>(E.aQ).bind λO=>some ⟨I,J,L,O⟩
 |_=>none
def Pf(o:Nat)(cs:aa V):aj c8:=match cs with
 |a0::C::D::E::a4::I::J::L::O::Q::T::U::Y::Z::uw::uy::uz::[]=>(a0.aQ).bind λx0=>(C.aQ).bind λx1=>(D.aQ).bind λx2=>(E.aQ).bind λx3=>(a4.aQ).bind λx4=>(I.aQ).bind λx5=>(J.aQ).bind λx6=>(L.aQ).bind λx7=>(O.aQ).bind λx8=>(Q.aQ).bind λx9=>(T.aQ).bind λoS=>(U.aQ).bind λoT=>(Y.aQ).bind λoU=>(Z.aQ).bind λoV=>(uw.aQ).bind λoW=>(uy.aQ).bind λoX=>(uz.aQ).bind λoY=>some ⟨x0,x1,x2,x3,x4,x5,x6,x7,x8,x9,oS,oT,oU,oV,oW,oX,oY⟩
 |_=>none
def Pg(o:Nat)(cs:aa V):aj eP:=match cs with
 |a0::C::[]=>(a0.l7).bind λD=>(C.aQ).bind λE=>some ⟨D,E⟩
 |_=>none
def Ph(o:Nat)(cs:aa V):aj cK:=match cs with
 |a0::C::[]=>(a0.dw .iZ o).bind λD=>(C.aQ).bind λE=>some ⟨D,E⟩
 |_=>none
def Pj(o:Nat)(cs:aa V):aj fj:=match cs with
 |a0::C::D::E::a4::[]=>(a0.aQ).bind λI=>(C.aQ).bind λJ=>(D.aQ).bind λL=>(E.aQ).bind λO=>(a4.aQ).bind λQ=>some ⟨I,⟨J,L,O,Q⟩⟩
 |_=>none
def Pm(o:Nat)(cs:aa V):aj dM:=match cs with
 |a0::C::[]=>(a0.dw .int o).bind λD=>(C.dw .int o).bind λE=>some ⟨D,E⟩
 |_=>none
def Pn(o:Nat)(cs:aa V):aj bW:=match cs with
 |a0::C::[]=>(a0.dw .int o).bind λD=>(C.l7).bind λE=>some ⟨D,E⟩
 |_=>none
def Po(o:Nat)(cs:aa V):aj dP:=match cs with
 |a0::C::D::[]=>(a0.dw .Cell o).bind λE=>(C.dw .int o).bind λI=>(D.dw .int o).bind λJ=>some ⟨E,I,J⟩
 |_=>none
def Pp(o:Nat)(cs:aa V):aj lg:=match cs with
 |a0::C::[]=>(a0.aQ).bind λD=>(C.aQ).bind λE=>some ⟨D,E⟩
 |_=>none
def Pr(o:Nat)(cs:aa V):aj cw:=match cs with
 |a0::C::D::[]=>(a0.dw .int o).bind λE=>(C.dw .int o).bind λI=>(D.aQ).bind λJ=>some ⟨E,I,J⟩
 |_=>none
def Pu(o:Nat)(cs:aa V):aj c9:=match cs with
 |a0::C::[]=>(a0.aQ).bind λD=>(C.dw .int o).bind λE=>some ⟨D,E⟩
 |_=>none
def Pv(o:Nat)(cs:aa V):aj dc:=match cs with
 |a0::C::D::[]=>(a0.dw .int o).bind λE=>(C.aQ).bind λI=>(D.l7).bind λJ=>some ⟨E,I,J⟩
 |_=>none
def J1(o:Nat)(cs:aa V):aj aM:=match cs with
 |a0::C::D::E::a4::I::[]=>(a0.aQ).bind λJ=>(C.aQ).bind λL=>(D.aQ).bind λO=>(E.l7).bind λQ=>(a4.aQ).bind λT=>(I.aQ).bind λU=>some ⟨J,L,O,Q,T,U⟩
 |_=>none
def Pw(o:Nat)(cs:aa V):aj cq:=match cs with
 |a0::C::[]=>(a0.aQ).bind λD=>(C.aQ).bind λE=>some ⟨D,E⟩
 |_=>none
def Px(o:Nat)(cs:aa V):aj iq:=match cs with
 |a0::C::D::[]=>(a0.l7).bind λE=>(C.aQ).bind λI=>(D.aQ).bind λJ=>some ⟨E,I,J⟩
 |_=>none
def Py(o:Nat)(cs:aa V):aj JQ:=match cs with
 |a0::C::[]=>(a0.dw .int o).bind λD=>(C.aQ).bind λE=>some ⟨D,E⟩
 |_=>none
def Pz(o:Nat)(cs:aa V):aj JR:=match cs with
 |a0::C::[]=>(a0.aQ).bind λD=>(C.aQ).bind λE=>some ⟨D,E⟩
 |_=>none
def PB(o:Nat)(cs:aa V):aj eY:=match cs with
 |a0::C::D::[]=>(a0.aQ).bind λE=>(C.aQ).bind λI=>(D.aQ).bind λJ=>some ⟨E,I,J⟩
 |_=>none
def PC(o:Nat)(cs:aa V):aj oc:=match cs with
 |a0::C::[]=>(a0.aQ).bind λD=>(C.aQ).bind λE=>some ⟨D,E⟩
 |_=>none
def PD(o:Nat)(cs:aa V):aj bX:=match cs with
 |a0::C::D::[]=>(a0.aQ).bind λE=>(C.aQ).bind λI=>(D.aQ).bind λJ=>some ⟨E,I,J⟩
 |_=>none
def PE(o:Nat)(cs:aa V):aj JS:=match cs with
 |a0::[]=>(a0.dw .str o).bind λC=>some ⟨C⟩
 |_=>none
def PF(o:Nat)(cs:aa V):aj JT:=match cs with
 |a0::C::[]=>(a0.dw .int o).bind λD=>(C.aQ).bind λE=>some ⟨D,E⟩
 |_=>none
def PG(o:Nat)(cs:aa V):aj JU:=match cs with
 |a0::C::[]=>(a0.aQ).bind λD=>(C.dw .Command o).bind λE=>some ⟨D,E⟩
 |_=>none
def PI(o:Nat)(cs:aa V):aj BO:=match cs with
 |a0::C::[]=>(a0.aQ).bind λD=>(C.aQ).bind λE=>some ⟨D,E⟩
 |_=>none
def PJ(o:Nat)(cs:aa V):aj Ei:=match cs with
 |a0::C::D::[]=>(a0.aQ).bind λE=>(C.dw .Node o).bind λI=>(D.dw .Node o).bind λJ=>some ⟨E,I,J⟩
 |_=>none
def PL(o:Nat)(cs:aa V):aj JV:=match cs with
 |a0::C::D::E::a4::I::[]=>(a0.aQ).bind λJ=>(C.aQ).bind λL=>(D.dw .Node o).bind λO=>(E.dw .Node o).bind λQ=>(a4.dw .int o).bind λT=>(I.dw .int o).bind λU=>some ⟨J,⟨L,O,Q⟩,T,U⟩
 |_=>none
def PN(o:Nat)(cs:aa V):aj l5:=match cs with
 |a0::C::D::[]=>(a0.aQ).bind λE=>(C.aQ).bind λI=>(D.aQ).bind λJ=>some ⟨E,I,J⟩
 |_=>none
def PO(o:Nat)(cs:aa V):aj JW:=match cs with
 |a0::C::D::E::a4::I::[]=>(a0.aQ).bind λJ=>(C.dw .int o).bind λL=>(D.l7).bind λO=>(E.dw .int o).bind λQ=>(a4.l7).bind λT=>(I.aQ).bind λU=>some ⟨J,⟨L,O⟩,⟨Q,T⟩,U⟩
 |_=>none
def PR(o:Nat)(cs:aa V):aj JX:=match cs with
 |a0::C::D::E::[]=>(a0.aQ).bind λI=>(C.aQ).bind λJ=>(D.aQ).bind λL=>(E.aQ).bind λO=>some ⟨I,J,L,O⟩
 |_=>none
def PS(o:Nat)(cs:aa V):aj dF:=match cs with
 |a0::C::D::E::a4::I::J::L::[]=>(a0.aQ).bind λO=>(C.aQ).bind λQ=>(D.aQ).bind λT=>(E.aQ).bind λU=>(a4.aQ).bind λY=>(I.dw .int o).bind λZ=>(J.aQ).bind λx6=>(L.aQ).bind λx7=>some ⟨O,Q,T,U,Y,Z,⟨x6,x7⟩⟩
 |_=>none
def PT(o:Nat)(cs:aa V):aj gz:=match cs with
 |a0::C::D::E::a4::I::J::L::O::Q::T::U::Y::Z::uw::uy::uz::[]=>(a0.aQ).bind λx0=>(C.aQ).bind λx1=>(D.aQ).bind λx2=>(E.aQ).bind λx3=>(a4.aQ).bind λx4=>(I.dw .int o).bind λx5=>(J.aQ).bind λx6=>(L.aQ).bind λx7=>(O.aQ).bind λx8=>(Q.aQ).bind λx9=>(T.aQ).bind λoS=>(U.aQ).bind λoT=>(Y.aQ).bind λoU=>(Z.dw .int o).bind λoV=>(uw.aQ).bind λoW=>(uy.aQ).bind λoX=>(uz.l7).bind λoY=>some ⟨⟨x0,x1,x2,x3,x4,x5,⟨x6,x7⟩⟩,⟨x8,x9,oS,oT,oU,oV,⟨oW,oX⟩⟩,oY⟩
 |_=>none
def PU(o:Nat)(cs:aa V):aj eH:=match cs with
 |a0::C::D::E::a4::I::J::L::O::Q::T::U::Y::Z::uw::uy::uz::EE::EF::EG::PW::PX::PY::PZ::P0::P1::P2::P3::[]=>(a0.aQ).bind λx0=>(C.aQ).bind λx1=>(D.aQ).bind λx2=>(E.aQ).bind λx3=>(a4.aQ).bind λx4=>(I.aQ).bind λx5=>(J.aQ).bind λx6=>(L.aQ).bind λx7=>(O.aQ).bind λx8=>(Q.aQ).bind λx9=>(T.aQ).bind λoS=>(U.aQ).bind λoT=>(Y.aQ).bind λoU=>(Z.aQ).bind λoV=>(uw.aQ).bind λoW=>(uy.aQ).bind λoX=>(uz.aQ).bind λoY=>(EE.aQ).bind λwT=>(EF.aQ).bind λwU=>(EG.aQ).bind λwV=>(PW.aQ).bind λEH=>(PX.aQ).bind λEI=>(PY.l7).bind λEJ=>(PZ.aQ).bind λEK=>(P0.aQ).bind λEL=>(P1.aQ).bind λEM=>(P2.aQ).bind λEN=>(P3.aQ).bind λEO=>some ⟨⟨x0,x1,x2,x3⟩,⟨x4,x5,x6,x7,x8,x9,oS,oT,oU,oV,oW,oX,oY,wT,wU,wV,EH⟩,⟨EI,EJ⟩,EK,EL,EM,⟨EN,EO⟩⟩
 |_=>none
def P4(o:Nat)(cs:aa V):aj dz:=match cs with
 |a0::C::D::E::[]=>(a0.aQ).bind λI=>(C.aQ).bind λJ=>(D.aQ).bind λL=>(E.aQ).bind λO=>some ⟨I,J,L,O⟩
 |_=>none
def J2(o:Nat)(cs:aa V):aj av:=match cs with
 |a0::C::D::E::a4::I::J::L::O::Q::T::U::Y::Z::uw::uy::uz::EE::EF::EG::PW::PX::PY::PZ::P0::P1::P2::P3::a28::a29::a30::a31::a32::a33::a34::a35::a36::a37::a38::a39::a40::a41::a42::a43::a44::a45::a46::a47::a48::a49::a50::a51::a52::a53::a54::a55::a56::a57::a58::a59::a60::a61::a62::a63::a64::a65::a66::a67::a68::a69::a70::a71::a72::a73::a74::[]=>(a0.aQ).bind λx0=>(C.aQ).bind λx1=>(D.aQ).bind λx2=>(E.aQ).bind λx3=>(a4.aQ).bind λx4=>(I.aQ).bind λx5=>(J.aQ).bind λx6=>(L.aQ).bind λx7=>(O.aQ).bind λx8=>(Q.aQ).bind λx9=>(T.aQ).bind λoS=>(U.aQ).bind λoT=>(Y.aQ).bind λoU=>(Z.aQ).bind λoV=>(uw.aQ).bind λoW=>(uy.aQ).bind λoX=>(uz.aQ).bind λoY=>(EE.aQ).bind λwT=>(EF.aQ).bind λwU=>(EG.aQ).bind λwV=>(PW.aQ).bind λEH=>(PX.aQ).bind λEI=>(PY.l7).bind λEJ=>(PZ.aQ).bind λEK=>(P0.aQ).bind λEL=>(P1.aQ).bind λEM=>(P2.aQ).bind λEN=>(P3.aQ).bind λEO=>(a28.aQ).bind λV3=>(a29.aQ).bind λV4=>(a30.aQ).bind λV5=>(a31.aQ).bind λV6=>(a32.aQ).bind λV7=>(a33.dw .int o).bind λV8=>(a34.aQ).bind λV9=>(a35.aQ).bind λWa=>(a36.aQ).bind λWb=>(a37.aQ).bind λWc=>(a38.aQ).bind λWe=>(a39.aQ).bind λWf=>(a40.aQ).bind λWg=>(a41.dw .int o).bind λWh=>(a42.aQ).bind λWi=>(a43.aQ).bind λWj=>(a44.l7).bind λWl=>(a45.aQ).bind λWm=>(a46.dw .iZ o).bind λWn=>(a47.aQ).bind λWo=>(a48.dw .int o).bind λWp=>(a49.dw .int o).bind λWq=>(a50.dw .Cell o).bind λWr=>(a51.dw .int o).bind λWs=>(a52.dw .int o).bind λWt=>(a53.aQ).bind λWu=>(a54.dw .int o).bind λWv=>(a55.dw .int o).bind λWw=>(a56.aQ).bind λWx=>(a57.l7).bind λWy=>(a58.dw .iu o).bind λWz=>(a59.dw .int o).bind λWA=>(a60.dw .Addr o).bind λWB=>(a61.dw .cY o).bind λWC=>(a62.dw .fJ o).bind λWD=>(a63.l7).bind λWE=>(a64.aQ).bind λWG=>(a65.aQ).bind λWH=>(a66.aQ).bind λWI=>(a67.aQ).bind λWJ=>(a68.aQ).bind λWK=>(a69.aQ).bind λWL=>(a70.aQ).bind λWM=>(a71.aQ).bind λWN=>(a72.dw .fW o).bind λWO=>(a73.dw .Event o).bind λWQ=>(a74.dw .kD o).bind λWR=>some ⟨⟨⟨x0,x1,x2,x3⟩,⟨x4,x5,x6,x7,x8,x9,oS,oT,oU,oV,oW,oX,oY,wT,wU,wV,EH⟩,⟨EI,EJ⟩,EK,EL,EM,⟨EN,EO⟩⟩,⟨⟨V3,V4,V5,V6,V7,V8,⟨V9,Wa⟩⟩,⟨Wb,Wc,We,Wf,Wg,Wh,⟨Wi,Wj⟩⟩,Wl⟩,Wm,⟨Wn,Wo⟩,⟨Wp,Wq⟩,⟨Wr,Ws,Wt⟩,⟨Wu,Wv⟩,⟨Ww,Wx,Wy⟩,Wz,WA,WB,WC,WD,⟨WE,WG,WH⟩,⟨WI,WJ,WK⟩,⟨WL,WM,WN⟩,WO,WQ,WR⟩
 |_=>none
def P5(o:Nat)(cs:aa V):aj iP:=match cs with
 |a0::C::D::E::a4::I::J::L::O::Q::T::U::Y::Z::uw::uy::uz::EE::EF::EG::[]=>(a0.aQ).bind λx0=>(C.aQ).bind λx1=>(D.aQ).bind λx2=>(E.aQ).bind λx3=>(a4.l7).bind λx4=>(I.aQ).bind λx5=>(J.aQ).bind λx6=>(L.aQ).bind λx7=>(O.aQ).bind λx8=>(Q.aQ).bind λx9=>(T.aQ).bind λoS=>(U.aQ).bind λoT=>(Y.aQ).bind λoU=>(Z.aQ).bind λoV=>(uw.aQ).bind λoW=>(uy.aQ).bind λoX=>(uz.aQ).bind λoY=>(EE.dw .int o).bind λwT=>(EF.aQ).bind λwU=>(EG.aQ).bind λwV=>some ⟨x0,⟨x1,x2,x3,x4,x5,x6⟩,x7,x8,⟨x9,oS,oT⟩,⟨oU,oV,oW,oX,oY,wT,⟨wU,wV⟩⟩⟩
 |_=>none
def P6(o:Nat)(cs:aa V):aj JY:=match cs with
 |a0::C::D::[]=>(a0.aQ).bind λE=>(C.aQ).bind λI=>(D.aQ).bind λJ=>some ⟨E,I,J⟩
 |_=>none
def P7(o:Nat)(cs:aa V):aj bF:=match cs with
 |a0::C::D::[]=>(a0.dw .u8 o).bind λE=>(C.aQ).bind λI=>(D.aQ).bind λJ=>some ⟨E,I,J⟩
 |_=>none
def wW{α:Type}(f:V->aj α):aa V->aj α
 |[a]=>f a
 |_=>none
def P8{α:Type}(f:aa V->aj α):aa V->aj α
 |.bool true::cs=>f cs
 |_=>none
def Ca{α:Type}(g:Nat)(f:aa V->aj α):aa V->aj α
 |.bool false::.int .i64 n::cs=>if n=(g:Int)then f cs else none
 |_=>none
def dec:(t:TC)->(o:Nat)->aa V->aj (T t)
 |.int,_,cs=>wW V.aQ cs
 |.u8,_,cs=>wW V.Pa cs
 |.bool,_,cs=>wW V.l7 cs
 |.str,_,cs=>wW V.Pb cs
 |.dX,o,cs=>Pc o cs
 |.Addr,o,cs=>JZ o cs
 |.qO,o,cs=>Pd o cs
 |.wH,o,cs=>Pe o cs
 |.Command,o,cs=>J0 o cs
 |.iY,o,cs=>Pf o cs
 |.iZ,o,cs=>Pg o cs
 |.kf,o,cs=>Ph o cs
 |.Event,o,cs=>Pj o cs
 |.l6,o,cs=>Pm o cs
 |.Cell,o,cs=>Pn o cs
 |.Array,o,cs=>Po o cs
 |.rU,o,cs=>Pp o cs
 |.iu,o,cs=>Pr o cs
 |.jI,o,cs=>Pu o cs
 |.ki,o,cs=>Pv o cs
 |.cY,o,cs=>J1 o cs
 |.fJ,o,cs=>Pw o cs
 |.qa,o,cs=>Px o cs
 |.wI,o,cs=>Py o cs
 |.wJ,o,cs=>Pz o cs
 |.Power,o,cs=>PB o cs
 |.rV,o,cs=>PC o cs
 |.fW,o,cs=>PD o cs
 |.wK,o,cs=>PE o cs
 |.wL,o,cs=>PF o cs
 |.Receiver,o,cs=>PG o cs
 |.Node,o,cs=>PI o cs
 |.Tree,o,cs=>PJ o cs
 |.wM,o,cs=>PL o cs
 |.rW,o,cs=>PN o cs
 |.wN,o,cs=>PO o cs
 |.Move,o,cs=>PR o cs
 |.jl,o,cs=>PS o cs
 |.mO,o,cs=>PT o cs
 |.Config,o,cs=>PU o cs
 |.kD,o,cs=>P4 o cs
 |.cr,o,cs=>J2 o cs
 |.Act,o,cs=>P5 o cs
 |.Fact,o,cs=>P6 o cs
 |.jm,o,cs=>P7 o cs
 |.sl t,o,cs=>wW (V.dw t o) cs
 |.kE,o,cs=>P8 (J2 o) cs
 |.BP g,o,cs=>Ca g (wW V.aQ) cs
 |.wO g,o,cs=>Ca g (J1 o) cs
 |.BQ g,o,cs=>Ca g (JZ o) cs
 |.fnCommand g,o,cs=>Ca g (J0 o) cs
def WS:TC->Nat->aa V
 |.cr,o=>wS o ⟨⟨⟨0,0,0,0⟩,⟨0,0,0,0,0,0,0,0,0,0,0,0,0,0,0,0,0⟩,⟨0,false⟩,0,0,0,⟨0,0⟩⟩,⟨⟨0,0,0,0,0,[],⟨0,0⟩⟩,⟨0,0,0,0,0,[],⟨0,0⟩⟩,false⟩,0,⟨[],0⟩,⟨[],[]⟩,⟨[],[],[]⟩,⟨0,[]⟩,⟨[],0,false⟩,[],[],[],[],[],⟨false,0,0⟩,⟨0,0,0⟩,⟨0,0,0⟩,[],[],[]⟩
 |_,_=>[]
theorem jn(t:TC)(o:Nat)(x:T t):(enc t o x).length=aC t:=by cases t<;>rfl
theorem od(t:TC):0<aC t:=by cases t<;>simp[aC]
theorem bind_some{α β:Type}{a:aj α}{f:α->aj β}{b:β}(h:a.bind f=some b):∃ x,a=some x/\f x=some b:=by
 cases a with
 |none=>cases h
 |some x=>exact⟨x,rfl,h⟩
theorem ag3(o:Nat)(cs:aa V)(x:aN)(h:Pc o cs=some x):bS cs (BR o x):=by
 unfold Pc at h;split at h
 ·obtain⟨J,C,h⟩:=bind_some h;obtain⟨L,D,h⟩:=bind_some h;obtain⟨O,E,h⟩:=bind_some h;obtain⟨Q,I,h⟩:=bind_some h;injection h with h;subst h;exact(.cons (V.aS C) (.cons (V.aS D) (.cons (V.aS E) (.cons (V.aS I) bS.nil))))
 ·cases h
theorem WT(o:Nat)(cs:aa V)(x:aL)(h:JZ o cs=some x):bS cs (wP o x):=by
 unfold JZ at h;split at h
 ·obtain⟨I,C,h⟩:=bind_some h;obtain⟨J,D,h⟩:=bind_some h;obtain⟨L,E,h⟩:=bind_some h;injection h with h;subst h;exact(.cons (V.aS C) (.cons (V.aS D) (.cons (V.aS E) bS.nil)))
 ·cases h
theorem ag4(o:Nat)(cs:aa V)(x:kC)(h:Pd o cs=some x):bS cs (BS o x):=by
 unfold Pd at h;split at h
 ·obtain⟨E,C,h⟩:=bind_some h;obtain⟨I,D,h⟩:=bind_some h;injection h with h;subst h;exact(.cons (V.aS C) (.cons (V.nE D) bS.nil))
 ·cases h
theorem ag5(o:Nat)(cs:aa V)(x:JP)(h:Pe o cs=some x):bS cs (Ej o x):=by
 unfold Pe at h;split at h
 ·obtain⟨D,C,h⟩:=bind_some h;injection h with h;subst h;exact(.cons (V.dN C) bS.nil)
 ·cases h
theorem WU(o:Nat)(cs:aa V)(x:aI)(h:J0 o cs=some x):bS cs (wQ o x):=by
 unfold J0 at h;split at h
 ·obtain⟨J,C,h⟩:=bind_some h;obtain⟨L,D,h⟩:=bind_some h;obtain⟨O,E,h⟩:=bind_some h;obtain⟨Q,I,h⟩:=bind_some h;injection h with h;subst h;exact(.cons (V.aS C) (.cons (V.aS D) (.cons (V.aS E) (.cons (V.aS I) bS.nil))))
 ·cases h
theorem ag6(o:Nat)(cs:aa V)(x:c8)(h:Pf o cs=some x):bS cs (BU o x):=by
 unfold Pf at h;split at h
 ·obtain⟨x0,C,h⟩:=bind_some h;obtain⟨x1,D,h⟩:=bind_some h;obtain⟨x2,E,h⟩:=bind_some h;obtain⟨x3,I,h⟩:=bind_some h;obtain⟨x4,J,h⟩:=bind_some h;obtain⟨x5,L,h⟩:=bind_some h;obtain⟨x6,O,h⟩:=bind_some h;obtain⟨x7,Q,h⟩:=bind_some h;obtain⟨x8,T,h⟩:=bind_some h;obtain⟨x9,U,h⟩:=bind_some h;obtain⟨oS,Y,h⟩:=bind_some h;obtain⟨oT,Z,h⟩:=bind_some h;obtain⟨oU,jJ,h⟩:=bind_some h;obtain⟨oV,jo,h⟩:=bind_some h;obtain⟨oW,kF,h⟩:=bind_some h;obtain⟨oX,kj,h⟩:=bind_some h;obtain⟨oY,jq,h⟩:=bind_some h;injection h with h;subst h;exact(.cons (V.aS C) (.cons (V.aS D) (.cons (V.aS E) (.cons (V.aS I) (.cons (V.aS J) (.cons (V.aS L) (.cons (V.aS O) (.cons (V.aS Q) (.cons (V.aS T) (.cons (V.aS U) (.cons (V.aS Y) (.cons (V.aS Z) (.cons (V.aS jJ) (.cons (V.aS jo) (.cons (V.aS kF) (.cons (V.aS kj) (.cons (V.aS jq) bS.nil)))))))))))))))))
 ·cases h
theorem ag7(o:Nat)(cs:aa V)(x:eP)(h:Pg o cs=some x):bS cs (BV o x):=by
 unfold Pg at h;split at h
 ·obtain⟨E,C,h⟩:=bind_some h;obtain⟨I,D,h⟩:=bind_some h;injection h with h;subst h;exact(.cons (V.nE C) (.cons (V.aS D) bS.nil))
 ·cases h
theorem ag8(o:Nat)(cs:aa V)(x:cK)(h:Ph o cs=some x):bS cs (El o x):=by
 unfold Ph at h;split at h
 ·obtain⟨E,C,h⟩:=bind_some h;obtain⟨I,D,h⟩:=bind_some h;injection h with h;subst h;exact(.cons (V.dN C) (.cons (V.aS D) bS.nil))
 ·cases h
theorem ag9(o:Nat)(cs:aa V)(x:fj)(h:Pj o cs=some x):bS cs (BW o x):=by
 unfold Pj at h;split at h
 ·obtain⟨L,C,h⟩:=bind_some h;obtain⟨O,D,h⟩:=bind_some h;obtain⟨Q,E,h⟩:=bind_some h;obtain⟨T,I,h⟩:=bind_some h;obtain⟨U,J,h⟩:=bind_some h;injection h with h;subst h;exact(.cons (V.aS C) (.cons (V.aS D) (.cons (V.aS E) (.cons (V.aS I) (.cons (V.aS J) bS.nil)))))
 ·cases h
theorem aha(o:Nat)(cs:aa V)(x:dM)(h:Pm o cs=some x):bS cs (Em o x):=by
 unfold Pm at h;split at h
 ·obtain⟨E,C,h⟩:=bind_some h;obtain⟨I,D,h⟩:=bind_some h;injection h with h;subst h;exact(.cons (V.dN C) (.cons (V.dN D) bS.nil))
 ·cases h
theorem ahb(o:Nat)(cs:aa V)(x:bW)(h:Pn o cs=some x):bS cs (En o x):=by
 unfold Pn at h;split at h
 ·obtain⟨E,C,h⟩:=bind_some h;obtain⟨I,D,h⟩:=bind_some h;injection h with h;subst h;exact(.cons (V.dN C) (.cons (V.nE D) bS.nil))
 ·cases h
theorem ahc(o:Nat)(cs:aa V)(x:dP)(h:Po o cs=some x):bS cs (Eo o x):=by
 unfold Po at h;split at h
 ·obtain⟨I,C,h⟩:=bind_some h;obtain⟨J,D,h⟩:=bind_some h;obtain⟨L,E,h⟩:=bind_some h;injection h with h;subst h;exact(.cons (V.dN C) (.cons (V.dN D) (.cons (V.dN E) bS.nil)))
 ·cases h
theorem ahd(o:Nat)(cs:aa V)(x:lg)(h:Pp o cs=some x):bS cs (BX o x):=by
 unfold Pp at h;split at h
 ·obtain⟨E,C,h⟩:=bind_some h;obtain⟨I,D,h⟩:=bind_some h;injection h with h;subst h;exact(.cons (V.aS C) (.cons (V.aS D) bS.nil))
 ·cases h
theorem ahe(o:Nat)(cs:aa V)(x:cw)(h:Pr o cs=some x):bS cs (Ep o x):=by
 unfold Pr at h;split at h
 ·obtain⟨I,C,h⟩:=bind_some h;obtain⟨J,D,h⟩:=bind_some h;obtain⟨L,E,h⟩:=bind_some h;injection h with h;subst h;exact(.cons (V.dN C) (.cons (V.dN D) (.cons (V.aS E) bS.nil)))
 ·cases h
theorem ahf(o:Nat)(cs:aa V)(x:c9)(h:Pu o cs=some x):bS cs (Er o x):=by
 unfold Pu at h;split at h
 ·obtain⟨E,C,h⟩:=bind_some h;obtain⟨I,D,h⟩:=bind_some h;injection h with h;subst h;exact(.cons (V.aS C) (.cons (V.dN D) bS.nil))
 ·cases h
theorem ahg(o:Nat)(cs:aa V)(x:dc)(h:Pv o cs=some x):bS cs (Es o x):=by
 unfold Pv at h;split at h
 ·obtain⟨I,C,h⟩:=bind_some h;obtain⟨J,D,h⟩:=bind_some h;obtain⟨L,E,h⟩:=bind_some h;injection h with h;subst h;exact(.cons (V.dN C) (.cons (V.aS D) (.cons (V.nE E) bS.nil)))
 ·cases h
theorem WV(o:Nat)(cs:aa V)(x:aM)(h:J1 o cs=some x):bS cs (wR o x):=by
 unfold J1 at h;split at h
 ·obtain⟨O,C,h⟩:=bind_some h;obtain⟨Q,D,h⟩:=bind_some h;obtain⟨T,E,h⟩:=bind_some h;obtain⟨U,I,h⟩:=bind_some h;obtain⟨Y,J,h⟩:=bind_some h;obtain⟨Z,L,h⟩:=bind_some h;injection h with h;subst h;exact(.cons (V.aS C) (.cons (V.aS D) (.cons (V.aS E) (.cons (V.nE I) (.cons (V.aS J) (.cons (V.aS L) bS.nil))))))
 ·cases h
theorem ahh(o:Nat)(cs:aa V)(x:cq)(h:Pw o cs=some x):bS cs (BY o x):=by
 unfold Pw at h;split at h
 ·obtain⟨E,C,h⟩:=bind_some h;obtain⟨I,D,h⟩:=bind_some h;injection h with h;subst h;exact(.cons (V.aS C) (.cons (V.aS D) bS.nil))
 ·cases h
theorem ahi(o:Nat)(cs:aa V)(x:iq)(h:Px o cs=some x):bS cs (BZ o x):=by
 unfold Px at h;split at h
 ·obtain⟨I,C,h⟩:=bind_some h;obtain⟨J,D,h⟩:=bind_some h;obtain⟨L,E,h⟩:=bind_some h;injection h with h;subst h;exact(.cons (V.nE C) (.cons (V.aS D) (.cons (V.aS E) bS.nil)))
 ·cases h
theorem ahj(o:Nat)(cs:aa V)(x:JQ)(h:Py o cs=some x):bS cs (Et o x):=by
 unfold Py at h;split at h
 ·obtain⟨E,C,h⟩:=bind_some h;obtain⟨I,D,h⟩:=bind_some h;injection h with h;subst h;exact(.cons (V.dN C) (.cons (V.aS D) bS.nil))
 ·cases h
theorem ahk(o:Nat)(cs:aa V)(x:JR)(h:Pz o cs=some x):bS cs (B0 o x):=by
 unfold Pz at h;split at h
 ·obtain⟨E,C,h⟩:=bind_some h;obtain⟨I,D,h⟩:=bind_some h;injection h with h;subst h;exact(.cons (V.aS C) (.cons (V.aS D) bS.nil))
 ·cases h
theorem ahl(o:Nat)(cs:aa V)(x:eY)(h:PB o cs=some x):bS cs (B1 o x):=by
 unfold PB at h;split at h
 ·obtain⟨I,C,h⟩:=bind_some h;obtain⟨J,D,h⟩:=bind_some h;obtain⟨L,E,h⟩:=bind_some h;injection h with h;subst h;exact(.cons (V.aS C) (.cons (V.aS D) (.cons (V.aS E) bS.nil)))
 ·cases h
theorem ahm(o:Nat)(cs:aa V)(x:oc)(h:PC o cs=some x):bS cs (B2 o x):=by
 unfold PC at h;split at h
 ·obtain⟨E,C,h⟩:=bind_some h;obtain⟨I,D,h⟩:=bind_some h;injection h with h;subst h;exact(.cons (V.aS C) (.cons (V.aS D) bS.nil))
 ·cases h
theorem ahn(o:Nat)(cs:aa V)(x:bX)(h:PD o cs=some x):bS cs (B3 o x):=by
 unfold PD at h;split at h
 ·obtain⟨I,C,h⟩:=bind_some h;obtain⟨J,D,h⟩:=bind_some h;obtain⟨L,E,h⟩:=bind_some h;injection h with h;subst h;exact(.cons (V.aS C) (.cons (V.aS D) (.cons (V.aS E) bS.nil)))
 ·cases h
theorem aho(o:Nat)(cs:aa V)(x:JS)(h:PE o cs=some x):bS cs (Eu o x):=by
 unfold PE at h;split at h
 ·obtain⟨D,C,h⟩:=bind_some h;injection h with h;subst h;exact(.cons (V.dN C) bS.nil)
 ·cases h
theorem ahp(o:Nat)(cs:aa V)(x:JT)(h:PF o cs=some x):bS cs (Ev o x):=by
 unfold PF at h;split at h
 ·obtain⟨E,C,h⟩:=bind_some h;obtain⟨I,D,h⟩:=bind_some h;injection h with h;subst h;exact(.cons (V.dN C) (.cons (V.aS D) bS.nil))
 ·cases h
theorem ahq(o:Nat)(cs:aa V)(x:JU)(h:PG o cs=some x):bS cs (Ew o x):=by
 unfold PG at h;split at h
 ·obtain⟨E,C,h⟩:=bind_some h;obtain⟨I,D,h⟩:=bind_some h;injection h with h;subst h;exact(.cons (V.aS C) (.cons (V.dN D) bS.nil))
 ·cases h
theorem ahr(o:Nat)(cs:aa V)(x:BO)(h:PI o cs=some x):bS cs (B4 o x):=by
 unfold PI at h;split at h
 ·obtain⟨E,C,h⟩:=bind_some h;obtain⟨I,D,h⟩:=bind_some h;injection h with h;subst h;exact(.cons (V.aS C) (.cons (V.aS D) bS.nil))
 ·cases h
theorem ahs(o:Nat)(cs:aa V)(x:Ei)(h:PJ o cs=some x):bS cs (Ex o x):=by
 unfold PJ at h;split at h
 ·obtain⟨I,C,h⟩:=bind_some h;obtain⟨J,D,h⟩:=bind_some h;obtain⟨L,E,h⟩:=bind_some h;injection h with h;subst h;exact(.cons (V.aS C) (.cons (V.dN D) (.cons (V.dN E) bS.nil)))
 ·cases h
theorem aht(o:Nat)(cs:aa V)(x:JV)(h:PL o cs=some x):bS cs (Ey o x):=by
 unfold PL at h;split at h
 ·obtain⟨O,C,h⟩:=bind_some h;obtain⟨Q,D,h⟩:=bind_some h;obtain⟨T,E,h⟩:=bind_some h;obtain⟨U,I,h⟩:=bind_some h;obtain⟨Y,J,h⟩:=bind_some h;obtain⟨Z,L,h⟩:=bind_some h;injection h with h;subst h;exact(.cons (V.aS C) (.cons (V.aS D) (.cons (V.dN E) (.cons (V.dN I) (.cons (V.dN J) (.cons (V.dN L) bS.nil))))))
 ·cases h
theorem ahu(o:Nat)(cs:aa V)(x:l5)(h:PN o cs=some x):bS cs (B5 o x):=by
 unfold PN at h;split at h
 ·obtain⟨I,C,h⟩:=bind_some h;obtain⟨J,D,h⟩:=bind_some h;obtain⟨L,E,h⟩:=bind_some h;injection h with h;subst h;exact(.cons (V.aS C) (.cons (V.aS D) (.cons (V.aS E) bS.nil)))
 ·cases h
theorem ahv(o:Nat)(cs:aa V)(x:JW)(h:PO o cs=some x):bS cs (Ez o x):=by
 unfold PO at h;split at h
 ·obtain⟨O,C,h⟩:=bind_some h;obtain⟨Q,D,h⟩:=bind_some h;obtain⟨T,E,h⟩:=bind_some h;obtain⟨U,I,h⟩:=bind_some h;obtain⟨Y,J,h⟩:=bind_some h;obtain⟨Z,L,h⟩:=bind_some h;injection h with h;subst h;exact(.cons (V.aS C) (.cons (V.dN D) (.cons (V.nE E) (.cons (V.dN I) (.cons (V.nE J) (.cons (V.aS L) bS.nil))))))
 ·cases h
theorem ahw(o:Nat)(cs:aa V)(x:JX)(h:PR o cs=some x):bS cs (B6 o x):=by
 unfold PR at h;split at h
 ·obtain⟨J,C,h⟩:=bind_some h;obtain⟨L,D,h⟩:=bind_some h;obtain⟨O,E,h⟩:=bind_some h;obtain⟨Q,I,h⟩:=bind_some h;injection h with h;subst h;exact(.cons (V.aS C) (.cons (V.aS D) (.cons (V.aS E) (.cons (V.aS I) bS.nil))))
 ·cases h
theorem ahx(o:Nat)(cs:aa V)(x:dF)(h:PS o cs=some x):bS cs (EA o x):=by
 unfold PS at h;split at h
 ·obtain⟨T,C,h⟩:=bind_some h;obtain⟨U,D,h⟩:=bind_some h;obtain⟨Y,E,h⟩:=bind_some h;obtain⟨Z,I,h⟩:=bind_some h;obtain⟨x4,J,h⟩:=bind_some h;obtain⟨x5,L,h⟩:=bind_some h;obtain⟨x6,O,h⟩:=bind_some h;obtain⟨x7,Q,h⟩:=bind_some h;injection h with h;subst h;exact(.cons (V.aS C) (.cons (V.aS D) (.cons (V.aS E) (.cons (V.aS I) (.cons (V.aS J) (.cons (V.dN L) (.cons (V.aS O) (.cons (V.aS Q) bS.nil))))))))
 ·cases h
theorem ahy(o:Nat)(cs:aa V)(x:gz)(h:PT o cs=some x):bS cs (EB o x):=by
 unfold PT at h;split at h
 ·obtain⟨x0,C,h⟩:=bind_some h;obtain⟨x1,D,h⟩:=bind_some h;obtain⟨x2,E,h⟩:=bind_some h;obtain⟨x3,I,h⟩:=bind_some h;obtain⟨x4,J,h⟩:=bind_some h;obtain⟨x5,L,h⟩:=bind_some h;obtain⟨x6,O,h⟩:=bind_some h;obtain⟨x7,Q,h⟩:=bind_some h;obtain⟨x8,T,h⟩:=bind_some h;obtain⟨x9,U,h⟩:=bind_some h;obtain⟨oS,Y,h⟩:=bind_some h;obtain⟨oT,Z,h⟩:=bind_some h;obtain⟨oU,jJ,h⟩:=bind_some h;obtain⟨oV,jo,h⟩:=bind_some h;obtain⟨oW,kF,h⟩:=bind_some h;obtain⟨oX,kj,h⟩:=bind_some h;obtain⟨oY,jq,h⟩:=bind_some h;injection h with h;subst h;exact(.cons (V.aS C) (.cons (V.aS D) (.cons (V.aS E) (.cons (V.aS I) (.cons (V.aS J) (.cons (V.dN L) (.cons (V.aS O) (.cons (V.aS Q) (.cons (V.aS T) (.cons (V.aS U) (.cons (V.aS Y) (.cons (V.aS Z) (.cons (V.aS jJ) (.cons (V.dN jo) (.cons (V.aS kF) (.cons (V.aS kj) (.cons (V.nE jq) bS.nil)))))))))))))))))
 ·cases h
theorem ahz(o:Nat)(cs:aa V)(x:eH)(h:PU o cs=some x):bS cs (B7 o x):=by
 unfold PU at h;split at h
 ·obtain⟨x0,C,h⟩:=bind_some h;obtain⟨x1,D,h⟩:=bind_some h;obtain⟨x2,E,h⟩:=bind_some h;obtain⟨x3,I,h⟩:=bind_some h;obtain⟨x4,J,h⟩:=bind_some h;obtain⟨x5,L,h⟩:=bind_some h;obtain⟨x6,O,h⟩:=bind_some h;obtain⟨x7,Q,h⟩:=bind_some h;obtain⟨x8,T,h⟩:=bind_some h;obtain⟨x9,U,h⟩:=bind_some h;obtain⟨oS,Y,h⟩:=bind_some h;obtain⟨oT,Z,h⟩:=bind_some h;obtain⟨oU,jJ,h⟩:=bind_some h;obtain⟨oV,jo,h⟩:=bind_some h;obtain⟨oW,kF,h⟩:=bind_some h;obtain⟨oX,kj,h⟩:=bind_some h;obtain⟨oY,jq,h⟩:=bind_some h;obtain⟨wT,oe,h⟩:=bind_some h;obtain⟨wU,qb,h⟩:=bind_some h;obtain⟨wV,qc,h⟩:=bind_some h;obtain⟨EH,sZ,h⟩:=bind_some h;obtain⟨EI,uA,h⟩:=bind_some h;obtain⟨EJ,uB,h⟩:=bind_some h;obtain⟨EK,P9,h⟩:=bind_some h;obtain⟨EL,zi,h⟩:=bind_some h;obtain⟨EM,Qa,h⟩:=bind_some h;obtain⟨EN,EP,h⟩:=bind_some h;obtain⟨EO,Qb,h⟩:=bind_some h;injection h with h;subst h;exact(.cons (V.aS C) (.cons (V.aS D) (.cons (V.aS E) (.cons (V.aS I) (.cons (V.aS J) (.cons (V.aS L) (.cons (V.aS O) (.cons (V.aS Q) (.cons (V.aS T) (.cons (V.aS U) (.cons (V.aS Y) (.cons (V.aS Z) (.cons (V.aS jJ) (.cons (V.aS jo) (.cons (V.aS kF) (.cons (V.aS kj) (.cons (V.aS jq) (.cons (V.aS oe) (.cons (V.aS qb) (.cons (V.aS qc) (.cons (V.aS sZ) (.cons (V.aS uA) (.cons (V.nE uB) (.cons (V.aS P9) (.cons (V.aS zi) (.cons (V.aS Qa) (.cons (V.aS EP) (.cons (V.aS Qb) bS.nil))))))))))))))))))))))))))))
 ·cases h
theorem ahA(o:Nat)(cs:aa V)(x:dz)(h:P4 o cs=some x):bS cs (B8 o x):=by
 unfold P4 at h;split at h
 ·obtain⟨J,C,h⟩:=bind_some h;obtain⟨L,D,h⟩:=bind_some h;obtain⟨O,E,h⟩:=bind_some h;obtain⟨Q,I,h⟩:=bind_some h;injection h with h;subst h;exact(.cons (V.aS C) (.cons (V.aS D) (.cons (V.aS E) (.cons (V.aS I) bS.nil))))
 ·cases h
theorem WW(o:Nat)(cs:aa V)(x:av)(h:J2 o cs=some x):bS cs (wS o x):=by
 unfold J2 at h;split at h
 ·obtain⟨x0,C,h⟩:=bind_some h;obtain⟨x1,D,h⟩:=bind_some h;obtain⟨x2,E,h⟩:=bind_some h;obtain⟨x3,I,h⟩:=bind_some h;obtain⟨x4,J,h⟩:=bind_some h;obtain⟨x5,L,h⟩:=bind_some h;obtain⟨x6,O,h⟩:=bind_some h;obtain⟨x7,Q,h⟩:=bind_some h;obtain⟨x8,T,h⟩:=bind_some h;obtain⟨x9,U,h⟩:=bind_some h;obtain⟨oS,Y,h⟩:=bind_some h;obtain⟨oT,Z,h⟩:=bind_some h;obtain⟨oU,jJ,h⟩:=bind_some h;obtain⟨oV,jo,h⟩:=bind_some h;obtain⟨oW,kF,h⟩:=bind_some h;obtain⟨oX,kj,h⟩:=bind_some h;obtain⟨oY,jq,h⟩:=bind_some h;obtain⟨wT,oe,h⟩:=bind_some h;obtain⟨wU,qb,h⟩:=bind_some h;obtain⟨wV,qc,h⟩:=bind_some h;obtain⟨EH,sZ,h⟩:=bind_some h;obtain⟨EI,uA,h⟩:=bind_some h;obtain⟨EJ,uB,h⟩:=bind_some h;obtain⟨EK,P9,h⟩:=bind_some h;obtain⟨EL,zi,h⟩:=bind_some h;obtain⟨EM,Qa,h⟩:=bind_some h;obtain⟨EN,EP,h⟩:=bind_some h;obtain⟨EO,Qb,h⟩:=bind_some h;obtain⟨V3,h28,h⟩:=bind_some h;obtain⟨V4,h29,h⟩:=bind_some h;obtain⟨V5,h30,h⟩:=bind_some h;obtain⟨V6,WX,h⟩:=bind_some h;obtain⟨V7,Qc,h⟩:=bind_some h;obtain⟨V8,h33,h⟩:=bind_some h;obtain⟨V9,h34,h⟩:=bind_some h;obtain⟨Wa,h35,h⟩:=bind_some h;obtain⟨Wb,h36,h⟩:=bind_some h;obtain⟨Wc,h37,h⟩:=bind_some h;obtain⟨We,h38,h⟩:=bind_some h;obtain⟨Wf,h39,h⟩:=bind_some h;obtain⟨Wg,h40,h⟩:=bind_some h;obtain⟨Wh,h41,h⟩:=bind_some h;obtain⟨Wi,h42,h⟩:=bind_some h;obtain⟨Wj,h43,h⟩:=bind_some h;obtain⟨Wl,h44,h⟩:=bind_some h;obtain⟨Wm,h45,h⟩:=bind_some h;obtain⟨Wn,h46,h⟩:=bind_some h;obtain⟨Wo,h47,h⟩:=bind_some h;obtain⟨Wp,h48,h⟩:=bind_some h;obtain⟨Wq,h49,h⟩:=bind_some h;obtain⟨Wr,h50,h⟩:=bind_some h;obtain⟨Ws,WY,h⟩:=bind_some h;obtain⟨Wt,h52,h⟩:=bind_some h;obtain⟨Wu,h53,h⟩:=bind_some h;obtain⟨Wv,WZ,h⟩:=bind_some h;obtain⟨Ww,h55,h⟩:=bind_some h;obtain⟨Wx,h56,h⟩:=bind_some h;obtain⟨Wy,h57,h⟩:=bind_some h;obtain⟨Wz,h58,h⟩:=bind_some h;obtain⟨WA,h59,h⟩:=bind_some h;obtain⟨WB,h60,h⟩:=bind_some h;obtain⟨WC,h61,h⟩:=bind_some h;obtain⟨WD,h62,h⟩:=bind_some h;obtain⟨WE,O7,h⟩:=bind_some h;obtain⟨WG,h64,h⟩:=bind_some h;obtain⟨WH,h65,h⟩:=bind_some h;obtain⟨WI,h66,h⟩:=bind_some h;obtain⟨WJ,h67,h⟩:=bind_some h;obtain⟨WK,h68,h⟩:=bind_some h;obtain⟨WL,h69,h⟩:=bind_some h;obtain⟨WM,h70,h⟩:=bind_some h;obtain⟨WN,h71,h⟩:=bind_some h;obtain⟨WO,h72,h⟩:=bind_some h;obtain⟨WQ,h73,h⟩:=bind_some h;obtain⟨WR,h74,h⟩:=bind_some h;injection h with h;subst h;exact(.cons (V.aS C) (.cons (V.aS D) (.cons (V.aS E) (.cons (V.aS I) (.cons (V.aS J) (.cons (V.aS L) (.cons (V.aS O) (.cons (V.aS Q) (.cons (V.aS T) (.cons (V.aS U) (.cons (V.aS Y) (.cons (V.aS Z) (.cons (V.aS jJ) (.cons (V.aS jo) (.cons (V.aS kF) (.cons (V.aS kj) (.cons (V.aS jq) (.cons (V.aS oe) (.cons (V.aS qb) (.cons (V.aS qc) (.cons (V.aS sZ) (.cons (V.aS uA) (.cons (V.nE uB) (.cons (V.aS P9) (.cons (V.aS zi) (.cons (V.aS Qa) (.cons (V.aS EP) (.cons (V.aS Qb) (.cons (V.aS h28) (.cons (V.aS h29) (.cons (V.aS h30) (.cons (V.aS WX) (.cons (V.aS Qc) (.cons (V.dN h33) (.cons (V.aS h34) (.cons (V.aS h35) (.cons (V.aS h36) (.cons (V.aS h37) (.cons (V.aS h38) (.cons (V.aS h39) (.cons (V.aS h40) (.cons (V.dN h41) (.cons (V.aS h42) (.cons (V.aS h43) (.cons (V.nE h44) (.cons (V.aS h45) (.cons (V.dN h46) (.cons (V.aS h47) (.cons (V.dN h48) (.cons (V.dN h49) (.cons (V.dN h50) (.cons (V.dN WY) (.cons (V.dN h52) (.cons (V.aS h53) (.cons (V.dN WZ) (.cons (V.dN h55) (.cons (V.aS h56) (.cons (V.nE h57) (.cons (V.dN h58) (.cons (V.dN h59) (.cons (V.dN h60) (.cons (V.dN h61) (.cons (V.dN h62) (.cons (V.nE O7) (.cons (V.aS h64) (.cons (V.aS h65) (.cons (V.aS h66) (.cons (V.aS h67) (.cons (V.aS h68) (.cons (V.aS h69) (.cons (V.aS h70) (.cons (V.aS h71) (.cons (V.dN h72) (.cons (V.dN h73) (.cons (V.dN h74) bS.nil)))))))))))))))))))))))))))))))))))))))))))))))))))))))))))))))))))))))))))
 ·cases h
theorem ahB(o:Nat)(cs:aa V)(x:iP)(h:P5 o cs=some x):bS cs (EC o x):=by
 unfold P5 at h;split at h
 ·obtain⟨x0,C,h⟩:=bind_some h;obtain⟨x1,D,h⟩:=bind_some h;obtain⟨x2,E,h⟩:=bind_some h;obtain⟨x3,I,h⟩:=bind_some h;obtain⟨x4,J,h⟩:=bind_some h;obtain⟨x5,L,h⟩:=bind_some h;obtain⟨x6,O,h⟩:=bind_some h;obtain⟨x7,Q,h⟩:=bind_some h;obtain⟨x8,T,h⟩:=bind_some h;obtain⟨x9,U,h⟩:=bind_some h;obtain⟨oS,Y,h⟩:=bind_some h;obtain⟨oT,Z,h⟩:=bind_some h;obtain⟨oU,jJ,h⟩:=bind_some h;obtain⟨oV,jo,h⟩:=bind_some h;obtain⟨oW,kF,h⟩:=bind_some h;obtain⟨oX,kj,h⟩:=bind_some h;obtain⟨oY,jq,h⟩:=bind_some h;obtain⟨wT,oe,h⟩:=bind_some h;obtain⟨wU,qb,h⟩:=bind_some h;obtain⟨wV,qc,h⟩:=bind_some h;injection h with h;subst h;exact(.cons (V.aS C) (.cons (V.aS D) (.cons (V.aS E) (.cons (V.aS I) (.cons (V.nE J) (.cons (V.aS L) (.cons (V.aS O) (.cons (V.aS Q) (.cons (V.aS T) (.cons (V.aS U) (.cons (V.aS Y) (.cons (V.aS Z) (.cons (V.aS jJ) (.cons (V.aS jo) (.cons (V.aS kF) (.cons (V.aS kj) (.cons (V.aS jq) (.cons (V.dN oe) (.cons (V.aS qb) (.cons (V.aS qc) bS.nil))))))))))))))))))))
 ·cases h
theorem ahC(o:Nat)(cs:aa V)(x:JY)(h:P6 o cs=some x):bS cs (B9 o x):=by
 unfold P6 at h;split at h
 ·obtain⟨I,C,h⟩:=bind_some h;obtain⟨J,D,h⟩:=bind_some h;obtain⟨L,E,h⟩:=bind_some h;injection h with h;subst h;exact(.cons (V.aS C) (.cons (V.aS D) (.cons (V.aS E) bS.nil)))
 ·cases h
theorem ahD(o:Nat)(cs:aa V)(x:bF)(h:P7 o cs=some x):bS cs (ED o x):=by
 unfold P7 at h;split at h
 ·obtain⟨I,C,h⟩:=bind_some h;obtain⟨J,D,h⟩:=bind_some h;obtain⟨L,E,h⟩:=bind_some h;injection h with h;subst h;exact(.cons (V.dN C) (.cons (V.aS D) (.cons (V.aS E) bS.nil)))
 ·cases h
theorem Cb{α:Type}{f:V->aj α}{g:α->V}(C:∀ x a,f x=some a->Wk x (g a)){cs:aa V}{x:α}(h:wW f cs=some x):bS cs [g x]:=by
 unfold wW at h;split at h
 ·exact .cons (C _ _ h) .nil
 ·cases h
theorem ahE{α:Type}{f:aa V->aj α}{g:α->aa V}(C:∀ x a,f x=some a->bS x (g a)){cs:aa V}{x:α}(h:P8 f cs=some x):bS cs (.bool true :: g x):=by
 unfold P8 at h;split at h
 ·exact .cons (.same _) (C _ _ h)
 ·cases h
theorem J3{α:Type}{n:Nat}{f:aa V->aj α}{g:α->aa V}(C:∀ x a,f x=some a->bS x (g a)){cs:aa V}{x:α}(h:Ca n f cs=some x):bS cs (.bool false :: .int .i64 (n:Int) :: g x):=by
 unfold Ca at h;split at h
 ·split at h
  next D=>subst D;exact .cons (.same _) (.cons (.same _) (C _ _ h))
  ·cases h
 ·cases h
theorem lu:(t:TC)->(o:Nat)->(cs:aa V)->(x:T t)->dec t o cs=some x->bS cs (enc t o x)
 |.int,_,_,_,h=>Cb (g:=λn=>.int .i64 n) (λ_ _=>V.aS) h
 |.u8,_,_,_,h=>Cb (g:=λn=>.int .u8 n) (λ_ _=>V.ag1) h
 |.bool,_,_,_,h=>Cb (g:=λn=>.bool n) (λ_ _=>V.nE) h
 |.str,_,_,_,h=>Cb (g:=λn=>.str n) (λ_ _=>V.ag2) h
 |.dX,o,cs,x,h=>ag3 o cs x h
 |.Addr,o,cs,x,h=>WT o cs x h
 |.qO,o,cs,x,h=>ag4 o cs x h
 |.wH,o,cs,x,h=>ag5 o cs x h
 |.Command,o,cs,x,h=>WU o cs x h
 |.iY,o,cs,x,h=>ag6 o cs x h
 |.iZ,o,cs,x,h=>ag7 o cs x h
 |.kf,o,cs,x,h=>ag8 o cs x h
 |.Event,o,cs,x,h=>ag9 o cs x h
 |.l6,o,cs,x,h=>aha o cs x h
 |.Cell,o,cs,x,h=>ahb o cs x h
 |.Array,o,cs,x,h=>ahc o cs x h
 |.rU,o,cs,x,h=>ahd o cs x h
 |.iu,o,cs,x,h=>ahe o cs x h
 |.jI,o,cs,x,h=>ahf o cs x h
 |.ki,o,cs,x,h=>ahg o cs x h
 |.cY,o,cs,x,h=>WV o cs x h
 |.fJ,o,cs,x,h=>ahh o cs x h
 |.qa,o,cs,x,h=>ahi o cs x h
 |.wI,o,cs,x,h=>ahj o cs x h
 |.wJ,o,cs,x,h=>ahk o cs x h
 |.Power,o,cs,x,h=>ahl o cs x h
 |.rV,o,cs,x,h=>ahm o cs x h
 |.fW,o,cs,x,h=>ahn o cs x h
 |.wK,o,cs,x,h=>aho o cs x h
 |.wL,o,cs,x,h=>ahp o cs x h
 |.Receiver,o,cs,x,h=>ahq o cs x h
 |.Node,o,cs,x,h=>ahr o cs x h
 |.Tree,o,cs,x,h=>ahs o cs x h
 |.wM,o,cs,x,h=>aht o cs x h
 |.rW,o,cs,x,h=>ahu o cs x h
 |.wN,o,cs,x,h=>ahv o cs x h
 |.Move,o,cs,x,h=>ahw o cs x h
 |.jl,o,cs,x,h=>ahx o cs x h
 |.mO,o,cs,x,h=>ahy o cs x h
 |.Config,o,cs,x,h=>ahz o cs x h
 |.kD,o,cs,x,h=>ahA o cs x h
 |.cr,o,cs,x,h=>WW o cs x h
 |.Act,o,cs,x,h=>ahB o cs x h
 |.Fact,o,cs,x,h=>ahC o cs x h
 |.jm,o,cs,x,h=>ahD o cs x h
 |.sl t,o,_,_,h=>Cb (g:=λn=>.sl t o false n) (λ_ _=>V.dN) h
 |.kE,o,_,_,h=>ahE (g:=wS o) (WW o) h
 |.BP g,o,_,_,h=>J3 (g:=λn=>[.int .i64 n]) (λ_ _ h=>Cb (g:=λn=>.int .i64 n) (λ_ _=>V.aS) h) h
 |.wO g,o,_,_,h=>J3 (g:=wR o) (WV o) h
 |.BQ g,o,_,_,h=>J3 (g:=wP o) (WT o) h
 |.fnCommand g,o,_,_,h=>J3 (g:=wQ o) (WU o) h
def V.low(n:Nat):V->Bool
 |.sl t _ _ _=>Nat.ble (full t+2) n
 |_=>true
theorem J4(t:TC)(o:Nat)(x:T t):∀ y∈enc t o x,y.low (full t)=true:=by
 cases t<;>simp[enc,V.low,full,BR,wP,BS,Ej,wQ,BU,BV,El,BW,Em,En,Eo,BX,Ep,Er,Es,wR,BY,BZ,Et,B0,B1,B2,B3,Eu,Ev,Ew,B4,Ex,Ey,B5,Ez,B6,EA,EB,B7,B8,wS,EC,B9,ED]
def V.plain:V->Bool
 |.int _ _|.bool _|.str _=>true
 |_=>false
theorem wX(t:TC)(o:Nat)(x:T t)(h:full t=0):∀ y∈enc t o x,y.plain=true:=by
 cases t<;>first|(simp[full]at h;done)|simp[enc,V.plain,BR,wP,BS,wQ,BU,BV,BW,BX,wR,BY,BZ,B0,B1,B2,B3,B4,B5,B6,B7,B8,B9]
def V.jK:V->Bool
 |.nil=>false
 |_=>true
theorem Qd(t:TC)(o:Nat)(x:T t):∀ y∈enc t o x,y.jK=true:=by
 cases t<;>simp[enc,V.jK,BR,wP,BS,Ej,wQ,BU,BV,El,BW,Em,En,Eo,BX,Ep,Er,Es,wR,BY,BZ,Et,B0,B1,B2,B3,Eu,Ev,Ew,B4,Ex,Ey,B5,Ez,B6,EA,EB,B7,B8,wS,EC,B9,ED]
def tcs:aa TC:=[.int,.u8,.bool,.str,.sl .int,.sl .bool,.sl .str,.dX,.Addr,.qO,.wH,.Command,.iY,.iZ,.kf,.Event,.l6,.Cell,.Array,.rU,.iu,.jI,.ki,.cY,.fJ,.qa,.wI,.wJ,.Power,.rV,.fW,.wK,.wL,.Receiver,.Node,.Tree,.wM,.rW,.wN,.Move,.jl,.mO,.Config,.kD,.cr,.Act,.Fact,.jm]
def W0(e:TypeId):aj TC:=tcs.find? λt=>Nat.beq (tid t) e
theorem ahF{e:TypeId}{t:TC}(h:W0 e=some t):tid t=e:=bQ (List.find?_some (p:=λt=>Nat.beq (tid t) e) h)
def V.gr(o:Nat):V->Bool
 |.sl _ C _ _=>C==o
 |_=>true
theorem uC(t:TC)(o:Nat)(x:T t):∀ y∈enc t o x,y.gr o=true:=by
 cases t<;>simp[enc,V.gr,BR,wP,BS,Ej,wQ,BU,BV,El,BW,Em,En,Eo,BX,Ep,Er,Es,wR,BY,BZ,Et,B0,B1,B2,B3,Eu,Ev,Ew,B4,Ex,Ey,B5,Ez,B6,EA,EB,B7,B8,wS,EC,B9,ED]
def V.aA:V->Bool
 |.sl _ o _ _=>decide (o<2)
 |_=>true
def V.gd:V->V
 |.sl t _ q l=>.sl t 0 q l
 |x=>x
theorem ahG(t:TC)(o:Nat)(x y:T t):(enc t o x).map (λv=>(v.plain,v.aA))=(enc t o y).map (λv=>(v.plain,v.aA)):=by cases t<;>rfl
theorem V.ahH(x:V):x.gd.aA=true:=by cases x<;>simp[V.gd,V.aA]
theorem jr(t:TC)(o:Nat)(x:T t)(C:o<2)(j:Nat)(y:V)(h:(enc t o x)[j]?=some y):y.aA=true:=by
 have:=uC t o x y (fL h);cases y<;>simp_all [V.gr,V.aA]
theorem W2(t:TC)(o:Nat)(x:T t):enc t 0 x=(enc t o x).map V.gd:=by cases t<;>rfl
theorem uD(t:TC)(o:Nat)(x:T t)(j:Nat)(y:V)(h:(enc t 0 x)[j]?=some y):∃ z,(enc t o x)[j]?=some z/\y=z.gd:=by
 rw[W2 t o x,cO]at h;cases C:(enc t o x)[j]? with
 |none=>rw[C]at h;cases h
 |some z=>rw[C]at h;injection h with h;exact⟨z,rfl,h.symm⟩
def inner:Nat->Nat
 |0=>0
 |1=>1
 |n+2=>n
abbrev bA:=Nat->aj (aa Nat)
inductive RV (w:World) (B:Nat) (ah:bA):List Nat->V->Value->Prop
 |int (q:List Nat) (k:IntKind) (n:Int):RV w B ah q (.int k n) (.int k n)
 |bool (q:List Nat) (b:Bool):RV w B ah q (.bool b) (.bool b)
 |str (q:List Nat) (s:ByteArray):RV w B ah q (.str s) (.string s)
 |nil (q:List Nat):RV w B ah q .nil (.slice none 0 0)
 |cG (q:List Nat) (t:TC) (o:Nat):RV w B ah q (.sl t o false []) (.slice none 0 0)
 |cL (q:List Nat) (t:TC) (o:Nat) (A:Addr) (c:Nat) (ho:o<2):RV w B ah q (.sl t o false []) (.slice (some A) 0 c)
 |cV (q:List Nat) (t:TC) (o:Nat) (A:Addr) (c:Nat) (ho:o<2):RV w B ah q (.sl t o true []) (.slice (some A) 0 c)
 | aA (q:List Nat) (t:TC) (o:Nat) (qn:Bool) (l:List (T t)) (b off cap:Nat) (u:Nat->Nat->Value) (ho:o<2) (hl:ah b=none) (hb:b<w.heap.size) (h1:o=1->B<=b) (mP:l.length<=cap)
   (hc:∀i (h:i<l.length) j x,(enc t o l[i])[j]?=some x->w.cell? ⟨b,off+(i*aC t+j),none⟩=some (u i j))
   (hr:∀i (h:i<l.length) j x,(enc t o l[i])[j]?=some x->RV w B ah [] x (u i j)):RV w B ah q (.sl t o qn l) (.slice (some ⟨b,off,none⟩) l.length cap)
 | own (q:List Nat) (t:TC) (o:Nat) (qn:Bool) (l:List (T t)) (b cap:Nat) (cs:Array Value) (u:Nat->Nat->Value) (hl:ah b=some q) (hh:w.heap[b]?=some (.cells cs (tid t) (0,0)))
   (hs:cs.size=cap*aC t) (hn:l.length<=cap) (hm:cap<=maxLen/\(qn=true->cap=l.length))
   (hc:∀i (h:i<l.length) j x,(enc t o l[i])[j]?=some x->cs[i*aC t+j]?=some (u i j))
   (hr:∀i (h:i<l.length) j x,(enc t o l[i])[j]?=some x->RV w B ah (j::i::aC t::q) x (u i j)):RV w B ah q (.sl t (o+2) qn l) (.slice (some ⟨b,0,none⟩) l.length cap)
section
variable {w w':World} {B:Nat} {ah aD:bA}
def V.ER(n:Nat):V->V
 |.sl t _ q l=>.sl t n q l
 |x=>x
theorem ahI(t:TC)(o n:Nat)(x:T t):enc t n x=(enc t o x).map (V.ER n):=by cases t<;>rfl
def V.fu(n:Nat):V->Prop
 |.sl t o _ _=>full t+2<=o/\full t+2<=n
 |_=>True
theorem RV.ER{q:aa Nat}{x:V}{v:Value}(h:RV w B ah q x v):∀ n,x.fu n->RV w B ah q (x.ER n) v:=by
 induction h with
 |int=>exact λ_ _=>.int _ _ _
 |bool=>exact λ_ _=>.bool _ _
 |str=>exact λ_ _=>.str _ _
 |nil=>exact λ_ _=>.nil _
 |cG=>exact λ_ _=>.cG _ _ _
 |cL q t o A c J=>exact λn E=>by have:=E.1;omega
 |cV q t o A c J=>exact λn E=>by have:=E.1;omega
 |aA q t o Q l b off cap u J hl hb T mP L U O=>exact λn E=>by have:=E.1;omega
 | own q t o Q l b cap cs u hl Y Z E hm L U O=>
  intro n I;obtain⟨T,h2⟩:=I;obtain⟨m,rfl⟩:∃m,n=m+2:=⟨n-2,by omega⟩
  have key:∀ (i:Nat) (h:i<l.length) (j:Nat) (x:V),(enc t m l[i])[j]?=some x->∃ y:V,(enc t o l[i])[j]?=some y/\y.ER m=x/\y.fu m:=by
   intro i h j x C;rw[ahI t o m l[i],cO]at C;cases D:(enc t o l[i])[j]? with
   |none=>rw[D]at C;cases C
   | some y=>
    rw[D]at C;injection C with C;refine⟨y,rfl,C,?_⟩;have g1:=uC t o l[i] y (fL D);have g2:=J4 t o l[i] y (fL D);cases y with
    | sl t' o' q' l'=>
     have e:o'=o:=by simpa [V.gr]using g1
     have:=cB (show Nat.ble (full t'+2) (full t)=true from g2);exact⟨by omega,by omega⟩
    |_=>trivial
  refine .own _ _ _ _ _ _ _ cs u hl Y Z E hm (λi h j x C=>?_) (λi h j x C=>?_)
  ·obtain⟨y,D,_⟩:=key i h j x C;exact L i h j y D
  ·obtain⟨y,D,rfl,I⟩:=key i h j x C;exact O i h j y D m I
theorem RV.wk{q:aa Nat}{x y:V}{v:Value}(h:RV w B ah q x v)(k:Wk x y):RV w B ah q y v:=by
 cases k with
 |same=>exact h
 |nil t o=>cases h;exact .cG _ _ _
 | gr t o Z I l J Y=>
  have h:=h.ER o ⟨Y,J⟩;have h:RV w B ah q (.sl t o I l) v:=h;cases h with
  |cG=>exact .cG _ _ _
  |cL q t o A c C=>exact .cL _ _ _ _ _ C
  |cV q t o A c C=>exact .cL _ _ _ _ _ C
  |aA q t o I l b off cap u C hl hb J L D E=>exact .aA _ _ _ _ _ _ _ _ u C hl hb J L D E
  |own q t o I l b cap cs u hl O Q T U D E=>exact .own _ _ _ _ _ _ _ cs u hl O Q T ⟨U.1,λh=>by cases h⟩ D E
 | q t o l=>
  cases h with
  |cV q t o A c C=>exact .cL _ _ _ _ _ C
  |aA q t o I l b off cap u C hl hb J L D E=>exact .aA _ _ _ _ _ _ _ _ u C hl hb J L D E
  |own q t o I l b cap cs u hl O Q T U D E=>exact .own _ _ _ _ _ _ _ cs u hl O Q T ⟨U.1,λh=>by cases h⟩ D E
theorem RV.key{q E:aa Nat}{x:V}{v:Value}(h:RV w B ah q x v)(I:x.aA=true):RV w B ah E x v:=by
 cases h with
 |int=>exact .int _ _ _
 |bool=>exact .bool _ _
 |str=>exact .str _ _
 |nil=>exact .nil _
 |cG=>exact .cG _ _ _
 |cL=>exact .cL _ _ _ _ _ (by first|assumption|omega)
 |cV=>exact .cV _ _ _ _ _ (by first|assumption|omega)
 |aA q t o J l b off cap u L hl hb O Q C D=>exact .aA _ _ _ _ _ _ _ _ u L hl hb O Q C D
 |own q t o J l b cap cs u hl T U Y Z C D=>simp[V.aA]at I;omega
def kG:Value->Bool
 |.slice ..=>true
 |_=>false
theorem RV.J5{q:aa Nat}{x:V}{u:Value}(h:RV w B ah q x u)(C:x.aA=false):kG u=true:=by
 cases h<;>first|rfl|cases C
theorem RV.one{q:aa Nat}{x:V}{u:Value}(h:RV w B ah q x u):u.oneCell'=true:=by
 cases h<;>rfl
theorem RV.fN{q:aa Nat}{x:V}{v:Value}(h:RV w B ah q x v)(J:w.heap.size<=w'.heap.size)(C:∀ b,b<w.heap.size->w'.heap[b]?=w.heap[b]?/\aD b=ah b):RV w' B aD q x v:=by
 induction h with
 |int=>exact .int _ _ _
 |bool=>exact .bool _ _
 |str=>exact .str _ _
 |nil=>exact .nil _
 |cG=>exact .cG _ _ _
 |cL=>exact .cL _ _ _ _ _ (by first|assumption|omega)
 |cV=>exact .cV _ _ _ _ _ (by first|assumption|omega)
 | aA q t o L l b off cap u O hl hb Q T D U E=>
  exact .aA _ _ _ _ _ _ _ _ u O ((C b hb).2.trans hl) (jD hb J) Q T (λi h j x Y=>(jZ (a:=⟨b,_,none⟩) (C b hb).1).trans (D i h j x Y)) E
 | own q t o L l b cap cs u hl I Z hn hm D U E=>
  have hb:b<w.heap.size:=(fl.1 I).1;exact .own _ _ _ _ _ _ _ cs u ((C b hb).2.trans hl) ((C b hb).1.trans I) Z hn hm D E
theorem RV.apart{q kt:aa Nat}{x:V}{v:Value}{bt:Nat}(h:RV w B ah q x v)(C:ah bt=some kt)(hq:¬ q <:+ kt\/x.aA=true)(U:w.heap.size<=w'.heap.size)(O:∀ b,b≠bt->w'.heap[b]?=w.heap[b]?):RV w' B ah q x v:=by
 induction h with
 |int=>exact .int _ _ _
 |bool=>exact .bool _ _
 |str=>exact .str _ _
 |nil=>exact .nil _
 |cG=>exact .cG _ _ _
 |cL=>exact .cL _ _ _ _ _ (by first|assumption|omega)
 |cV=>exact .cV _ _ _ _ _ (by first|assumption|omega)
 | aA q t o Y l b off cap u Q hl hb Z mP E hr I=>
  have J:b≠bt:=by rintro rfl;rw[hl]at C;cases C
  refine .aA _ _ _ _ _ _ _ _ u Q hl (jD hb U) Z mP (λi h j x D=>(jZ (a:=⟨b,_,none⟩) (O b J)).trans (E i h j x D)) (λi h j x D=>I i h j x D (.inr (jr t o l[i] Q j x D)))
 | own q t o Y l b cap cs u hl hh L hn hm E hr I=>
  have T:¬ q <:+ kt:=by
   rcases hq with hq|hq
   ·exact hq
   ·simp[V.aA]at hq;omega
  have J:b≠bt:=by rintro rfl;rw[hl]at C;injection C with C;subst C;exact T (List.suffix_refl _)
  refine .own _ _ _ _ _ _ _ cs u hl ((O b J).trans hh) L hn hm E (λi h j x D=>I i h j x D (.inl λL=>T (List.IsSuffix.trans ⟨[j,i,aC t],rfl⟩ L)))
theorem RV.gd{q J:aa Nat}{x:V}{v:Value}(h:RV w B ah q x v){B':Nat}:RV w B' (λ_=>none) J x.gd v:=by
 induction h generalizing J with
 |int=>exact .int _ _ _
 |bool=>exact .bool _ _
 |str=>exact .str _ _
 |nil=>exact .nil _
 |cG=>exact .cG _ _ _
 |cL=>exact .cL _ _ _ _ _ (by first|assumption|omega)
 |cV=>exact .cV _ _ _ _ _ (by first|assumption|omega)
 | aA q t o O l b off cap u Y hl hb Z Q E T I=>
  refine .aA _ _ _ _ _ _ _ _ u (by omega) rfl hb (by omega) Q (λi h j x C=>?_) (λi h j x C=>?_)
  ·obtain⟨y,D,_⟩:=uD t o l[i] j x C;exact E i h j y D
  ·obtain⟨y,D,rfl⟩:=uD t o l[i] j x C;exact I i h j y D
 | own q t o O l b cap cs u hl L hs U hm E T I=>
  refine .aA _ _ _ _ _ _ _ _ u (by omega) rfl (fl.1 L).1 (by omega) U (λi h j x C=>?_) (λi h j x C=>?_)
  ·obtain⟨y,D,_⟩:=uD t o l[i] j x C;have:=E i h j y D;rw[eN,cell_of_row w b _ cs _ _ L];exact this
  ·obtain⟨y,D,rfl⟩:=uD t o l[i] j x C;exact I i h j y D
end
set_option linter.unusedVariables false
inductive Lf where
 |v (x:V)
 |own (k:List Nat)
 |dead
inductive A where
 |undef
 |skip
 |lf (x:Lf)
 |agg (cs:List Lf)
 |ct (xs:List (Bool×List Lf))
 |ptr (k:List Nat)
 |aH (r j:Nat)
 |gG (cs:List V)
 |ko (f:Nat) (cs:List V)
 |pk (r n:Nat)
 |view (k:List Nat) (s i j:Nat)
 |fn (f:Nat) (cap:List (Nat×Nat))
inductive aP where
 |ax (cs:List Lf)
 |sl (y:V)
 |mp (l:List (Int×Bool))
 |gh (xs:List A)
structure S where
 t:Nat->A
 m:Nat->Option aP
inductive Loc where
 |ax (b off:Nat)
 |de (v:Value)
 |bM (us:List Value)
def addrAt(w:World)(ah:bA)(ρ:Nat->Loc):aa Nat->aj Addr
 | j :: i :: s :: [r]=>match ρ r with
  |.de (.slice (some ⟨b,0,none⟩) _ _)=>if ah b=some [r]then some ⟨b,i*s+j,none⟩else none
  |_=>none
 | j :: i :: s :: q=>match (addrAt w ah ρ q).bind w.cell? with
  |some (.slice (some ⟨b,0,none⟩) _ _)=>if ah b=some q then some ⟨b,i*s+j,none⟩else none
  |_=>none
 |_=>none
def cm(w:World)(ah:bA)(ρ:Nat->Loc):aa Nat->aj Value
 | [r]=>match ρ r with
  |.de v=>some v
  |_=>none
 |q=>(addrAt w ah ρ q).bind w.cell?
def cQ(w:World)(B:Nat)(ah:bA)(ρ:Nat->Loc):Lf->Value->Prop
 |.v x,u=>x.aA=true/\RV w B ah [] x u
 |.own k,u=>kG u=true/\cm w ah ρ k=some u
 |.dead,_=>True
def dg(w:World)(B:Nat)(ah:bA)(ρ:Nat->Loc)(cs:aa Lf)(us:Array Value):Prop:=
 us.size=cs.length/\∀(j:Nat) x,cs[j]?=some x->∃u,us[j]?=some u/\cQ w B ah ρ x u
def RP(w:World)(B:Nat)(ah:bA)(ρ:Nat->Loc)(p:Bool×aa Lf)(u:Value):Prop:=
 match p with
 |(true,cs)=>∃us,u = .agg us/\dg w B ah ρ cs us
 |(false,cs)=>dg w B ah ρ cs #[u]
def oZ:Nat:=4294967296
def J6(b n:Nat):Value:=bif Nat.beq n oZ then .map (some b)else .slice (some ⟨b,0,none⟩) n n
theorem Qe{b n:Nat}(h:n<oZ):J6 b n = .slice (some ⟨b,0,none⟩) n n:=by
 unfold J6;cases hb:Nat.beq n oZ with
 |true=>have:=bQ hb;omega
 |false=>rfl
theorem Qf(b:Nat):J6 b oZ = .map (some b):=rfl
def RF(w:World)(B:Nat)(ah:bA)(cs:aa V)(u:Value):Prop:=
 ∃b off,u = .pointer (some ⟨b,off,none⟩)/\b<w.heap.size/\ah b=none/\∀(j:Nat) x,cs[j]?=some x->x.aA=true/\∃v,w.cell? ⟨b,off+j,none⟩=some v/\RV w B ah [] x v
def RA(w:World)(B:Nat)(ah:bA)(ρ:Nat->Loc):A->Value->Prop
 |.undef,_=>True
 |.skip,u=>u=Go.undef
 |.lf x,u=>cQ w B ah ρ x u
 |.agg cs,u=>RP w B ah ρ (true,cs) u
 |.ct xs,u=>∃us:Array Value,u = .tuple us/\us.size=xs.length/\∀(j:Nat) p,xs[j]?=some p->∃v,us[j]?=some v/\RP w B ah ρ p v
 |.ptr k,u=>∃ad,u = .pointer (some ad)/\addrAt w ah ρ k=some ad
 |.aH r j,u=>∃b off,ρ r = .ax b off/\u = .pointer (some ⟨b,off+j,none⟩)
 |.gG cs,u=>RF w B ah cs u
 |.ko f cs,u=>∃pv,u = .func (.func f) #[] #[pv]/\RF w B ah cs pv
 |.pk r n,u=>∃b,ρ r = .ax b 0/\u=J6 b n
 |.view k s i j,u=>∃A n c,cm w ah ρ k=some (.slice A n c)/\i<=j/\j<=n/\u=sliced A i j c s
 |.fn f cap,u=>∃C:Array Value,u = .func (.func f) #[] C/\C.size=cap.length/\∀(j:Nat) p,cap[j]?=some p->∃b off,ρ p.1 = .ax b off/\C[j]?=some (.pointer (some ⟨b,off+p.2,none⟩))
inductive dH (w:World) (B:Nat) (ah:bA) (ρ:Nat->Loc) (r:Nat):aP->Prop
 | ax (b off:Nat) (cells:Array Value) (e:TypeId) (cs:List Lf) (us:Nat->Value) (di:ρ r = .ax b off) (hl:ah b=some [r]) (hh:w.heap[b]?=some (.cells cells e (0,0))) (hs:off+cs.length<=cells.size)
   (hc:∀(j:Nat) x,cs[j]?=some x->cells[off+j]?=some (us j)/\cQ w B ah ρ x (us j)):dH w B ah ρ r (.ax cs)
 |sl (v:Value) (y:V) (di:ρ r = .de v) (hr:RV w B ah [r] y v):dH w B ah ρ r (.sl y)
 |mp (b clock:Nat) (es:Array MapEntry) (l:List (Int×Bool)) (di:ρ r = .ax b 0) (hl:ah b=some [r]) (hh:w.heap[b]?=some (.map es clock)) (he:es.toList.map (λe=>(e.key,e.val))=l.map λp=>(.int .i64 p.1,.bool p.2)):dH w B ah ρ r (.mp l)
 |gh (us:List Value) (xs:List A) (di:ρ r = .bM us) (hx:∀(j:Nat) x,xs[j]?=some x->RA w B ah ρ x (us.getD j undef)):dH w B ah ρ r (.gh xs)
def Qw(_:World):Prop:=True
structure ahJ (n:Nat) (L:bA) (w w':World):Prop where
 os:w'.os=w.os
 tape:w'.tape=w.tape
 output:w'.output=w.output
 size:w.heap.size<=w'.heap.size
 block:∀k,k<n->L k=none->w'.heap[k]?=w.heap[k]?
def Hd(w:World)(L:bA):Prop:=∀w',ahJ w.heap.size L w w'->Qw w'
theorem ahK(w:World)(L:bA):Hd w L:=λ_ _=>trivial
structure Wd where
 w:World
 L:bA
 F:Nat->Option Loc
 held:Hd w L
 low:∀r,r<20000->F r=none
def Wd.heap(d:Wd):Array Obj:=d.w.heap
def Wd.of(w:World)(h:Hd w λ_=>none):Wd:=⟨w,λ_=>none,λ_=>none,h,λ_ _=>rfl⟩
structure iF (d:Wd) (w w':World):Prop where
 os:w'.os=w.os
 tape:w'.tape=w.tape
 output:w'.output=w.output
 size:w.heap.size<=w'.heap.size
 block:∀k,k<d.heap.size->d.L k=none->w'.heap[k]?=w.heap[k]?
theorem iF.trans{d:Wd}{a b c:World}(h:iF d a b)(k:iF d b c):iF d a c:=
 ⟨k.os.trans h.os,k.tape.trans h.tape,k.output.trans h.output,Nat.le_trans h.size k.size,λi hi hl=>(k.block i hi hl).trans (h.block i hi hl)⟩
theorem Wd.on(d:Wd){w:World}(h:iF d d.w w){L:bA}(D:∀ b k,L b=some k->d.heap.size<=b\/d.L b≠none):Hd w L:=λw' hb=>
 d.held w' ⟨hb.os.trans h.os,hb.tape.trans h.tape,hb.output.trans h.output,Nat.le_trans h.size hb.size,λk C hl=>by
  have e:L k=none:=by
   cases e:L k with
   |none=>rfl
   | some q=>
    rcases D k q e with h1|h1
    ·exact absurd C (Nat.not_lt.2 h1)
    ·exact absurd hl h1
  exact(hb.block k (jD C h.size) e).trans (h.block k C hl)⟩
theorem iF.of{d:Wd}{a b:World}{B:Nat}(h:Below B a b)(hB:d.heap.size<=B):iF d a b:=
 ⟨h.os,h.tape,h.output,h.size,λi hi _=>h.block i (jD hi hB)⟩
structure Rl (w0:Wd) (N:Nat) (ah:bA) (ρ:Nat->Loc) (σ:S) (a:Act) (w:World):Prop where
 below:iF w0 w0.w w
 cH:∀b k,ah b=some k->(w0.heap.size<=b\/w0.L b≠none)/\b<w.heap.size/\k≠[]
 root:∀r x,σ.m r=some x->dH w w0.heap.size ah ρ r x
 tmp:∀k,RA w w0.heap.size ah ρ (σ.t k) (a.tmps.getD k undef)
 size:a.tmps.size=N
 defers:a.defers=[]
 fix:∀r l,w0.F r=some l->ρ r=l
 dm:∀r,(r<N\/60000<=r)->w0.F r=none
def R(w0:Wd)(N:Nat)(σ:S)(a:Act)(w:World):Prop:=∃ah ρ,Rl w0 N ah ρ σ a w
/-! Reading along a key. -/
inductive s7 (m:Nat->Option aP):List Nat->V->Prop
 |root (r:Nat) (y:V) (h:m r=some (.sl y)):s7 m [r] y
 |elem (j i:Nat) (q:List Nat) (t:TC) (o:Nat) (qn:Bool) (l:List (T t)) (y:V) (h:s7 m q (.sl t (o+2) qn l)) (hi:i<l.length) (hy:(enc t o l[i])[j]?=some y):s7 m (j::i::aC t::q) y
section
variable {w w':World} {w0:Wd} {B N:Nat} {ah aD:bA} {ρ ρ':Nat->Loc} {m:Nat->aj aP} {σ:S} {a:Act}
theorem zj{q:aa Nat}(j i s:Nat){b n c:Nat}(h:cm w ah ρ q=some (.slice (some ⟨b,0,none⟩) n c))(hl:ah b=some q):addrAt w ah ρ (j :: i :: s :: q)=some ⟨b,i*s+j,none⟩:=by
 match q,h,hl with
 | [r],h,hl=>
  simp only[cm]at h;simp only[addrAt];cases C:ρ r with
  |ax b off=>rw[C]at h;cases h
  |de v=>rw[C]at h;injection h with h;subst h;simp[hl]
  |bM us=>rw[C]at h;cases h
 |[],h,hl=>simp[cm,addrAt]at h
 | x :: y :: q,h,hl=>
  simp only[cm]at h;simp only[addrAt,h,hl,if_true]
theorem J7{j i s:Nat}{q:aa Nat}:cm w ah ρ (j::i::s::q)=(addrAt w ah ρ (j::i::s::q)).bind w.cell?:=rfl
theorem s7.ok{k:aa Nat}{y:V}(h:s7 m k y)(D:∀ r x,m r=some x->dH w B ah ρ r x):∃ u,cm w ah ρ k=some u/\RV w B ah k y u:=by
 induction h with
 | root r y h=>
  cases D _ _ h with
  |sl v y I C=>exact⟨v,by simp[cm,I],C⟩
 | elem j i q t o T l y h hi E J=>
  obtain⟨u,L,C⟩:=J;cases C with
  |cG=>simp at hi
  |cL=>simp at hi
  |cV=>simp at hi
  |aA _ _ _ _ _ _ _ _ _ U=>omega
  | own _ _ _ _ _ b cap cs us hl O Y Z D Q C=>
   refine⟨us i j,?_,C i hi j y E⟩;rw[J7,zj j i (aC t) L hl];show w.cell? _=_;rw[cell_of_row w b _ cs _ _ O];exact Q i hi j y E
theorem uE:∀ (k:aa Nat) (ad:Addr),addrAt w ah ρ k=some ad->∃ j i s q,k=j :: i :: s :: q/\ah ad.block=some q/\ad.off=i*s+j/\ad.spot=none/\(∀ r,q=[r]->∃ v,ρ r = .de v)
 |[],_,h=>by simp[addrAt]at h
 |[_],_,h=>by simp[addrAt]at h
 |[_,_],_,h=>by simp[addrAt]at h
 |[_,_,_],_,h=>by simp[addrAt]at h
 | [j,i,s,r],ad,h=>by
  simp only[addrAt]at h;split at h
  ·rename_i v b n c C;split at h
   next hl=>injection h with h;subst h;exact⟨j,i,s,[r],rfl,hl,rfl,rfl,λD e=>by injection e with e;subst e;exact⟨_,C⟩⟩
   ·cases h
  ·cases h
 | j :: i :: s :: x :: y :: q,ad,h=>by
  simp only[addrAt]at h;split at h
  ·split at h
   next hl=>injection h with h;subst h;exact⟨j,i,s,x::y::q,rfl,hl,rfl,rfl,λD e=>by injection e with _ e;cases e⟩
   ·cases h
  ·cases h
theorem Qg(C:∀ b,b<w.heap.size->w'.heap[b]?=w.heap[b]?/\aD b=ah b)(E:∀ b k,ah b=some k->b<w.heap.size):∀ (k:aa Nat) (ad:Addr),addrAt w ah ρ k=some ad->addrAt w' aD ρ k=some ad
 |[],_,h=>h
 |[_],_,h=>h
 |[_,_],_,h=>h
 |[_,_,_],_,h=>by simp only[addrAt]at h ⊢;exact h
 | [j,i,s,r],_,h=>by
  simp only[addrAt]at h ⊢;split at h
  ·rename_i v b n c L;split at h
   next hl=>rw[bk ((C _ (E _ _ hl)).2.trans hl)];exact h
   ·cases h
  ·cases h
 | j :: i :: s :: x :: y :: q,ad,h=>by
  simp only[addrAt]at h ⊢;cases I:addrAt w ah ρ (x::y::q)with
  |none=>rw[I]at h;cases h
  | some J=>
   rw[Qg C E _ _ I];rw[I]at h;cases D:w.cell? J with
   |none=>simp[D]at h
   | some v=>
    have e:w'.cell? J=some v:=(jZ (C _ (block_lt_of_cell D)).1).trans D;simp only[Option.bind_some,D]at h;simp only[Option.bind_some,e];split at h
    ·split at h
     next hl=>rw[bk ((C _ (E _ _ hl)).2.trans hl)];exact h
     ·cases h
    ·cases h
theorem W3(D:∀ b,b<w.heap.size->w'.heap[b]?=w.heap[b]?/\aD b=ah b)(E:∀ b k,ah b=some k->b<w.heap.size)(k:aa Nat)(u:Value)(h:cm w ah ρ k=some u):cm w' aD ρ k=some u:=by
 match k,h with
 |[],h=>simp[cm,addrAt]at h
 |[r],h=>exact h
 | x :: y :: q,h=>
  simp only[cm]at h ⊢;cases C:addrAt w ah ρ (x::y::q)with
  |none=>rw[C]at h;cases h
  | some ad=>
   rw[Qg D E _ _ C];rw[C]at h;have h:w.cell? ad=some u:=h;exact(jZ (D _ (block_lt_of_cell h)).1).trans h
theorem cQ.fN{x:Lf}{u:Value}(h:cQ w B ah ρ x u)(D:w.heap.size<=w'.heap.size)(C:∀ b,b<w.heap.size->w'.heap[b]?=w.heap[b]?/\aD b=ah b)(E:∀ b k,ah b=some k->b<w.heap.size):cQ w' B aD ρ x u:=by
 cases x with
 |v x=>exact⟨h.1,h.2.fN D C⟩
 |own k=>exact⟨h.1,W3 C E _ _ h.2⟩
 |dead=>trivial
theorem dg.fN{cs:aa Lf}{us:Array Value}(h:dg w B ah ρ cs us)(C:w.heap.size<=w'.heap.size)(D:∀ b,b<w.heap.size->w'.heap[b]?=w.heap[b]?/\aD b=ah b)(E:∀ b k,ah b=some k->b<w.heap.size):dg w' B aD ρ cs us:=
 ⟨h.1,λj x I=>let ⟨u,hu,r⟩:=h.2 j x I;⟨u,hu,r.fN C D E⟩⟩
theorem RP.fN{p:Bool×aa Lf}{u:Value}(h:RP w B ah ρ p u)(C:w.heap.size<=w'.heap.size)(D:∀ b,b<w.heap.size->w'.heap[b]?=w.heap[b]?/\aD b=ah b)(E:∀ b k,ah b=some k->b<w.heap.size):RP w' B aD ρ p u:=by
 obtain⟨b,cs⟩:=p;cases b with
 |true=>obtain⟨us,e,h⟩:=h;exact⟨us,e,h.fN C D E⟩
 |false=>exact dg.fN h C D E
theorem RF.fN{cs:aa V}{u:Value}(h:RF w B ah cs u)(D:w.heap.size<=w'.heap.size)(C:∀ b,b<w.heap.size->w'.heap[b]?=w.heap[b]?/\aD b=ah b):RF w' B aD cs u:=by
 obtain⟨b,off,e,hb,hl,h⟩:=h
 refine⟨b,off,e,jD hb D,((C b hb).2).trans hl,λj x E=>?_⟩
 obtain⟨I,v,J,L⟩:=h j x E;exact⟨I,v,(jZ (a:=⟨b,_,none⟩) (C b hb).1).trans J,L.fN D C⟩
theorem RA.fN{x:A}{u:Value}(h:RA w B ah ρ x u)(D:w.heap.size<=w'.heap.size)(C:∀ b,b<w.heap.size->w'.heap[b]?=w.heap[b]?/\aD b=ah b)(E:∀ b k,ah b=some k->b<w.heap.size):RA w' B aD ρ x u:=by
 cases x with
 |undef=>trivial
 |skip=>exact h
 |lf x=>exact cQ.fN h D C E
 |agg cs=>exact RP.fN (p:=(true,cs)) h D C E
 |ct xs=>obtain⟨us,e,I,h⟩:=h;exact⟨us,e,I,λj p J=>let ⟨v,L,r⟩:=h j p J;⟨v,L,r.fN D C E⟩⟩
 |ptr k=>obtain⟨ad,e,h⟩:=h;exact⟨ad,e,Qg C E _ _ h⟩
 |view k s i j=>obtain⟨A,n,c,h,g⟩:=h;exact⟨A,n,c,W3 C E _ _ h,g⟩
 |pk r n=>exact h
 |aH r j=>exact h
 |gG cs=>exact RF.fN h D C
 |ko f cs=>obtain⟨pv,e,h⟩:=h;exact⟨pv,e,h.fN D C⟩
 |fn f cap=>exact h
theorem dH.fN{r:Nat}{x:aP}(h:dH w B ah ρ r x)(J:w.heap.size<=w'.heap.size)(C:∀ b,b<w.heap.size->w'.heap[b]?=w.heap[b]?/\aD b=ah b)(L:∀ b k,ah b=some k->b<w.heap.size):dH w' B aD ρ r x:=by
 cases h with
 | ax b off cells e cs us D hl E Q O=>
  have hb:b<w.heap.size:=(fl.1 E).1;exact .ax b off cells e cs us D ((C b hb).2.trans hl) ((C b hb).1.trans E) Q (λj x I=>⟨(O j x I).1,(O j x I).2.fN J C L⟩)
 |sl v y D T=>exact .sl v y D (T.fN J C)
 | mp b c U l D hl E Y=>
  have hb:b<w.heap.size:=(fl.1 E).1;exact .mp b c U l D ((C b hb).2.trans hl) ((C b hb).1.trans E) Y
 |gh us xs D I=>exact .gh us xs D λj x Z=>(I j x Z).fN J C L
/-! A root's name is given anew: what named it before is forgotten. -/
def aY(d:Nat)(k:aa Nat):Bool:=k.getLast?==some d
def Lf.drop(d:Nat):Lf->Lf
 |.own k=>bif aY d k then .dead else .own k
 |x=>x
def A.drop(d:Nat):A->A
 |.lf x=>.lf (x.drop d)
 |.agg cs=>.agg (cs.map (Lf.drop d))
 |.ct xs=>.ct (xs.map λp=>(p.1,p.2.map (Lf.drop d)))
 |.ptr k=>bif aY d k then .undef else .ptr k
 |.aH r j=>bif Nat.beq r d then .undef else .aH r j
 |.pk r n=>bif Nat.beq r d then .undef else .pk r n
 |.view k s i j=>bif aY d k then .undef else .view k s i j
 |.fn f cap=>bif cap.any (λp=>Nat.beq p.1 d)then .undef else .fn f cap
 |x=>x
def aP.drop(d:Nat):aP->aP
 |.ax cs=>.ax (cs.map (Lf.drop d))
 |.gh xs=>.gh (xs.map (A.drop d))
 |x=>x
theorem Qh{d:Nat}(C:∀ r,r≠d->ρ' r=ρ r):∀ (k:aa Nat),aY d k=false->addrAt w ah ρ' k=addrAt w ah ρ k
 |[],_=>rfl
 |[_],_=>rfl
 |[_,_],_=>rfl
 |[_,_,_],_=>rfl
 | [j,i,s,r],h=>by
  have D:r≠d:=by rintro rfl;simp[aY]at h
  simp only[addrAt,C r D]
 | j :: i :: s :: x :: y :: q,h=>by
  have E:aY d (x::y::q)=false:=by simpa [aY]using h
  simp only[addrAt,Qh C (x::y::q) E]
theorem W4{d:Nat}(C:∀ r,r≠d->ρ' r=ρ r)(k:aa Nat)(h:aY d k=false):cm w ah ρ' k=cm w ah ρ k:=by
 match k,h with
 |[],_=>rfl
 | [r],h=>
  have D:r≠d:=by rintro rfl;simp[aY]at h
  simp only[cm,C r D]
 |x::y::q,h=>simp only[cm,Qh C _ h]
theorem cQ.dQ{d:Nat}(C:∀ r,r≠d->ρ' r=ρ r){x:Lf}{u:Value}(h:cQ w B ah ρ x u):cQ w B ah ρ' (x.drop d) u:=by
 cases x with
 |v x=>exact h
 |dead=>trivial
 | own k=>
  have e:Lf.drop d (.own k)=(bif aY d k then .dead else .own k):=rfl;rw[e];cases hl:aY d k with
  |true=>trivial
  |false=>exact⟨h.1,(W4 C k hl).trans h.2⟩
theorem dg.dQ{d:Nat}(E:∀ r,r≠d->ρ' r=ρ r){cs:aa Lf}{us:Array Value}(h:dg w B ah ρ cs us):dg w B ah ρ' (cs.map (Lf.drop d)) us:=by
 refine⟨by rw[cZ];exact h.1,λj x C=>?_⟩
 rw[cO]at C;cases D:cs[j]? with
 |none=>rw[D]at C;cases C
 | some y=>
  rw[D]at C;injection C with C;subst C;obtain⟨u,I,r⟩:=h.2 j y D;exact⟨u,I,r.dQ E⟩
theorem RP.dQ{d:Nat}(C:∀ r,r≠d->ρ' r=ρ r){p:Bool×aa Lf}{u:Value}(h:RP w B ah ρ p u):RP w B ah ρ' (p.1,p.2.map (Lf.drop d)) u:=by
 obtain⟨b,cs⟩:=p;cases b with
 |true=>obtain⟨us,e,h⟩:=h;exact⟨us,e,h.dQ C⟩
 |false=>exact dg.dQ C h
theorem RA.dQ{d:Nat}(D:∀ r,r≠d->ρ' r=ρ r){x:A}{u:Value}(h:RA w B ah ρ x u):RA w B ah ρ' (x.drop d) u:=by
 cases x with
 |undef=>trivial
 |skip=>exact h
 |lf x=>exact cQ.dQ D h
 |agg cs=>exact RP.dQ (p:=(true,cs)) D h
 | ct xs=>
  obtain⟨us,e,I,h⟩:=h
  refine⟨us,e,by rw[cZ];exact I,λj p C=>?_⟩
  rw[cO]at C;cases J:xs[j]? with
  |none=>rw[J]at C;cases C
  | some y=>
   rw[J]at C;injection C with C;subst C;obtain⟨v,L,r⟩:=h j y J;exact⟨v,L,r.dQ D⟩
 | ptr k=>
  have e:A.drop d (.ptr k)=(bif aY d k then .undef else .ptr k):=rfl;rw[e];cases hl:aY d k with
  |true=>trivial
  |false=>obtain⟨ad,e,h⟩:=h;exact⟨ad,e,(Qh D k hl).trans h⟩
 | view k s i j=>
  have e:A.drop d (.view k s i j)=(bif aY d k then .undef else .view k s i j):=rfl;rw[e];cases hl:aY d k with
  |true=>trivial
  |false=>obtain⟨A,n,c,h,g⟩:=h;exact⟨A,n,c,(W4 D k hl).trans h,g⟩
 | pk r n=>
  have e:A.drop d (.pk r n)=(bif Nat.beq r d then .undef else .pk r n):=rfl;rw[e];cases hl:Nat.beq r d with
  |true=>trivial
  | false=>
   have E:r≠d:=by rintro rfl;simp at hl
   obtain⟨b,e,h⟩:=h;exact⟨b,(D r E).trans e,h⟩
 | aH r j=>
  have e:A.drop d (.aH r j)=(bif Nat.beq r d then .undef else .aH r j):=rfl;rw[e];cases hl:Nat.beq r d with
  |true=>trivial
  | false=>
   have E:r≠d:=by rintro rfl;simp at hl
   obtain⟨b,off,e,h⟩:=h;exact⟨b,off,(D r E).trans e,h⟩
 |gG cs=>exact h
 |ko f cs=>exact h
 | fn f cap=>
  have e:A.drop d (.fn f cap)=(bif cap.any (λp=>Nat.beq p.1 d)then .undef else .fn f cap):=rfl;rw[e];cases hl:cap.any (λp=>Nat.beq p.1 d)with
  |true=>trivial
  | false=>
   obtain⟨O,e,I,h⟩:=h
   refine⟨O,e,I,λj p C=>?_⟩
   obtain⟨b,off,Q,T⟩:=h j p C;have E:p.1≠d:=by
    rintro rfl;have:=iW.1 hl p (fL C);simp at this
   exact⟨b,off,(D _ E).trans Q,T⟩
theorem dH.dQ{d r:Nat}(J:∀ r,r≠d->ρ' r=ρ r)(L:r≠d){x:aP}(h:dH w B ah ρ r x):dH w B ah ρ' r (x.drop d):=by
 cases h with
 | ax b off cells e cs us E hl O T Q=>
  refine .ax b off cells e _ us ((J r L).trans E) hl O (by rw[cZ];exact T) (λj x C=>?_)
  rw[cO]at C;cases D:cs[j]? with
  |none=>rw[D]at C;cases C
  | some y=>
   rw[D]at C;injection C with C;subst C;exact⟨(Q j y D).1,(Q j y D).2.dQ J⟩
 |sl v y E U=>exact .sl v y ((J r L).trans E) U
 |mp b c Y l E hl O Z=>exact .mp b c Y l ((J r L).trans E) hl O Z
 | gh us xs E C=>
  refine .gh us _ ((J r L).trans E) (λj x I=>?_)
  rw[cO]at I;cases D:xs[j]? with
  |none=>rw[D]at I;cases I
  | some y=>
   rw[D]at I;injection I with I;subst I;exact(C j y D).dQ J
def bL{α:Type}(f:Nat->α)(d:Nat)(x:α):Nat->α:=λk=>bif Nat.beq k d then x else f k
theorem bO{α:Type}(f:Nat->α)(d:Nat)(x:α):bL f d x d=x:=by simp[bL]
theorem cu{α:Type}(f:Nat->α)(d:Nat)(x:α){k:Nat}(h:k≠d):bL f d x k=f k:=by
 have:Nat.beq k d=false:=by
  cases hb:Nat.beq k d with
  |false=>rfl
  |true=>exact absurd (bQ hb) h
 simp only[bL,this,aq]
def S.set(σ:S)(d:Nat)(x:A):S:={ σ with t:=bL σ.t d x }
def S.drop(σ:S)(d:Nat):S:=⟨λk=>(σ.t k).drop d,λr=>bif Nat.beq r d then none else (σ.m r).map (aP.drop d)⟩
def S.root(σ:S)(d:Nat)(x:aP):S:={ σ with m:=bL σ.m d (some x) }
theorem Rl.set{x:A}{v:Value}{d:Nat}(h:Rl w0 N ah ρ σ a w)(D:RA w w0.heap.size ah ρ x v)(E:d<N):Rl w0 N ah ρ (σ.set d x) (a.put (some d) v) w:=by
 refine⟨h.below,h.cH,h.root,λk=>?_,?_,h.defers,h.fix,h.dm⟩
 ·show RA w w0.heap.size ah ρ (bL σ.t d x k) ((a.tmps.setIfInBounds d v).getD k undef);by_cases C:k=d
  ·subst C;rw[bO,gE,Array.getElem?_setIfInBounds_self];have:k<a.tmps.size:=by rw[h.size];exact E
   simp only[this,if_true,Option.getD_some];exact D
  ·rw[cu _ _ _ C,gE,Array.getElem?_setIfInBounds_ne (Ne.symm C),<-gE];exact h.tmp k
 ·show (a.tmps.setIfInBounds d v).size=N;rw[Array.size_setIfInBounds];exact h.size
theorem Rl.grow(h:Rl w0 N ah ρ σ a w)(hb:Below w.heap.size w w')(hl:∀ b,b<w.heap.size->aD b=ah b)(I:∀ b k,w.heap.size<=b->aD b=some k->b<w'.heap.size/\k≠[]):Rl w0 N aD ρ σ a w':=by
 have D:∀b,b<w.heap.size->w'.heap[b]?=w.heap[b]?/\aD b=ah b:=λb E=>⟨hb.block b E,hl b E⟩
 refine⟨h.below.trans (.of hb h.below.size),λb k C=>?_,λr x J=>(h.root r x J).fN hb.size D (λb k hb=>(h.cH b k hb).2.1),λk=>(h.tmp k).fN hb.size D (λb k hb=>(h.cH b k hb).2.1),h.size,h.defers,h.fix,h.dm⟩
 rcases Nat.lt_or_ge b w.heap.size with L|mQ
 ·rw[hl b L]at C;have:=h.cH b k C;exact⟨this.1,jD this.2.1 hb.size,this.2.2⟩
 ·have:=I b k mQ C;exact⟨.inl (Nat.le_trans h.below.size mQ),this.1,this.2⟩
theorem Rl.new{d:Nat}{x:aP}(h:Rl w0 N ah ρ σ a w)(l:Loc)(I:dH w w0.heap.size ah (bL ρ d l) d x)(J:w0.F d=none):Rl w0 N ah (bL ρ d l) ((σ.drop d).root d x) a w:=by
 have E:∀r,r≠d->bL ρ d l r=ρ r:=λr D=>cu _ _ _ D
 refine⟨h.below,h.cH,λr y C=>?_,λk=>(h.tmp k).dQ E,h.size,h.defers,λr L D=>(E r (by rintro rfl;rw[J]at D;cases D)).trans (h.fix r L D),h.dm⟩
 by_cases D:r=d
 ·subst D;have e:(bL (σ.drop r).m r (some x)) r=some x:=bO _ _ _;have C:(bL (σ.drop r).m r (some x)) r=some y:=C;rw[e]at C;injection C with C;subst C;exact I
 ·have C:(bL (σ.drop d).m d (some x)) r=some y:=C;rw[cu _ _ _ D]at C;have hb:Nat.beq r d=false:=by
   cases hb:Nat.beq r d with
   |false=>rfl
   |true=>exact absurd (bQ hb) D
  simp only[S.drop,hb,aq]at C;cases hm:σ.m r with
  |none=>rw[hm]at C;cases C
  | some z=>
   rw[hm]at C;injection C with C;subst C;exact(h.root r z hm).dQ E D
end
def splice{α:Type}(l:aa α)(j:Nat)(xs:aa α):aa α:=l.take j++xs++l.drop (j+xs.length)
theorem uF{α:Type}(l:aa α)(j:Nat)(xs:aa α)(h:j+xs.length<=l.length):(splice l j xs).length=l.length:=by
 simp[splice];omega
theorem uG{α:Type}(l:aa α)(j:Nat)(xs:aa α)(h:j+xs.length<=l.length)(n:Nat):
  (splice l j xs)[n]?=if n<j then l[n]? else if n<j+xs.length then xs[n-j]? else l[n]?:=by
 unfold splice;have C:(l.take j).length=j:=by simp;omega
 split
 next D=>rw[List.append_assoc,List.getElem?_append_left (by rw[C];exact D),List.getElem?_take,bk D]
 ·split
  next E I=>rw[List.append_assoc,List.getElem?_append_right (by rw[C];omega),C,List.getElem?_append_left (by omega)]
  next E I=>rw[List.getElem?_append_right (by simp;omega),List.getElem?_drop];congr 1;simp;omega
structure s8 (w w':World) (bt:Nat):Prop where
 size:w'.heap.size=w.heap.size
 os:w'.os=w.os
 tape:w'.tape=w.tape
 output:w'.output=w.output
 block:∀k,k≠bt->w'.heap[k]?=w.heap[k]?
theorem J8(w:World)(b o:Nat)(l:aa Value):s8 w (w.setCells b o l) b:=by
 have g:=V2 b l o w;have s:=V1 b l o w
 refine⟨s,g.os,g.tape,g.output,λk C=>?_⟩
 rcases Nat.lt_or_ge k w.heap.size with D|mQ
 ·exact g.block k D (by intro e;injection e with e;exact C e)
 ·rw[Array.getElem?_eq_none mQ,Array.getElem?_eq_none (by rw[s];exact mQ)]
section
variable {w w':World} {w0:Wd} {B N:Nat} {ah:bA} {ρ:Nat->Loc} {m m':Nat->aj aP} {σ:S} {a:Act} {bt:Nat} {kt:aa Nat}
def qd(w w':World)(ah:bA)(ρ:Nat->Loc):Prop:=∀k ad v,addrAt w ah ρ k=some ad->w.cell? ad=some v->kG v=true->w'.cell? ad=some v
theorem Qi(E:qd w w' ah ρ):∀ (k:aa Nat) (ad:Addr),addrAt w ah ρ k=some ad->addrAt w' ah ρ k=some ad
 |[],_,h=>h
 |[_],_,h=>h
 |[_,_],_,h=>h
 |[_,_,_],_,h=>by simp only[addrAt]at h ⊢;exact h
 |[j,i,s,r],_,h=>by simp only[addrAt]at h ⊢;exact h
 | j :: i :: s :: x :: y :: q,ad,h=>by
  simp only[addrAt]at h ⊢;cases C:addrAt w ah ρ (x::y::q)with
  |none=>rw[C]at h;cases h
  | some I=>
   rw[Qi E _ _ C];rw[C]at h;cases D:w.cell? I with
   |none=>simp[D]at h
   | some v=>
    simp only[Option.bind_some,D]at h;have J:kG v=true:=by
     split at h
     next e=>injection e with e;subst e;rfl
     ·cases h
    simp only[Option.bind_some,E _ _ _ C D J];exact h
theorem W5(D:qd w w' ah ρ)(k:aa Nat)(u:Value)(E:kG u=true)(h:cm w ah ρ k=some u):cm w' ah ρ k=some u:=by
 match k,h with
 |[],h=>simp[cm,addrAt]at h
 |[r],h=>exact h
 | x :: y :: q,h=>
  simp only[cm]at h ⊢;cases C:addrAt w ah ρ (x::y::q)with
  |none=>rw[C]at h;cases h
  | some ad=>
   rw[Qi D _ _ C];rw[C]at h;have h:w.cell? ad=some u:=h;exact D _ _ _ C h E
theorem cQ.wrote{x:Lf}{u:Value}(h:cQ w B ah ρ x u)(C:s8 w w' bt)(hl:ah bt=some kt)(D:qd w w' ah ρ):cQ w' B ah ρ x u:=by
 cases x with
 |v x=>exact⟨h.1,h.2.apart hl (.inr h.1) (Nat.le_of_eq C.size.symm) C.block⟩
 |own k=>exact⟨h.1,W5 D k u h.1 h.2⟩
 |dead=>trivial
theorem dg.wrote{cs:aa Lf}{us:Array Value}(h:dg w B ah ρ cs us)(C:s8 w w' bt)(hl:ah bt=some kt)(D:qd w w' ah ρ):dg w' B ah ρ cs us:=
 ⟨h.1,λj x E=>let ⟨u,hu,r⟩:=h.2 j x E;⟨u,hu,r.wrote C hl D⟩⟩
theorem RP.wrote{p:Bool×aa Lf}{u:Value}(h:RP w B ah ρ p u)(C:s8 w w' bt)(hl:ah bt=some kt)(D:qd w w' ah ρ):RP w' B ah ρ p u:=by
 obtain⟨b,cs⟩:=p;cases b with
 |true=>obtain⟨us,e,h⟩:=h;exact⟨us,e,h.wrote C hl D⟩
 |false=>exact dg.wrote h C hl D
theorem RF.wrote{cs:aa V}{u:Value}(h:RF w B ah cs u)(C:s8 w w' bt)(hl:ah bt=some kt):RF w' B ah cs u:=by
 obtain⟨b,off,e,hb,D,h⟩:=h;have I:b≠bt:=by rintro rfl;rw[hl]at D;cases D
 refine⟨b,off,e,by rw[C.size];exact hb,D,λj x J=>?_⟩
 obtain⟨E,v,L,O⟩:=h j x J;exact⟨E,v,(jZ (a:=⟨b,_,none⟩) (C.block b I)).trans L,O.apart hl (.inr E) (Nat.le_of_eq C.size.symm) C.block⟩
theorem RA.wrote{x:A}{u:Value}(h:RA w B ah ρ x u)(C:s8 w w' bt)(hl:ah bt=some kt)(D:qd w w' ah ρ):RA w' B ah ρ x u:=by
 cases x with
 |undef=>trivial
 |skip=>exact h
 |lf x=>exact cQ.wrote h C hl D
 |agg cs=>exact RP.wrote (p:=(true,cs)) h C hl D
 |ct xs=>obtain⟨us,e,E,h⟩:=h;exact⟨us,e,E,λj p I=>let ⟨v,J,r⟩:=h j p I;⟨v,J,r.wrote C hl D⟩⟩
 |ptr k=>obtain⟨ad,e,h⟩:=h;exact⟨ad,e,Qi D _ _ h⟩
 |view k s i j=>obtain⟨A,n,c,h,g⟩:=h;exact⟨A,n,c,W5 D k _ rfl h,g⟩
 |pk r n=>exact h
 |aH r j=>exact h
 |gG cs=>exact RF.wrote h C hl
 |ko f cs=>obtain⟨pv,e,h⟩:=h;exact⟨pv,e,h.wrote C hl⟩
 |fn f cap=>exact h
theorem dH.wrote{r:Nat}{x:aP}(h:dH w B ah ρ r x)(E:s8 w w' bt)(hl:ah bt=some kt)(Q:qd w w' ah ρ)(J:¬ [r] <:+ kt):dH w' B ah ρ r x:=by
 cases h with
 | ax b off cells e cs us D C L U T=>
  have O:b≠bt:=by rintro rfl;rw[hl]at C;injection C with C;subst C;exact J (List.suffix_refl _)
  exact .ax b off cells e cs us D C ((E.block b O).trans L) U (λj x I=>⟨(T j x I).1,(T j x I).2.wrote E hl Q⟩)
 |sl v y D Y=>exact .sl v y D (Y.apart hl (.inl J) (Nat.le_of_eq E.size.symm) E.block)
 | mp b c Z l D C L he=>
  have O:b≠bt:=by rintro rfl;rw[hl]at C;injection C with C;subst C;exact J (List.suffix_refl _)
  exact .mp b c Z l D C ((E.block b O).trans L) he
 |gh us xs D I=>exact .gh us xs D λj x hj=>(I j x hj).wrote E hl Q
theorem Rl.wrote(h:Rl w0 N ah ρ σ a w)(C:s8 w w' bt)(hl:ah bt=some kt)(I:qd w w' ah ρ)(J:∀ r x,m' r=some x->dH w' w0.heap.size ah ρ r x):Rl w0 N ah ρ ⟨σ.t,m'⟩ a w':=by
 have hb:=(h.cH bt kt hl).1;have O:∀ k,k<w0.heap.size->w0.L k=none->k≠bt:=by
  rintro k D E rfl;rcases hb with hb|hb
  ·exact absurd D (Nat.not_lt.2 hb)
  ·exact hb E
 refine⟨⟨C.os.trans h.below.os,C.tape.trans h.below.tape,C.output.trans h.below.output,by rw[C.size];exact h.below.size,λk D E=>(C.block k (O k D E)).trans (h.below.block k D E)⟩,λb k Q=>?_,J,λk=>(h.tmp k).wrote C hl I,h.size,h.defers,h.fix,h.dm⟩
 rw[C.size];exact h.cH b k Q
theorem Qj{r C:Nat}(h:C≠r):¬ [C] <:+ [r]:=by
 intro D;have:=D.eq_of_length rfl;injection this with this;exact h this
theorem Rl.ES{r j:Nat}{cs xs:aa Lf}{us:Array Value}(h:Rl w0 N ah ρ σ a w)(hm:σ.m r=some (.ax cs))(hx:dg w w0.heap.size ah ρ xs us)(hj:j+xs.length<=cs.length):
  ∃b off,ρ r = .ax b off/\w.there b (off+j) us.size/\Rl w0 N ah ρ ⟨σ.t,bL σ.m r (some (.ax (splice cs j xs)))⟩ a (w.setCells b (off+j) us.toList):=by
 have L:=h.root r _ hm;generalize D:aP.ax cs=x at L;cases L with
 |sl=>cases D
 |mp=>cases D
 |gh=>cases D
 | ax b off cells e eM u Y hl Z hs O=>
  injection D with D;subst D;have hlen:us.size=xs.length:=hx.1;have lz:off+j+us.toList.length<=cells.size:=by rw[ke,hlen];omega
  have E:=J8 w b (off+j) us.toList;obtain⟨Q,iw,mR⟩:=Eh b e us.toList (off+j) w cells Z lz;have J:qd w (w.setCells b (off+j) us.toList) ah ρ:=by
   intro k ad v ha T fA;obtain⟨j',i',s',q,rfl,U,_,_,Ql⟩:=uE k ad ha;have dY:ad.block≠b:=by
    intro e;rw[e,hl]at U;injection U with U;obtain⟨v',nG⟩:=Ql r U.symm;rw[Y]at nG;cases nG
   exact(jZ (E.block _ dY)).trans T
  refine⟨b,off,Y,λn hn=>⟨?_,frozen_of_row w b _ cells e Z⟩,h.wrote E hl J λr' y I=>?_⟩
  ·rw[cell_of_row w b _ cells e _ Z];simp;omega
  ·by_cases mS:r'=r
   ·subst mS;rw[bO]at I;injection I with I;subst I
    refine .ax b off Q e _ (λn=>if n<j then u n else if n<j+xs.length then us.getD (n-j) undef else u n) Y hl iw ?_ λn x C=>?_
    ·rw[uF _ _ _ hj,<-ke,mR];have:=uF cells.toList (off+j) us.toList (by simpa using lz);simp only[splice]at this;rw[this]
     simpa using hs
    ·have e2:Q[off+n]?=(splice cells.toList (off+j) us.toList)[off+n]?:=by
      rw[show Q[off+n]?=Q.toList[off+n]? by simp,mR];rfl
     rw[e2,uG _ _ _ (by simpa using lz)];rw[uG _ _ _ hj]at C;by_cases h1:n<j
     ·rw[bk (by omega)];simp only[h1,if_true]at C ⊢;refine⟨?_,(O n x C).2.wrote E hl J⟩;rw[kX];exact(O n x C).1
     ·by_cases h2:n<j+xs.length
      ·rw[bB (by omega),bk (by rw[ke,hlen];omega)];simp only[h1,h2,if_true,if_false]at C ⊢;obtain⟨v,T,L⟩:=hx.2 (n-j) x C;have hg:us.getD (n-j) undef=v:=by rw[gE,T];rfl
       rw[hg];refine⟨?_,L.wrote E hl J⟩;rw[show off+n-(off+j)=n-j by omega,kX];exact T
      ·rw[bB (by omega),bB (by rw[ke,hlen];omega)];simp only[h1,h2,if_false]at C ⊢;refine⟨?_,(O n x C).2.wrote E hl J⟩;rw[kX];exact(O n x C).1
   ·rw[cu _ _ _ mS]at I;exact(h.root r' y I).wrote E hl J (Qj mS)
inductive wY (m:Nat->Option aP):List Nat->V->(Nat->Option aP)->Prop
 |root (r:Nat) (y0 y:V) (h:m r=some (.sl y0)):wY m [r] y (bL m r (some (.sl y)))
 | elem (j i:Nat) (q:List Nat) (t:TC) (o:Nat) (qn:Bool) (l:List (T t)) (y:V) (e:T t) (m':Nat->Option aP) (h:s7 m q (.sl t (o+2) qn l)) (hi:i<l.length) (hj:j<aC t)
   (hd:dec t o (splice (enc t o l[i]) j [y])=some e) (hp:wY m q (.sl t (o+2) qn (l.set i e)) m'):wY m (j::i::aC t::q) y m'
theorem Qm{α:Type}{a b c:aa α}(D:a <:+ c)(hb:b <:+ c)(h:a.length=b.length):a=b:=by
 obtain⟨x,E⟩:=D;obtain⟨y,C⟩:=hb;rw[<-E]at C;exact((List.append_inj' C h.symm).2).symm
theorem RV.J9{q:aa Nat}{t:TC}{o:Nat}{O:Bool}{l:aa (T t)}{i j:Nat}{xs:aa V}{e:T t}{b cap:Nat}{cs eM:Array Value}{u us:Nat->Nat->Value}
  (hl:ah b=some q) (hh:w'.heap[b]?=some (.cells eM (tid t) (0,0))) (hs:eM.size=cap*aC t) (hn:l.length<=cap) (hm:cap<=maxLen/\(O=true->cap=l.length)) (hi:i<l.length) (hj:j+xs.length<=aC t)
  (hd:dec t o (splice (enc t o l[i]) j xs)=some e)
  (Q:∀D (h:D<l.length) (C:Nat) x,(enc t o l[D])[C]?=some x->¬ (D=i/\j<=C/\C<j+xs.length)->eM[D*aC t+C]?=some (u D C)/\RV w' B ah (C::D::aC t::q) x (u D C))
  (hx:∀(n:Nat) x,xs[n]?=some x->eM[i*aC t+(j+n)]?=some (us i (j+n))/\RV w' B ah ((j+n)::i::aC t::q) x (us i (j+n))):
  RV w' B ah q (.sl t (o+2) O (l.set i e)) (.slice (some ⟨b,0,none⟩) l.length cap):=by
 have hlen:(l.set i e).length=l.length:=jE;have key:∀ D (h:D<(l.set i e).length) (C:Nat) x,(enc t o (l.set i e)[D])[C]?=some x->
   ∃v,eM[D*aC t+C]?=some v/\RV w' B ah (C::D::aC t::q) x v:=by
  intro D h C x E;rw[List.getElem_set]at E;by_cases W7:i=D
  ·subst W7;rw[bk rfl]at E;have hk:=lu t o _ e hd;have qP:C<(enc t o e).length:=(c7.1 E).1;rw[<-hk.1]at qP;have I:=bK qP;generalize (splice (enc t o l[i]) j xs)[C]=y at I;have U:=hk.2 C y x I E;rw[uG _ _ _ (by rw[jn];exact hj)]at I;by_cases Y:C<j
   ·rw[bk Y]at I;obtain⟨J,L⟩:=Q i hi C y I (by omega);exact⟨_,J,L.wk U⟩
   ·by_cases h2:C<j+xs.length
    ·rw[bB Y,bk h2]at I;obtain⟨J,L⟩:=hx (C-j) y I;rw[show j+(C-j)=C by omega]at J L;exact⟨_,J,L.wk U⟩
    ·rw[bB Y,bB h2]at I;obtain⟨J,L⟩:=Q i hi C y I (by omega);exact⟨_,J,L.wk U⟩
  ·rw[bB W7]at E;obtain⟨J,L⟩:=Q D (by rw[<-hlen];exact h) C x E (by omega);exact⟨_,J,L⟩
 rw[<-hlen]
 refine .own q t o O (l.set i e) b cap eM (λD C=>(eM[D*aC t+C]?).getD undef) hl hh hs (by rw[hlen];exact hn) ⟨hm.1,λh=>by rw[hlen];exact hm.2 h⟩ (λD h C x E=>?_) (λD h C x E=>?_)
 ·obtain⟨v,Z,_⟩:=key D h C x E;rw[Z];rfl
 ·obtain⟨v,Z,hr⟩:=key D h C x E;rw[Z];exact hr
theorem W8{r:Nat}{q:aa Nat}(h:[r] <:+ q){C:Nat}(D:[C] <:+ q):C=r:=by
 have:=Qm D h rfl;injection this
theorem wY.ok{q:aa Nat}{y:V}(h:wY m q y m')(Z:∀ r x,m r=some x->dH w B ah ρ r x)(L:s8 w w' bt)(hl:ah bt=some kt)(O:q <:+ kt)(hC:qd w w' ah ρ){I:Value}(C:cm w ah ρ q=some I)(hy:RV w' B ah q y I):
  ∀r x,m' r=some x->dH w' B ah ρ r x:=by
 induction h generalizing I with
 | root r y0 y h=>
  intro T x D;by_cases J:T=r
  ·subst J;rw[bO]at D;injection D with D;subst D;simp only[cm]at C;cases Q:ρ T with
   |ax b off=>rw[Q]at C;cases C
   |bM us=>rw[Q]at C;cases C
   | de v=>
    rw[Q]at C;injection C with C;subst C;exact .sl v y Q hy
  ·rw[cu _ _ _ J]at D;exact(Z T x D).wrote L hl hC (λU=>J (W8 O U))
 | elem j i q t o qn l y e m' h hi hj hd hp ih=>
  obtain⟨nG,zk,gH⟩:=h.ok Z;have hqk:q <:+ kt:=List.IsSuffix.trans ⟨[j,i,aC t],rfl⟩ O;cases gH with
  |cG=>simp at hi
  |cL=>simp at hi
  |cV=>simp at hi
  |aA _ _ _ _ _ _ _ _ _ ho=>omega
  | own _ _ _ _ _ b cap cs us E hh U hn qQ hc J=>
   have dY:b≠bt:=by
    rintro rfl;rw[hl]at E;injection E with E;subst E;have:=O.length_le;simp at this;omega
   have hz:=Nat.le_of_eq L.size.symm
   refine ih hqk zk (RV.J9 (us:=λ_ _=>I) (u:=us) (cs:=cs) (xs:=[y]) E ((L.block b dY).trans hh) U hn qQ hi (show j+1<=aC t from hj) hd (λi' h' j' x D ET=>⟨hc i' h' j' x D,(J i' h' j' x D).apart hl (.inl λmT=>ET ?_) hz L.block⟩) (λn x D=>?_))
   ·have:=Qm mT O rfl;injection this with e1 Y;injection Y with Y _;subst e1 Y;exact⟨rfl,dV _,by simp⟩
   ·cases n with
    |succ n=>simp at D
    | zero=>
     simp at D;subst D;refine⟨?_,hy⟩;rw[J7,zj j i (aC t) zk E]at C;have C:w.cell? ⟨b,i*aC t+j,none⟩=some I:=C;rw[cell_of_row w b _ cs _ _ hh]at C;exact C
theorem RV.W9{q:aa Nat}{x:V}{v:Value}(h:RV w B ah q x v)(C:x.plain=true):kG v=false:=by
 cases h<;>first|rfl|cases C
theorem RV.rX{q C:aa Nat}{x:V}{v:Value}{B':Nat}{aD:bA}(h:RV w B ah q x v)(D:x.plain=true):RV w' B' aD C x v:=by
 cases h<;>first|exact .int _ _ _|exact .bool _ _|exact .str _ _|cases D
theorem Rl.ahL{j i:Nat}{q:aa Nat}{t:TC}{o:Nat}{qn:Bool}{l:aa (T t)}{xs:aa V}{us:Array Value}{e:T t}(h:Rl w0 N ah ρ σ a w)(hg:s7 σ.m q (.sl t (o+2) qn l))(hi:i<l.length)(hj:j+xs.length<=aC t)
  (hd:dec t o (splice (enc t o l[i]) j xs)=some e) (hold:∀(n:Nat) x,n<xs.length->(enc t o l[i])[j+n]?=some x->x.plain=true) (hxp:∀x∈xs,x.plain=true) (kH:us.size=xs.length) (hx:∀(n:Nat) x,xs[n]?=some x->∃u,us[n]?=some u/\RV w w0.heap.size ah [] x u)
  (hp:wY σ.m q (.sl t (o+2) qn (l.set i e)) m'):
  ∃b,addrAt w ah ρ (j::i::aC t::q)=some ⟨b,i*aC t+j,none⟩/\w.there b (i*aC t+j) us.size/\Rl w0 N ah ρ ⟨σ.t,m'⟩ a (w.setCells b (i*aC t+j) us.toList):=by
 obtain⟨nG,zk,gH⟩:=hg.ok h.root;cases gH with
 |cG=>simp at hi
 |cL=>simp at hi
 |cV=>simp at hi
 |aA _ _ _ _ _ _ _ _ _ ho=>omega
 | own _ _ _ _ _ b cap cs u L U hs hn qQ Z hr=>
  have zl:i*aC t+aC t<=cap*aC t:=by
   have:(i+1)*aC t<=cap*aC t:=gS _ (by omega);rw[fQ]at this;exact this
  have lz:i*aC t+j+us.toList.length<=cs.size:=by rw[ke,kH,hs];omega
  have O:=J8 w b (i*aC t+j) us.toList;obtain⟨I,iw,mR⟩:=Eh b (tid t) us.toList (i*aC t+j) w cs U lz;have rY:∀ n,I[n]?=if n<i*aC t+j then cs[n]? else if n<i*aC t+j+xs.length then us[n-(i*aC t+j)]? else cs[n]?:=by
   intro n;have e2:I[n]?=(splice cs.toList (i*aC t+j) us.toList)[n]?:=by
    rw[show I[n]?=I.toList[n]? by simp,mR];rfl
   rw[e2,uG _ _ _ (by simpa using lz),ke,kH];simp
  have EU:I.size=cs.size:=by
   rw[<-ke,mR];have:=uF cs.toList (i*aC t+j) us.toList (by simpa using lz);simp only[splice]at this;rw[this];simp
  have hC:qd w (w.setCells b (i*aC t+j) us.toList) ah ρ:=by
   intro k ad v ha D fA;by_cases dY:ad.block=b
   ·obtain⟨J,C,s',q',rfl,Qn,ahM,uH,_⟩:=uE k ad ha;have qR:ad=⟨b,ad.off,none⟩:=by cases ad;simp_all
    rw[qR,cell_of_row w b _ cs _ _ U]at D;rw[qR,cell_of_row _ b _ I _ _ iw,rY];by_cases h1:ad.off<i*aC t+j
    ·rw[bk h1];exact D
    ·by_cases h2:ad.off<i*aC t+j+xs.length
     ·exfalso;have hjs:ad.off-(i*aC t+j)<xs.length:=by omega
      have uI:j+(ad.off-(i*aC t+j))<(enc t o l[i]).length:=by rw[jn];omega
      have Y:=bK uI;generalize (enc t o l[i])[j+(ad.off-(i*aC t+j))]=y at Y;have wZ:=hold _ y hjs Y;have Q:=Z i hi _ y Y;rw[show i*aC t+(j+(ad.off-(i*aC t+j)))=ad.off by omega]at Q;rw[D]at Q;injection Q with Q;have:=(hr i hi _ y Y).W9 wZ;rw[<-Q,fA]at this;cases this
     ·rw[bB h1,bB h2];exact D
   ·exact(jZ (O.block _ dY)).trans D
  refine⟨b,zj j i (aC t) zk L,λn uJ=>⟨?_,frozen_of_row w b _ cs _ U⟩,h.wrote O L hC (hp.ok h.root O L (List.suffix_refl _) hC zk ?_)⟩
  ·rw[cell_of_row w b _ cs _ _ U];simp;omega
  ·refine RV.J9 (u:=u) (us:=λ_ n=>us.getD (n-j) undef) (cs:=cs) (xs:=xs) L iw (EU.trans hs) hn qQ hi hj hd (λC h' J x E ET=>?_) (λn x E=>?_)
   ·have qP:J<aC t:=by have:=(c7.1 E).1;rwa [jn]at this
    refine⟨?_,(hr C h' J x E).apart L (.inl λmT=>?_) (Nat.le_of_eq O.size.symm) O.block⟩
    ·rw[rY];have zm:¬ (¬ C*aC t+J<i*aC t+j/\C*aC t+J<i*aC t+j+xs.length):=by
      rintro⟨h1,h2⟩;rcases Nat.lt_trichotomy C i with dn|heq|Cc
      ·have:(C+1)*aC t<=i*aC t:=gS _ dn;rw[fQ]at this;omega
      ·subst heq;exact ET ⟨rfl,by omega,by omega⟩
      ·have:(i+1)*aC t<=C*aC t:=gS _ Cc;rw[fQ]at this;omega
     split
     ·exact Z C h' J x E
     ·rw[bB (by omega)];exact Z C h' J x E
    ·have:=mT.length_le;simp at this;omega
   ·obtain⟨v,D,zn⟩:=hx n x E;have uJ:n<xs.length:=(c7.1 E).1;have Cd:us.getD (j+n-j) undef=v:=by rw[show j+n-j=n by omega,gE,D];rfl
    show I[_]?=some (us.getD (j+n-j) undef)/\RV _ _ _ _ _ (us.getD (j+n-j) undef);rw[Cd,rY,bB (by omega),bk (by omega)];refine⟨?_,zn.rX (hxp x (fL E))⟩;rw[show i*aC t+(j+n)-(i*aC t+j)=n by omega];exact D
end
def Ce:Value->A
 |.bool b=>.lf (.v (.bool b))
 |.int k n=>.lf (.v (.int k n))
 |.string s=>.lf (.v (.str s))
 |.slice none 0 0=>.lf (.v .nil)
 |_=>.undef
def aE(σ:S):Operand->A
 |.tmp t=>σ.t t
 |.const v=>Ce v
 |.func f=>.fn f []
 |.global _=>.undef
def gI{X:Type}(N:Nat)(σ:S)(C:aj Tmp)(x:A)(k:S->aj X):aj X:=
 match C with
 |none=>k σ
 |some d=>bif Nat.blt d N then k (σ.set d x)else none
def lA(P:Program)(w0:Wd)(N:Nat)(o:Oper)(σ D:S):Prop:=
 ∀a w K Q,R w0 N σ a w->(∀C w',R w0 N D C w'->K C w')->o.wp P a w K Q
section
variable {P:Program} {w:World} {w0:Wd} {B N:Nat} {ah:bA} {ρ:Nat->Loc} {σ:S} {a:Act} {X:Type} {r:X} {k:S->aj X} {o:Oper}
theorem ahN(v:Value):RA w B ah ρ (Ce v) v:=by
 unfold Ce;split
 ·exact⟨rfl,.bool _ _⟩
 ·exact⟨rfl,.int _ _ _⟩
 ·exact⟨rfl,.str _ _⟩
 ·exact⟨rfl,.nil _⟩
 ·trivial
theorem Rl.aE(h:Rl w0 N ah ρ σ a w)(x:Operand):RA w w0.heap.size ah ρ (aE σ x) (a.eval x):=by
 cases x with
 |tmp t=>exact h.tmp t
 |const v=>exact ahN v
 |func f=>exact⟨#[],rfl,rfl,by simp⟩
 |global g=>trivial
theorem lA.val{x:A}(C:gI N σ o.dst x k=some r)(h:∀ ah ρ a w,Rl w0 N ah ρ σ a w->∃ v,(execOp a.eval o).run P w = .ok (.value v) w/\RA w w0.heap.size ah ρ x v):∃ L,k L=some r/\lA P w0 N o σ L:=by
 unfold gI at C;split at C
 ·rename_i D
  refine⟨σ,C,λa w K Q hR E=>?_⟩
  obtain⟨ah,ρ,hl⟩:=hR;obtain⟨v,I,O⟩:=h ah ρ a w hl;unfold Oper.wp;rw[I,Oper.upon_value,D];exact E _ _ ⟨ah,ρ,hl⟩
 ·rename_i d D;cases J:Nat.blt d N with
  |false=>rw[J]at C;cases C
  | true=>
   rw[J]at C
   refine⟨_,C,λa w K Q hR E=>?_⟩
   obtain⟨ah,ρ,hl⟩:=hR;obtain⟨v,I,O⟩:=h ah ρ a w hl;unfold Oper.wp;rw[I,Oper.upon_value,D];exact E _ _ ⟨ah,ρ,hl.set O (by have:=cB J;omega)⟩
/-! Contents of leaves. -/
def fK{X:Type}(m:Nat->aj aP):aa Nat->(V->aj X)->aj X
 | [r],k=>match m r with
  |some (.sl y)=>k y
  |_=>none
 | j :: i :: s :: q,k=>fK m q λy=>match y with
  |.sl t (o+2) _ l=>if s=aC t then (if h:i<l.length then (match (enc t o l[i])[j]? with|some z=>k z|none=>none)else none)else none
  |_=>none
 |_,_=>none
theorem qS{m:Nat->aj aP}:∀ (q:aa Nat) (k:V->aj X),fK m q k=some r->∃ y,s7 m q y/\k y=some r
 |[],_,h=>by simp[fK]at h
 | [x],k,h=>by
  simp only[fK]at h;split at h
  next y D=>exact⟨y,.root x y D,h⟩
  ·cases h
 |[_,_],_,h=>by simp[fK]at h
 | j :: i :: s :: q,k,h=>by
  simp only[fK]at h;obtain⟨y,D,C⟩:=qS q _ h;clear h;split at C
  ·split at C
   ·rename_i E;subst E;split at C
    ·rename_i hi;split at C
     next z I=>exact⟨z,.elem j i q _ _ _ _ z D hi I,C⟩
     ·cases C
    ·cases C
   ·cases C
  ·cases C
def gJ{X:Type}(σ:S)(x:Lf)(k:V->aj X):aj X:=
 match x with
 |.v y=>k y
 |.own q=>fK σ.m q k
 |.dead=>none
theorem RV.part{q:aa Nat}{C:TC}{g:Nat}{O:Bool}{xs:aa (T C)}{A:aj Addr}{n c a h:Nat}(I:RV w B ah q (.sl C g O xs) (.slice A n c))(J:g<2)(h1:a<=h)(E:h<=xs.length):RV w B ah q (.sl C g false ((xs.take h).drop a)) (sliced A a h c (aC C))/\n=xs.length/\xs.length<=c:=by
 have hlen:((xs.take h).drop a).length=h-a:=by simp;omega
 cases I with
 | cG=>
  have:a=0:=by simp at E;omega
  have:h=0:=by simpa using E
  subst_vars
  exact⟨.cG _ _ _,rfl,dV _⟩
 | cL=>
  have:h=0:=by simpa using E
  subst this;have:a=0:=by omega
  subst this;exact⟨by unfold sliced;split<;>exact .cL _ _ _ _ _ J,rfl,gn _⟩
 | cV=>
  have:h=0:=by simpa using E
  subst this;have:a=0:=by omega
  subst this;exact⟨by unfold sliced;split<;>exact .cL _ _ _ _ _ J,rfl,gn _⟩
 |own=>omega
 | aA _ _ _ _ _ b off cap u Q hl hb hB U Y I=>
  refine⟨?_,rfl,U⟩;by_cases Z:a=h
  ·subst Z;have e0:(xs.take a).drop a=[]:=List.eq_nil_of_length_eq_zero (by rw[hlen];omega);rw[e0];unfold sliced;rw[Nat.sub_self];split<;>exact .cL _ _ _ _ _ J
  ·unfold sliced;rw[bB (by omega),<-hlen];have Eg:(some (⟨b,off,none⟩:Addr)).map (·.add (a*aC C))=some ⟨b,off+a*aC C,none⟩:=by
    simp only[gF];unfold Addr.add;split<;>simp_all
   rw[Eg];have L:∀ i (hi:i<((xs.take h).drop a).length),((xs.take h).drop a)[i]=xs[a+i]'(by omega):=by
    intro i hi;rw[List.getElem_drop,List.getElem_take]
   refine .aA _ _ _ _ _ b (off+a*aC C) (c-a) (λi j=>u (a+i) j) Q hl hb hB (by omega) (λi hi j x D=>?_) (λi hi j x D=>?_)
   ·rw[L i hi]at D;have:=Y (a+i) (by omega) j x D;rw[<-this];congr 2;rw[Nat.add_mul];omega
   ·rw[L i hi]at D;exact I (a+i) (by omega) j x D
def Xa(s i j:Nat):V->aj V
 |.sl t _ _ l=>bif Nat.beq s (aC t)then some (.sl t 0 false ((l.take j).drop i))else none
 |_=>none
def qT{X:Type}(σ:S)(q:aa Nat)(s i j:Nat)(k:V->aj X):aj X:=
 fK σ.m q λy=>match Xa s i j y with
  |some z=>k z
  |none=>none
def o6{X:Type}(σ:S)(y:A)(k:V->aj X):aj X:=
 match y with
 |.lf l=>gJ σ l k
 |.view q s i j=>qT σ q s i j k
 |_=>none
theorem Xb{q:aa Nat}{s i j:Nat}{k:V->aj X}(h:qT σ q s i j k=some r):∃ z,k z=some r/\z.aA=true/\∀ w0 N ah ρ a w,Rl w0 N ah ρ σ a w->∀ u,RA w w0.heap.size ah ρ (.view q s i j) u->∀ B',RV w B' (λ_=>none) [] z u:=by
 obtain⟨y,L,E⟩:=qS q _ h;clear h;split at E
 ·rename_i z C;unfold Xa at C;split at C
  ·rename_i t g O l;cases I:Nat.beq s (aC t)with
   |false=>rw[I]at C;cases C
   | true=>
    rw[I,ak]at C;obtain rfl:=bQ I;injection C with C;subst C
    refine⟨_,E,rfl,λw0 N ah ρ a w hR u Q B'=>?_⟩
    obtain⟨A,n,c,T,U,Z,rfl⟩:=Q;obtain⟨v,D,Y⟩:=L.ok hR.root;rw[T]at D;injection D with D;subst D;have J:RV w B' (λ_=>none) [] (.sl t 0 O l) (.slice A n c):=Y.gd;have hn:n=l.length:=by cases J<;>rfl
    exact(J.part (by omega) U (by omega)).1
  ·cases C
 ·cases E
def vK{X:Type}(x:A)(k:V->aj X):aj X:=
 match x with
 |.lf (.v y)=>k y
 |_=>none
theorem Ka{x:A}{k:V->aj X}(h:vK x k=some r):∃ y,x = .lf (.v y)/\k y=some r:=by
 unfold vK at h;split at h
 ·exact⟨_,rfl,h⟩
 ·cases h
theorem RV.gp{q:aa Nat}{k:IntKind}{n:Int}{u:Value}(h:RV w B ah q (.int k n) u):u = .int k n:=by cases h;rfl
theorem RV.w5{q:aa Nat}{n:Bool}{u:Value}(h:RV w B ah q (.bool n) u):u = .bool n:=by cases h;rfl
theorem RV.uK{q:aa Nat}{n:ByteArray}{u:Value}(h:RV w B ah q (.str n) u):u = .string n:=by cases h;rfl
/-! Arithmetic and comparison. -/
def aT(n:Nat):Bool:=decide (n<1073741824)
def l8{X:Type}(P:Program)(ty:TypeId)(op:BinOp)(x y:V)(k:V->aj X):aj X:=
 match x,y with
 | .int C a,.int D b=>match op with
  |.shl=>if b<0 then none else k (.int C (C.wrap (a*2 ^ (min b.toNat C.bits))))
  |.shr=>if b<0 then none else k (.int C (a.fdiv (2 ^ (min b.toNat C.bits))))
  | op=>if C=D then (match op with
   |.add=>k (.int C (C.wrap (a+b)))
   |.sub=>k (.int C (C.wrap (a-b)))
   |.mul=>k (.int C (C.wrap (a*b)))
   |.quo=>if b=0 then none else k (.int C (C.wrap (a.tdiv b)))
   |.rem=>if b=0 then none else k (.int C (a.tmod b))
   |.and=>k (.int C (bits .and C a b))
   |.or=>k (.int C (bits .or C a b))
   |.xor=>k (.int C (bits .xor C a b))
   |.andNot=>k (.int C (bits .andNot C a b))
   |.eql=>k (.bool (a==b))
   |.neq=>k (.bool (a != b))
   |.lss=>k (.bool (decide (a<b)))
   |.leq=>k (.bool (decide (a<=b)))
   |.gtr=>k (.bool (decide (a > b)))
   |.geq=>k (.bool (decide (a >= b)))
   |_=>none)else none
 | .bool a,.bool b=>match P.underlying ty with
  | some .bool=>(match op with
   |.eql=>k (.bool (a==b))
   |.neq=>k (.bool (!(a==b)))
   |_=>none)
  |_=>none
 | .str a,.str b=>match op with
  |.add=>bif aT (a.size+b.size)then k (.str (a++b))else none
  |.eql=>k (.bool (a.toList==b.toList))
  |.neq=>k (.bool (!(a.toList==b.toList)))
  |_=>none
 |_,_=>none
theorem ahO{ty:TypeId}{op:BinOp}{x y:V}{k:V->aj X}(h:l8 P ty op x y k=some r):∃ z,k z=some r/\z.plain=true/\∀ (w:World) (B:Nat) (ah:bA) (E I:Operand) (q J:aa Nat) (u v:Value),RV w B ah q x u->RV w B ah J y v->
  ∃t,(do eqGuard op ty E I u v;binOp op ty u v:Sem Value).run P w = .ok t w/\RV w B ah [] z t:=by
 unfold l8 at h;split at h
 ·rename_i Z a ky b;split at h
  ·split at h
   ·cases h
   ·rename_i hb
    refine⟨_,h,rfl,λw B ah E I q J u v C D=>?_⟩
    obtain rfl:=C.gp;obtain rfl:=D.gp;exact⟨_,by simp[eqGuard,binOp,Op.shift,hb],.int _ _ _⟩
  ·split at h
   ·cases h
   ·rename_i hb
    refine⟨_,h,rfl,λw B ah E I q J u v C D=>?_⟩
    obtain rfl:=C.gp;obtain rfl:=D.gp;exact⟨_,by simp[eqGuard,binOp,Op.shift,hb],.int _ _ _⟩
  ·rename_i Q T;split at h
   ·rename_i U;subst U;cases op
    case shl=>exact absurd rfl Q
    case shr=>exact absurd rfl T
    case quo=>
     by_cases hb:b=0
     ·simp only[hb,if_true]at h;cases h
     ·simp only[hb,if_false]at h
      refine⟨_,h,rfl,λw B ah E I q J u v C D=>?_⟩
      obtain rfl:=C.gp;obtain rfl:=D.gp;exact⟨_,by simp[eqGuard,binOp,Op.intDiv,hb],.int _ _ _⟩
    case rem=>
     by_cases hb:b=0
     ·simp only[hb,if_true]at h;cases h
     ·simp only[hb,if_false]at h
      refine⟨_,h,rfl,λw B ah E I q J u v C D=>?_⟩
      obtain rfl:=C.gp;obtain rfl:=D.gp;exact⟨_,by simp[eqGuard,binOp,Op.intDiv,hb],.int _ _ _⟩
    all_goals first
     | (refine⟨_,h,rfl,λw B ah E I q J u v C D=>?_⟩
        obtain rfl:=C.gp;obtain rfl:=D.gp
        first
         |(refine⟨_,?_,.int _ _ _⟩;simp[eqGuard,binOp,Op.intArith];done)
         |(refine⟨_,?_,.int _ _ _⟩;simp[eqGuard,binOp,intBits_and,intBits_or,intBits_xor,intBits_andNot];done)
         |(refine⟨_,?_,.bool _ _⟩;simp[eqGuard,binOp,Op.intCmp];done))
     |cases h
   ·cases h
 ·rename_i a b;split at h
  ·rename_i O;split at h
   ·refine⟨_,h,rfl,λw B ah E I q J u v C D=>?_⟩
    obtain rfl:=C.w5;obtain rfl:=D.w5;have e:binOp .eql ty (.bool a) (.bool b)=(do pure (.bool (<-Op.equal ty (.bool a) (.bool b)))):=rfl;have g:eqGuard .eql ty E I (.bool a) (.bool b)=pure ():=rfl;exact⟨_,by rw[e,g,eC,Sem.run_pure,iD,eC,run_equal_bool _ _ _ _ O];rfl,.bool _ _⟩
   ·refine⟨_,h,rfl,λw B ah E I q J u v C D=>?_⟩
    obtain rfl:=C.w5;obtain rfl:=D.w5;have e:binOp .neq ty (.bool a) (.bool b)=(do pure (.bool (!(<-Op.equal ty (.bool a) (.bool b))))):=rfl;have g:eqGuard .neq ty E I (.bool a) (.bool b)=pure ():=rfl;exact⟨_,by rw[e,g,eC,Sem.run_pure,iD,eC,run_equal_bool _ _ _ _ O];rfl,.bool _ _⟩
   ·cases h
  ·cases h
 ·rename_i a b;split at h
  ·cases L:aT (a.size+b.size)with
   |false=>rw[L]at h;cases h
   | true=>
    rw[L]at h
    refine⟨_,h,rfl,λw B ah E I q J u v C D=>?_⟩
    obtain rfl:=C.uK;obtain rfl:=D.uK;have hL':a.size+b.size<1073741824:=by simpa [aT]using L
    refine⟨_,?_,.str _ _⟩;have Y:IntKind.i64.max=9223372036854775807:=rfl;simp only[eqGuard,binOp,Op.stringOp,Y];simp;omega
  ·refine⟨_,h,rfl,λw B ah E I q J u v C D=>?_⟩
   obtain rfl:=C.uK;obtain rfl:=D.uK;exact⟨_,by simp[eqGuard,binOp,Op.stringOp],.bool _ _⟩
  ·refine⟨_,h,rfl,λw B ah E I q J u v C D=>?_⟩
   obtain rfl:=C.uK;obtain rfl:=D.uK;exact⟨_,by simp[eqGuard,binOp,Op.stringOp],.bool _ _⟩
  ·cases h
 ·cases h
def Cf{X:Type}(op:UnOp)(x:V)(k:V->aj X):aj X:=
 match op,x with
 |.not,.bool b=>k (.bool (!b))
 |.neg,.int C n=>k (.int C (C.wrap (0-n)))
 |_,_=>none
theorem ahP{op:UnOp}{x:V}{k:V->aj X}(h:Cf op x k=some r):∃ z,k z=some r/\z.plain=true/\∀ (w:World) (B:Nat) (ah:bA) (q:aa Nat) (u:Value),RV w B ah q x u->∃ t,(Op.unary op u).run P w = .ok t w/\RV w B ah [] z t:=by
 unfold Cf at h;split at h
 ·refine⟨_,h,rfl,λw B ah q u C=>?_⟩
  obtain rfl:=C.w5;exact⟨_,by simp[Op.unary],.bool _ _⟩
 ·refine⟨_,h,rfl,λw B ah q u C=>?_⟩
  obtain rfl:=C.gp;exact⟨_,by simp[Op.unary,Op.intArith],.int _ _ _⟩
 ·cases h
theorem V.EV{x:V}(h:x.plain=true):x.aA=true:=by cases x<;>first|rfl|cases h
end
def ja(P:Program)(t:TypeId):aj Nat:=(P.info? t).map (·.size)
def Cg(P:Program)(t:TypeId):aj Bool:=
 match P.underlying t with
 |some (.struct _)|some (.array _ _)=>some true
 |some _=>some false
 |none=>none
def o7(P:Program)(t:TypeId):aj TypeId:=
 match P.underlying t with
 |some (.slice e)=>some e
 |_=>none
def EW(P:Program)(s:TypeId)(f:Nat):aj Field:=
 match P.underlying s with
 |some (.struct C)=>C[f]?
 |_=>none
def jL{X:Type}(P:Program)(t:TypeId)(cs:aa Lf)(k:A->aj X):aj X:=
 match ja P t with
 | some n=>if cs.length=n then (match Cg P t with
  |some true=>k (.agg cs)
  | some false=>(match cs with
   |[y]=>k (.lf y)
   |_=>none)
  |none=>none)else none
 |none=>none
def leaves(key:Nat->aa Nat):Nat->aa V->aa Lf
 |_,[]=>[]
 |j,z::C=>(bif z.aA then .v z else .own (key j))::leaves key (j+1) C
def iG{X:Type}(P:Program)(σ:S)(t:TypeId)(x:A)(k:A->aj X):aj X:=
 match ja P t with
 |none=>none
 | some n=>match x with
  | .aH r j=>(match σ.m r with
   |some (.ax cs)=>jL P t ((cs.drop j).take n) k
   |_=>none)
  |.gG cs=>jL P t ((cs.take n).map .v) k
  | .ptr (j :: i :: s :: q)=>fK σ.m q λy=>(match y with
   |.sl C (o+2) _ l=>if s=aC C then (if h:i<l.length then jL P t (leaves (λD=>D::i::s::q) j (((enc C o l[i]).drop j).take n)) k else none)else none
   |_=>none)
  |_=>none
section
variable {P:Program} {w:World} {w0:Wd} {B N:Nat} {ah:bA} {ρ:Nat->Loc} {σ:S} {a:Act} {X:Type} {r:X} {o:Oper}
theorem Qo(key:Nat->aa Nat):∀ (j:Nat) (C:aa V) (n:Nat),(leaves key j C)[n]?=(C[n]?).map λz=>bif z.aA then .v z else .own (key (j+n))
 |_,[],n=>by simp[leaves]
 |j,z::C,0=>by simp[leaves]
 | j,z :: C,n+1=>by
  simp only[leaves,List.getElem?_cons_succ,Qo key (j+1) C n];rw[show j+1+n=j+(n+1) by omega]
theorem Qp{t:TypeId}{cs:aa Lf}{k:A->aj X}(h:jL P t cs k=some r):∃ x,k x=some r/\∀ (w:World) (B:Nat) (ah:bA) (ρ:Nat->Loc) (b o:Nat) (D:aa Value),dg w B ah ρ cs D.toArray->w.rangeAt b o D->
  ∃v,(Instr.loadAt t (.pointer (some ⟨b,o,none⟩))).run P w = .ok v w/\RA w B ah ρ x v:=by
 unfold jL at h;split at h
 ·rename_i n L;split at h
  ·rename_i hlen;split at h
   ·rename_i C
    refine⟨_,h,λw B ah ρ b o D hl I=>?_⟩
    have J:D.length=n:=by have:=hl.1;simpa [hlen]using this
    unfold Cg at C;split at C
    next Y E=>exact⟨_,run_loadAt_mid w b o t D _ I E rfl (by rw[J];exact L),_,rfl,hl⟩
    next c e E=>exact⟨_,run_loadAt_mid w b o t D _ I E rfl (by rw[J];exact L),_,rfl,hl⟩
    ·cases C
    ·cases C
   ·rename_i C;split at h
    ·rename_i y
     refine⟨_,h,λw B ah ρ b o D hl I=>?_⟩
     have J:D.length=1:=by have:=hl.1;simpa using this
     obtain⟨v,rfl⟩:=List.length_eq_one_iff.1 J;have O:w.cell? ⟨b,o,none⟩=some v:=I 0 v rfl;obtain⟨u,E,hR⟩:=hl.2 0 y rfl;have:v=u:=by simpa using E
     subst this;refine⟨v,?_,hR⟩;unfold Cg at C;split at C
     ·cases C
     ·cases C
     ·rename_i d Q T E;have U:(isAgg t).run P w = .ok false w:=by
       unfold isAgg;rw[eC,gy E w];cases d<;>first|rfl|(rename_i x;exact absurd rfl (Q x))|(rename_i x y;exact absurd rfl (T x y))|simp_all
      simp[Instr.loadAt,Instr.sureAddr,loadVar,eC,U,load,Sem.run,O]
     ·cases C
    ·cases h
   ·cases h
  ·cases h
 ·cases h
theorem Kb{α:Type}(l:aa α)(j n i:Nat)(x:α)(h:((l.drop j).take n)[i]?=some x):i<n/\l[j+i]?=some x:=by
 rw[List.getElem?_take]at h;split at h
 next hi=>rw[List.getElem?_drop]at h;exact⟨hi,h⟩
 ·cases h
theorem Xc{t:TypeId}{x:A}{k:A->aj X}(h:iG P σ t x k=some r):∃ y,k y=some r/\∀ ah ρ a w,Rl w0 N ah ρ σ a w->∀ u,RA w w0.heap.size ah ρ x u->
  ∃v,(Instr.loadAt t u).run P w = .ok v w/\RA w w0.heap.size ah ρ y v:=by
 unfold iG at h;split at h
 ·cases h
 ·rename_i n hn;split at h
  ·rename_i r' j;split at h
   ·rename_i cs iQ;obtain⟨y,T,U⟩:=Qp h
    refine⟨y,T,λah ρ a w hR u Y=>?_⟩
    obtain⟨b,off,di,rfl⟩:=Y;have J:=hR.root r' _ iQ;generalize O:aP.ax cs=x at J;cases J with
    |sl=>cases O
    |mp=>cases O
    |gh=>cases O
    | ax b' zo cells e eM us js hl hh hs Q=>
     injection O with O;subst O;rw[di]at js;injection js with e1 e2;subst e1 e2
     refine U w _ ah ρ b (off+j) (((cs.drop j).take n).mapIdx λi _=>us (j+i)) ⟨by simp,λi x C=>?_⟩ (λi v D=>?_)
     ·obtain⟨hi,og⟩:=Kb _ _ _ _ _ C;refine⟨us (j+i),?_,(Q _ x og).2⟩;simp only[List.getElem?_toArray,List.getElem?_mapIdx,C,gF]
     ·rw[List.getElem?_mapIdx]at D;cases C:((cs.drop j).take n)[i]? with
      |none=>rw[C]at D;cases D
      | some x=>
       rw[C]at D;injection D with D;subst D;obtain⟨hi,og⟩:=Kb _ _ _ _ _ C;rw[cell_of_row w b _ cells _ _ hh,Nat.add_assoc];exact(Q _ x og).1
   ·cases h
  ·rename_i cs;obtain⟨y,T,U⟩:=Qp h
   refine⟨y,T,λah ρ a w hR u Y=>?_⟩
   obtain⟨b,off,rfl,hb,hl,Q⟩:=Y;have Z:∀ (i:Nat) (x:Lf),((cs.take n).map Lf.v)[i]?=some x->∃ z v,x = .v z/\z.aA=true/\w.cell? ⟨b,off+i,none⟩=some v/\RV w w0.heap.size ah [] z v:=by
    intro i x C;rw[cO]at C;cases I:(cs.take n)[i]? with
    |none=>rw[I]at C;cases C
    | some z=>
     rw[I]at C;injection C with C;rw[List.getElem?_take]at I;split at I
     ·obtain⟨o8,v,D,J⟩:=Q i z I;exact⟨z,v,C.symm,o8,D,J⟩
     ·cases I
   refine U w _ ah ρ b off (((cs.take n).map Lf.v).mapIdx λi _=>(w.cell? ⟨b,off+i,none⟩).getD undef) ⟨by simp,λi x C=>?_⟩ (λi v D=>?_)
   ·obtain⟨z,v,rfl,o8,D,J⟩:=Z i x C;refine⟨v,?_,o8,J⟩;simp only[List.getElem?_toArray,List.getElem?_mapIdx,C,gF,D,Option.getD_some]
   ·rw[List.getElem?_mapIdx]at D;cases C:((cs.take n).map Lf.v)[i]? with
    |none=>rw[C]at D;cases D
    | some x=>
     rw[C]at D;obtain⟨z,v',rfl,o8,nG,J⟩:=Z i x C;rw[nG]at D;injection D with D;rw[nG];exact bD some D
  ·rename_i j i s q;obtain⟨y0,hg,L⟩:=qS _ _ h;clear h;split at L
   ·rename_i E o' qn l;split at L
    ·rename_i hs;subst hs;split at L
     ·rename_i hi;obtain⟨y,T,U⟩:=Qp L
      refine⟨y,T,λah ρ a w hR u Y=>?_⟩
      obtain⟨ad,rfl,qR⟩:=Y;obtain⟨D,jM,kI⟩:=hg.ok hR.root;cases kI with
      |cG=>simp at hi
      |cL=>simp at hi
      |cV=>simp at hi
      |aA _ _ _ _ _ _ _ _ _ ho=>omega
      | own _ _ _ _ _ b cap cs us o9 hh hs hn qQ Q J=>
       rw[zj j i (aC E) jM o9]at qR;injection qR with qR;subst qR;have Z:∀ (m:Nat) (x:Lf),(leaves (λj'=>j' :: i :: aC E :: q) j (((enc E o' l[i]).drop j).take n))[m]?=some x->cs[i*aC E+(j+m)]?=some (us i (j+m))/\cQ w w0.heap.size ah ρ x (us i (j+m)):=by
        intro m x C;rw[Qo]at C;cases I:(((enc E o' l[i]).drop j).take n)[m]? with
        |none=>rw[I]at C;cases C
        | some z=>
         rw[I]at C;injection C with C;have C:(bif z.aA then Lf.v z else Lf.own ((j+m)::i::aC E::q))=x:=C;obtain⟨_,Ch⟩:=Kb _ _ _ _ _ I;have h3:=Q i hi _ z Ch;have h4:=J i hi _ z Ch;refine⟨h3,?_⟩;cases Ci:z.aA with
         | true=>
          rw[Ci]at C;have C:Lf.v z=x:=C;subst C;exact⟨Ci,h4.key Ci⟩
         | false=>
          rw[Ci]at C;have C:Lf.own ((j+m)::i::aC E::q)=x:=C;subst C;refine⟨?_,?_⟩
          ·exact h4.J5 Ci
          ·rw[J7,zj (j+m) i (aC E) jM o9];show w.cell? _=_;rw[cell_of_row w b _ cs _ _ hh];exact h3
       refine U w _ ah ρ b (i*aC E+j) ((leaves (λj'=>j'::i::aC E::q) j (((enc E o' l[i]).drop j).take n)).mapIdx λm _=>us i (j+m)) ⟨by simp,λm x C=>?_⟩ (λm v D=>?_)
       ·refine⟨us i (j+m),?_,(Z m x C).2⟩;simp only[List.getElem?_toArray,List.getElem?_mapIdx,C,gF]
       ·rw[List.getElem?_mapIdx]at D;cases C:(leaves (λj'=>j' :: i :: aC E :: q) j (((enc E o' l[i]).drop j).take n))[m]? with
        |none=>rw[C]at D;cases D
        | some x=>
         rw[C]at D;injection D with D;subst D;rw[cell_of_row w b _ cs _ _ hh,Nat.add_assoc];exact(Z m x C).1
     ·cases L
    ·cases L
   ·cases L
  ·cases h
end
def A.w6:A->aj (aa Lf)
 |.lf x=>some [x]
 |.agg xs=>some xs
 |_=>none
def Lf.live:Lf->Bool
 |.dead=>false
 |_=>true
def Lf.pl:Lf->aj V
 |.v x=>bif x.plain then some x else none
 |_=>none
def qe:aa Lf->aj (aa V)
 |[]=>some []
 | x :: xs=>match x.pl,qe xs with
  |some y,some ys=>some (y::ys)
  |_,_=>none
def oh{X:Type}(m:Nat->aj aP):aa Nat->V->((Nat->aj aP)->aj X)->aj X
 | [r],y,k=>match m r with
  |some (.sl _)=>k (bL m r (some (.sl y)))
  |_=>none
 | j :: i :: s :: q,y,k=>fK m q λz=>match z with
  | .sl t (o+2) C l=>if s=aC t then (if h:i<l.length then (if j<aC t then (match dec t o (splice (enc t o l[i]) j [y])with
   |some e=>oh m q (.sl t (o+2) C (l.set i e)) k
   |none=>none)else none)else none)else none
  |_=>none
 |_,_,_=>none
def mU{X:Type}(P:Program)(σ:S)(t:TypeId)(x y:A)(k:S->aj X):aj X:=
 match ja P t,y.w6 with
 | some n,some xs=>if xs.length=n then (match x with
  | .aH r j=>(match σ.m r with
   |some (.ax cs)=>if j+n<=cs.length then (bif xs.all Lf.live then k ⟨σ.t,bL σ.m r (some (.ax (splice cs j xs)))⟩else none)else none
   |_=>none)
  | .ptr (j :: i :: s :: q)=>(match qe xs with
   |none=>none
   | some D=>fK σ.m q λy=>(match y with
    | .sl C (o+2) E l=>if s=aC C then (if h:i<l.length then (if j+D.length<=aC C then (bif (((enc C o l[i]).drop j).take D.length).all V.plain then (match dec C o (splice (enc C o l[i]) j D)with
     |some e=>oh σ.m q (.sl C (o+2) E (l.set i e)) λm=>k ⟨σ.t,m⟩
     |none=>none)else none)else none)else none)else none
    |_=>none))
  |_=>none)else none
 |_,_=>none
section
variable {P:Program} {w:World} {w0:Wd} {B N:Nat} {ah:bA} {ρ:Nat->Loc} {σ:S} {a:Act} {X:Type} {r:X} {o:Oper}
theorem Xd{m:Nat->aj aP}:∀ (q:aa Nat) (y:V) (k:(Nat->aj aP)->aj X),oh m q y k=some r->∃ m',wY m q y m'/\k m'=some r
 |[],_,_,h=>by simp[oh]at h
 | [x],y,k,h=>by
  simp only[oh]at h;split at h
  next D E=>exact⟨_,.root x D y E,h⟩
  ·cases h
 |[_,_],_,_,h=>by simp[oh]at h
 | j :: i :: s :: q,y,k,h=>by
  simp only[oh]at h;obtain⟨z,I,C⟩:=qS q _ h;clear h;split at C
  ·split at C
   ·rename_i J;subst J;split at C
    ·rename_i hi;split at C
     ·rename_i L;split at C
      next e O=>obtain⟨m',Q,T⟩:=Xd q _ k C;exact⟨m',.elem j i q _ _ _ _ y e m' I hi L O Q,T⟩
      ·cases C
     ·cases C
    ·cases C
   ·cases C
  ·cases C
theorem Kc:∀ (xs:aa Lf) (D:aa V),qe xs=some D->xs=D.map .v/\∀ v∈D,v.plain=true
 | [],D,h=>by
  simp[qe]at h;subst h;exact⟨rfl,by simp⟩
 | x :: xs,D,h=>by
  unfold qe at h;split at h
  ·rename_i y ys C I;injection h with h;subst h;obtain⟨J,L⟩:=Kc xs ys I;have:x = .v y/\y.plain=true:=by
    cases x with
    | v z=>
     unfold Lf.pl at C;cases E:z.plain with
     | true=>
      simp only[E,ak]at C;injection C with C;subst C;exact⟨rfl,E⟩
     |false=>simp[E]at C
    |own q=>cases C
    |dead=>cases C
   refine⟨by rw[this.1,J];rfl,λv hv=>?_⟩
   rcases fF.1 hv with rfl|hv
   ·exact this.2
   ·exact L v hv
  ·cases h
theorem ahQ{u:Value}(h:u.oneCell'=true):u.cells = #[u]:=by cases u<;>first|rfl|cases h
theorem cQ.one{x:Lf}{u:Value}(h:cQ w B ah ρ x u)(C:x.live=true):u.oneCell'=true:=by
 cases x with
 |v z=>exact h.2.one
 | own k=>
  have:=h.1;cases u<;>first|rfl|cases this
 |dead=>cases C
theorem EX{y:A}{xs:aa Lf}(h:y.w6=some xs)(E:xs.all Lf.live=true){u:Value}(C:RA w B ah ρ y u):dg w B ah ρ xs u.cells/\u.cells.all (·.oneCell')=true:=by
 have key:∀ us:Array Value,dg w B ah ρ xs us->us.all (·.oneCell')=true:=by
  intro us I;rw[Array.all_eq_true];intro i hi;have L:=bK (l:=xs) (i:=i) (by rw[<-I.1];exact hi);obtain⟨v,J,O⟩:=I.2 i _ L;have:us[i]=v:=by rw[Array.getElem?_eq_getElem hi]at J;injection J
  rw[this];exact O.one (cv.1 E _ (cP _))
 cases y with
 | lf x=>
  injection h with h;subst h;have C:cQ w B ah ρ x u:=C;have Q:=C.one (by simpa using E);have:dg w B ah ρ [x] u.cells:=by
   rw[ahQ Q]
   refine⟨rfl,λj y D=>?_⟩
   cases j with
   |zero=>simp at D;subst D;exact⟨u,rfl,C⟩
   |succ j=>simp at D
  exact⟨this,key _ this⟩
 | agg T=>
  injection h with h;subst h;obtain⟨us,rfl,h⟩:=C;exact⟨h,key _ h⟩
 |_=>cases h
theorem Qq(w:World)(b o:Nat)(ty:TypeId)(v:Value)(E:w.there b o v.cells.size)(hi:(P.info? ty).map (·.size)=some v.cells.size)(I:v.cells.all (·.oneCell')=true):
  (Instr.storeAt ty (.pointer (some ⟨b,o,none⟩)) v).run P w = .ok () (w.setCells b o v.cells.toList):=by
 have:=run_storeCells_cells (P:=P) b o v.cells.toList 0 w (λj C=>by simpa using (E j (by simpa using C)).1) (λj C=>by simpa using (E j (by simpa using C)).2)
  (λv J=>(Array.all_eq_true_iff_forall_mem.1 I) v (by simpa using J))
 cases D:P.info? ty with
 |none=>simp[D]at hi
 | some i=>
  have L:v.cells.size=i.size:=by simp[D]at hi;omega
  simp only[Nat.add_zero]at this;simp[Instr.storeAt,Instr.sureAddr,storeVar,sizeOf,typeInfo,D,L,this]
theorem Xe{t:TypeId}{x y:A}{k:S->aj X}(h:mU P σ t x y k=some r):∃ dG,k dG=some r/\∀ ah ρ a w,Rl w0 N ah ρ σ a w->∀ u v,RA w w0.heap.size ah ρ x u->RA w w0.heap.size ah ρ y v->
  ∃w',(Instr.storeAt t u v).run P w = .ok () w'/\Rl w0 N ah ρ dG a w':=by
 unfold mU at h;split at h
 ·rename_i n xs hn qf;split at h
  ·rename_i hlen;split at h
   ·rename_i r' j;split at h
    ·rename_i cs iQ;split at h
     ·rename_i O;cases I:xs.all Lf.live with
      |false=>rw[I]at h;cases h
      | true=>
       rw[I]at h
       refine⟨_,h,λah ρ a w hR u v Q T=>?_⟩
       obtain⟨b,off,di,rfl⟩:=Q;obtain⟨hl,U⟩:=EX qf I T;obtain⟨b',zo,js,Y,Z⟩:=hR.ES iQ hl (by rw[hlen];exact O);rw[di]at js;injection js with e1 e2;subst e1 e2;exact⟨_,Qq w b (off+j) t v Y (by rw[hl.1,hlen];exact hn) U,Z⟩
     ·cases h
    ·cases h
   ·rename_i j i s q;split at h
    ·cases h
    ·rename_i E kJ;obtain⟨y0,hg,C⟩:=qS _ _ h;clear h;split at C
     ·rename_i t' o' qn l;split at C
      ·rename_i hs;subst hs;split at C
       ·rename_i hi;split at C
        ·rename_i O;cases hold:(((enc t' o' l[i]).drop j).take E.length).all V.plain with
         |false=>rw[hold]at C;cases C
         | true=>
          rw[hold,ak]at C;split at C
          ·rename_i e he;obtain⟨m',qU,h3⟩:=Xd q _ _ C
           refine⟨_,h3,λah ρ a w hR u v Q T=>?_⟩
           obtain⟨ad,rfl,qR⟩:=Q;obtain⟨J,Kd⟩:=Kc xs E kJ;have I:xs.all Lf.live=true:=by rw[J];simp[Lf.live]
           obtain⟨hl,U⟩:=EX qf I T;have zp:E.length=n:=by rw[<-hlen,J,cZ]
           have q1:∀ (D:Nat) x,D<E.length->(enc t' o' l[i])[j+D]?=some x->x.plain=true:=by
            intro D x uJ hx;refine cv.1 hold x (fL (i:=D) ?_);rw[List.getElem?_take,bk uJ,List.getElem?_drop];exact hx
           have q2:∀ (D:Nat) x,E[D]?=some x->∃ L,v.cells[D]?=some L/\RV w w0.heap.size ah [] x L:=by
            intro D x hx;obtain⟨L,pg,gH⟩:=hl.2 D (.v x) (by rw[J,cO,hx];rfl);exact⟨L,pg,gH.2⟩
           obtain⟨b,hb,Y,Z⟩:=hR.ahL (xs:=E) (us:=v.cells) hg hi O he q1 Kd (by rw[hl.1,J,cZ]) q2 qU;rw[qR]at hb;injection hb with hb;subst hb;exact⟨_,Qq w b _ t v Y (by rw[hl.1,hlen];exact hn) U,Z⟩
          ·cases C
        ·cases C
       ·cases C
      ·cases C
     ·cases C
   ·cases h
  ·cases h
 ·cases h
end
def rZ{X:Type}(P:Program)(s:TypeId)(x:A)(f:Nat)(k:A->aj X):aj X:=
 match EW P s f with
 |none=>none
 | some C=>match ja P C.type with
  | some (_+1)=>(match x with
   |.aH r j=>k (.aH r (j+C.offset))
   |.gG cs=>k (.gG (cs.drop C.offset))
   |.ptr (j::i::s::q)=>k (.ptr ((j+C.offset)::i::s::q))
   |_=>none)
  |_=>none
def om{X:Type}(P:Program)(σ:S)(t:TypeId)(x i:A)(k:A->aj X):aj X:=
 match o7 P t with
 |none=>none
 | some e=>match ja P e,i with
  | some n,.lf (.v (.int _ C))=>(match x with
   |.lf (.v (.sl D g _ l))=>if n=aC D then (bif Nat.blt g 2 then (if h:0<=C/\C.toNat<l.length then k (.gG (enc D g (l[C.toNat]'h.2)))else none)else none)else none
   | .lf (.own q)=>fK σ.m q λy=>(match y with
    |.sl D g _ l=>if n=aC D then (if h:0<=C/\C.toNat<l.length then (bif Nat.blt g 2 then k (.gG (enc D g (l[C.toNat]'h.2)))else k (.ptr (0::C.toNat::aC D::q)))else none)else none
    |_=>none)
   |_=>none)
  |_,_=>none
def l9{X:Type}(P:Program)(σ:S)(t:TypeId)(x:A)(k:A->aj X):aj X:=
 match x with
 | .lf y=>gJ σ y λz=>(match z with
  |.sl _ _ _ l=>(match P.underlying t with|some (.slice _)=>k (.lf (.v (.int .i64 (l.length:Int))))|_=>none)
  |.nil=>(match P.underlying t with|some (.slice _)=>k (.lf (.v (.int .i64 0)))|_=>none)
  |.str s=>(match P.underlying t with|some .string=>k (.lf (.v (.int .i64 (s.size:Int))))|_=>none)
  |_=>none)
 |.view _ _ i j=>(match P.underlying t with|some (.slice _)=>k (.lf (.v (.int .i64 ((j-i:Nat):Int))))|_=>none)
 |_=>none
def qg:Bool×aa Lf->aj A
 |(true,cs)=>some (.agg cs)
 |(false,[y])=>some (.lf y)
 |_=>none
def uL{X:Type}(x:A)(i:Nat)(k:A->aj X):aj X:=
 match x with
 | .ct xs=>match (xs[i]?).bind qg with
  |some y=>k y
  |none=>none
 |_=>none
section
variable {P:Program} {w:World} {w0:Wd} {B N:Nat} {ah:bA} {ρ:Nat->Loc} {σ:S} {a:Act} {X:Type} {r:X} {o:Oper} {w':World} {aD:bA} {ρ':Nat->Loc} {d:Nat}
theorem ahR(n:Nat){j i s:Nat}{q:aa Nat}{ad:Addr}(h:addrAt w ah ρ (j :: i :: s :: q)=some ad):addrAt w ah ρ ((j+n) :: i :: s :: q)=some ⟨ad.block,ad.off+n,none⟩:=by
 match q,h with
 |[],h=>simp[addrAt]at h
 | [r],h=>
  simp only[addrAt]at h ⊢;split at h
  ·split at h
   next hl=>injection h with h;subst h;rw[bk hl,Nat.add_assoc]
   ·cases h
  ·cases h
 | x :: y :: q,h=>
  simp only[addrAt]at h ⊢;split at h
  ·split at h
   next hl=>injection h with h;subst h;rw[bk hl,Nat.add_assoc]
   ·cases h
  ·cases h
theorem Qr(w:World)(s:TypeId)(f:Nat)(C:Field)(n b off:Nat)(D:EW P s f=some C)(E:ja P C.type=some (n+1)):
  (Instr.fieldAt s (.pointer (some ⟨b,off,none⟩)) f).run P w = .ok (.pointer (some ⟨b,off+C.offset,none⟩)) w:=by
 unfold EW at D;split at D
 ·rename_i L J;unfold ja at E;cases I:P.info? C.type with
  |none=>simp[I]at E
  | some i=>
   have hi:i.size=n+1:=by simpa [I]using E
   simp[Instr.fieldAt,gy J,D,Instr.sureAddr,fieldPlace,sizeOf,typeInfo,I,hi,Addr.add_mid]
 ·cases D
theorem ahS{s:TypeId}{x:A}{f:Nat}{k:A->aj X}(h:rZ P s x f k=some r):∃ y,k y=some r/\∀ (w:World) (B:Nat) (ah:bA) (ρ:Nat->Loc) (u:Value),RA w B ah ρ x u->
  ∃v,(Instr.fieldAt s u f).run P w = .ok v w/\RA w B ah ρ y v:=by
 unfold rZ at h;split at h
 ·cases h
 ·rename_i D E;split at h
  ·rename_i n I;split at h
   ·rename_i Y j
    refine⟨_,h,λw B ah ρ u C=>?_⟩
    obtain⟨b,off,Q,rfl⟩:=C;exact⟨_,Qr w s f D n b _ E I,b,off,Q,by rw[Nat.add_assoc]⟩
   ·rename_i cs
    refine⟨_,h,λw B ah ρ u C=>?_⟩
    obtain⟨b,off,rfl,hb,hl,T⟩:=C
    refine⟨_,Qr w s f D n b _ E I,b,_,rfl,hb,hl,λj x J=>?_⟩
    rw[List.getElem?_drop]at J;have:=T _ x J;rw[<-Nat.add_assoc]at this;exact this
   ·rename_i j i Z q
    refine⟨_,h,λw B ah ρ u C=>?_⟩
    obtain⟨ad,rfl,L⟩:=C;have U:=ahR D.offset L;obtain⟨_,_,_,_,_,_,_,O,_⟩:=uE _ _ L;obtain⟨b,off,sp⟩:=ad;simp only at O;subst O;exact⟨_,Qr w s f D n b off E I,_,rfl,U⟩
   ·cases h
  ·cases h
theorem Qs(w:World)(t e:TypeId)(n b off len cap:Nat)(J:IntKind)(D:Int)(C:o7 P t=some e)(E:ja P e=some n)(L:0<=D)(U:D.toNat<len):
  (Instr.indexAt t (.slice (some ⟨b,off,none⟩) len cap) (.int J D)).run P w = .ok (.pointer (some ⟨b,off+D.toNat*n,none⟩)) w:=by
 unfold o7 at C;split at C
 ·rename_i O Q;injection C with C;subst C;unfold ja at E;cases I:P.info? O with
  |none=>simp[I]at E
  | some i=>
   have hi:i.size=n:=by simpa [I]using E
   have T:D<(len:Int):=by omega
   simp[Instr.indexAt,gy Q,asIntOf,L,T,sizeOf,typeInfo,I,hi,Addr.add_mid]
 ·cases C
theorem ahT{t:TypeId}{x i:A}{k:A->aj X}(h:om P σ t x i k=some r):∃ y,k y=some r/\∀ ah ρ a w,Rl w0 N ah ρ σ a w->∀ u v,RA w w0.heap.size ah ρ x u->RA w w0.heap.size ah ρ i v->
  ∃p,(Instr.indexAt t u v).run P w = .ok p w/\RA w w0.heap.size ah ρ y p:=by
 unfold om at h;split at h
 ·cases h
 ·rename_i e he;split at h
  ·rename_i n kk E hn;split at h
   ·rename_i U g qn l;split at h
    ·rename_i w7;subst w7;cases I:Nat.blt g 2 with
     |false=>rw[I]at h;cases h
     | true=>
      rw[I,ak]at h;split at h
      ·rename_i hb
       refine⟨_,h,λah ρ a w hR u v J L=>?_⟩
       obtain rfl:=L.2.gp;have EY:g<2:=by have:=cB I;omega
       cases J.2 with
       |cG=>simp at hb
       |cL=>simp at hb
       |cV=>simp at hb
       |own=>exact absurd EY (by omega)
       | aA _ _ _ _ _ b off cap us ho hl Ke h1 mP Y Z=>
        refine⟨_,Qs w t e _ b off _ cap kk E he hn hb.1 hb.2,b,_,rfl,Ke,hl,λj x D=>⟨jr U g _ EY j x D,us E.toNat j,?_,Z _ hb.2 j x D⟩⟩
        rw[Nat.add_assoc];exact Y _ hb.2 j x D
      ·cases h
    ·cases h
   ·rename_i q;obtain⟨y0,I,C⟩:=qS _ _ h;clear h;split at C
    ·rename_i U O qn l;split at C
     ·rename_i w7;subst w7;split at C
      ·rename_i hb;cases Q:Nat.blt O 2 with
       | true=>
        rw[Q,ak]at C;have Qt:O<2:=cB Q
        refine⟨_,C,λah ρ a w hR u v J L=>?_⟩
        obtain rfl:=L.2.gp;obtain⟨nG,jM,kI⟩:=I.ok hR.root;have:nG=u:=by
         have T:=J.2;rw[jM]at T;injection T
        subst this;cases kI with
        |cG=>simp at hb
        |cL=>simp at hb
        |cV=>simp at hb
        |own=>exact absurd Qt (by omega)
        | aA _ _ _ _ _ b off cap us ho hl Ke h1 mP Y Z=>
         refine⟨_,Qs w t e _ b off _ cap kk E he hn hb.1 hb.2,b,_,rfl,Ke,hl,λj x D=>⟨jr U O _ Qt j x D,us E.toNat j,?_,Z _ hb.2 j x D⟩⟩
         rw[Nat.add_assoc];exact Y _ hb.2 j x D
       | false=>
        rw[Q,aq]at C;have Qt:¬ O<2:=λdn=>by have h9:Nat.blt O 2=true:=iE dn;rw[h9]at Q;cases Q
        refine⟨_,C,λah ρ a w hR u v J L=>?_⟩
        obtain rfl:=L.2.gp;obtain⟨nG,jM,kI⟩:=I.ok hR.root;have:nG=u:=by
         have T:=J.2;rw[jM]at T;injection T
        subst this;cases kI with
        |cG=>simp at hb
        |cL=>simp at hb
        |cV=>simp at hb
        |aA _ _ _ _ _ _ _ _ _ ho=>omega
        | own _ _ _ _ _ b cap cs us o9 hh hs uJ qQ Y Z=>
         refine⟨_,Qs w t e _ b 0 _ cap kk E he hn hb.1 hb.2,_,rfl,?_⟩;rw[zj 0 E.toNat (aC U) jM o9];simp
      ·cases C
     ·cases C
    ·cases C
   ·cases h
  ·cases h
theorem ahU{t ty:TypeId}{x:A}{k:A->aj X}(h:l9 P σ t x k=some r):∃ y,k y=some r/\∀ ah ρ a w,Rl w0 N ah ρ σ a w->∀ u,RA w w0.heap.size ah ρ x u->
  ∃v,(Builtin.len_ #[t] ty #[u]).run P w = .ok v w/\RA w w0.heap.size ah ρ y v:=by
 unfold l9 at h;split at h
 ·rename_i y;have key:∃ z,(∀ ah ρ a w,Rl w0 N ah ρ σ a w->∀ u,cQ w w0.heap.size ah ρ y u->∃ q,RV w w0.heap.size ah q z u)/\(match z with
    |.sl _ _ _ l=>(match P.underlying t with|some (.slice _)=>k (.lf (.v (.int .i64 (l.length:Int))))|_=>none)
    |.nil=>(match P.underlying t with|some (.slice _)=>k (.lf (.v (.int .i64 0)))|_=>none)
    |.str s=>(match P.underlying t with|some .string=>k (.lf (.v (.int .i64 (s.size:Int))))|_=>none)
    |_=>none)=some r:=by
   cases y with
   |v z=>exact⟨z,λah ρ a w _ u D=>⟨[],D.2⟩,h⟩
   |dead=>cases h
   | own q=>
    obtain⟨z,J,h⟩:=qS q _ h
    refine⟨z,λah ρ a w hR u D=>?_,h⟩
    obtain⟨v,O,I⟩:=J.ok hR.root;have L:=D.2;rw[O]at L;injection L with L;subst L;exact⟨q,I⟩
  obtain⟨z,J,C⟩:=key;clear h;split at C
  ·rename_i Q g T l;split at C
   ·rename_i e E
    refine⟨_,C,λah ρ a w hR u D=>?_⟩
    obtain⟨q,I⟩:=J ah ρ a w hR u D;cases I with
    |cG=>exact⟨_,by simp[Builtin.len_,gy E,goInt],rfl,.int _ _ _⟩
    |cL=>exact⟨_,by simp[Builtin.len_,gy E,goInt],rfl,.int _ _ _⟩
    |cV=>exact⟨_,by simp[Builtin.len_,gy E,goInt],rfl,.int _ _ _⟩
    |aA=>exact⟨_,by simp[Builtin.len_,gy E,goInt],rfl,.int _ _ _⟩
    |own=>exact⟨_,by simp[Builtin.len_,gy E,goInt],rfl,.int _ _ _⟩
   ·cases C
  ·split at C
   ·rename_i e E
    refine⟨_,C,λah ρ a w hR u D=>?_⟩
    obtain⟨q,I⟩:=J ah ρ a w hR u D;cases I;exact⟨_,by simp[Builtin.len_,gy E,goInt],rfl,.int _ _ _⟩
   ·cases C
  ·split at C
   ·rename_i E
    refine⟨_,C,λah ρ a w hR u D=>?_⟩
    obtain⟨q,I⟩:=J ah ρ a w hR u D;obtain rfl:=I.uK;exact⟨_,by simp[Builtin.len_,gy E,goInt],rfl,.int _ _ _⟩
   ·cases C
  ·cases C
 ·split at h
  ·rename_i e E
   refine⟨_,h,λah ρ a w hR u D=>?_⟩
   obtain⟨A,n,c,O,U,C,rfl⟩:=D;exact⟨_,by cases A<;>simp[sliced,Builtin.len_,gy E,goInt],rfl,.int _ _ _⟩
  ·cases h
 ·cases h
theorem Qu{p:Bool×aa Lf}{y:A}(h:qg p=some y){u:Value}(C:RP w B ah ρ p u):RA w B ah ρ y u:=by
 unfold qg at h;split at h
 ·injection h with h;subst h;exact C
 ·rename_i z;injection h with h;subst h;obtain⟨D,E,I⟩:=C.2 0 z rfl;have:u=D:=by simpa using E
  subst this;exact I
 ·cases h
theorem ahV{x:A}{i:Nat}{k:A->aj X}(h:uL x i k=some r):∃ y,k y=some r/\∀ (w:World) (B:Nat) (ah:bA) (ρ:Nat->Loc) (u:Value),RA w B ah ρ x u->
  ∃v,(Instr.extract u i).run P w = .ok v w/\RA w B ah ρ y v:=by
 unfold uL at h;split at h
 ·rename_i xs;split at h
  ·rename_i y C
   refine⟨y,h,λw B ah ρ u E=>?_⟩
   obtain⟨us,rfl,O,I⟩:=E;cases D:xs[i]? with
   |none=>rw[D]at C;cases C
   | some p=>
    rw[D]at C;obtain⟨v,J,L⟩:=I i p D;exact⟨v,by simp[Instr.extract,J],Qu C L⟩
  ·cases h
 ·cases h
theorem ahW{k:aa Nat}(h:[d] <:+ k):aY d k=true:=by
 obtain⟨y,rfl⟩:=h;simp[aY]
theorem Qv{k:aa Nat}(h:aY d k=true):[d] <:+ k:=by
 have h:k.getLast?=some d:=by simpa [aY]using h
 obtain⟨y,C⟩:=List.getLast?_eq_some_iff.1 h;exact⟨y,C.symm⟩
theorem Kf{j i s:Nat}{q:aa Nat}(C:q≠[]):aY d (j :: i :: s :: q)=aY d q:=by
 cases q with
 |nil=>exact absurd rfl C
 |cons x q=>simp[aY]
structure s9 (w w':World) (ah aD:bA) (d:Nat):Prop where
 size:w.heap.size<=w'.heap.size
 block:∀b,b<w.heap.size->ah b≠some [d]->w'.heap[b]?=w.heap[b]?
 uM:∀b,b<w.heap.size->aD b=ah b
 ne:∀b,ah b≠some []
theorem RV.lC{q:aa Nat}{x:V}{v:Value}(h:RV w B ah q x v)(C:s9 w w' ah aD d)(hq:¬ [d] <:+ q\/x.aA=true):RV w' B aD q x v:=by
 induction h with
 |int=>exact .int _ _ _
 |bool=>exact .bool _ _
 |str=>exact .str _ _
 |nil=>exact .nil _
 |cG=>exact .cG _ _ _
 |cL=>exact .cL _ _ _ _ _ (by first|assumption|omega)
 |cV=>exact .cV _ _ _ _ _ (by first|assumption|omega)
 | aA q t o T l b off cap u L hl hb U Y E Z I=>
  have J:ah b≠some [d]:=by rw[hl];simp
  exact .aA _ _ _ _ _ _ _ _ u L ((C.uM b hb).trans hl) (jD hb C.size) U Y (λi h j x D=>(jZ (a:=⟨b,_,none⟩) (C.block b hb J)).trans (E i h j x D)) (λi h j x D=>I i h j x D (.inr (jr t o l[i] L j x D)))
 | own q t o T l b cap cs u hl O hs hn hm E Z I=>
  have hb:b<w.heap.size:=(fl.1 O).1;have Q:¬ [d] <:+ q:=by
   rcases hq with hq|hq
   ·exact hq
   ·simp[V.aA]at hq;omega
  have J:ah b≠some [d]:=by
   rw[hl];intro e;injection e with e;exact Q (by rw[e];exact List.suffix_refl _)
  refine .own _ _ _ _ _ _ _ cs u ((C.uM b hb).trans hl) ((C.block b hb J).trans O) hs hn hm E (λi h j x D=>I i h j x D (.inl λmT=>Q ?_))
  have hq0:q≠[]:=by rintro rfl;exact C.ne b hl
  exact Qv ((Kf hq0).symm.trans (ahW mT))
theorem ahX{j i s:Nat}{q:aa Nat}(C:q≠[])(h:aY d (j :: i :: s :: q)=false):aY d q=false:=by
 cases q with
 |nil=>exact absurd rfl C
 |cons x q=>simpa [aY]using h
theorem Qx(C:s9 w w' ah aD d)(I:∀ b k,ah b=some k->b<w.heap.size)(T:∀ r,r≠d->ρ' r=ρ r):∀ (k:aa Nat) (ad:Addr),aY d k=false->addrAt w ah ρ k=some ad->addrAt w' aD ρ' k=some ad
 |[],_,_,h=>h
 |[_],_,_,h=>h
 |[_,_],_,_,h=>h
 |[_,_,_],_,_,h=>by simp only[addrAt]at h ⊢;exact h
 | [j,i,s,r],_,J,h=>by
  have U:r≠d:=by rintro rfl;simp[aY]at J
  simp only[addrAt,T r U]at h ⊢;split at h
  ·rename_i v b n c U;split at h
   next hl=>rw[bk ((C.uM _ (I _ _ hl)).trans hl)];exact h
   ·cases h
  ·cases h
 | j :: i :: s :: x :: y :: q,ad,J,h=>by
  have L:=ahX (by simp) J;simp only[addrAt]at h ⊢;cases D:addrAt w ah ρ (x::y::q)with
  |none=>rw[D]at h;cases h
  | some O=>
   rw[Qx C I T _ _ L D];rw[D]at h;cases E:w.cell? O with
   |none=>simp[E]at h
   | some v=>
    have Y:ah O.block≠some [d]:=by
     obtain⟨Z,i',s',q',e,hl,_⟩:=uE _ _ D;rw[hl];intro Q;injection Q with Q;subst Q;rw[e]at L;simp[aY]at L
    have e:w'.cell? O=some v:=(jZ (C.block _ (block_lt_of_cell E) Y)).trans E;simp only[Option.bind_some,E]at h;simp only[Option.bind_some,e];split at h
    ·split at h
     next hl=>rw[bk ((C.uM _ (I _ _ hl)).trans hl)];exact h
     ·cases h
    ·cases h
theorem Xf(I:s9 w w' ah aD d)(L:∀ b k,ah b=some k->b<w.heap.size)(J:∀ r,r≠d->ρ' r=ρ r)(k:aa Nat)(u:Value)(C:aY d k=false)(h:cm w ah ρ k=some u):cm w' aD ρ' k=some u:=by
 match k,C,h with
 |[],_,h=>simp[cm,addrAt]at h
 | [r],C,h=>
  have O:r≠d:=by rintro rfl;simp[aY]at C
  simp only[cm,J r O]at h ⊢;exact h
 | x :: y :: q,C,h=>
  simp only[cm]at h ⊢;cases D:addrAt w ah ρ (x::y::q)with
  |none=>rw[D]at h;cases h
  | some ad=>
   rw[Qx I L J _ _ C D];rw[D]at h;have h:w.cell? ad=some u:=h;have Q:ah ad.block≠some [d]:=by
    obtain⟨T,U,Y,Z,e,hl,_⟩:=uE _ _ D;rw[hl];intro E;injection E with E;subst E;rw[e]at C;simp[aY]at C
   exact(jZ (I.block _ (block_lt_of_cell h) Q)).trans h
theorem cQ.lC{x:Lf}{u:Value}(h:cQ w B ah ρ x u)(C:s9 w w' ah aD d)(D:∀ b k,ah b=some k->b<w.heap.size)(E:∀ r,r≠d->ρ' r=ρ r):cQ w' B aD ρ' (x.drop d) u:=by
 cases x with
 |v x=>exact⟨h.1,h.2.lC C (.inr h.1)⟩
 |dead=>trivial
 | own k=>
  have e:Lf.drop d (.own k)=(bif aY d k then .dead else .own k):=rfl;rw[e];cases hl:aY d k with
  |true=>trivial
  |false=>exact⟨h.1,Xf C D E k u hl h.2⟩
theorem dg.lC{cs:aa Lf}{us:Array Value}(h:dg w B ah ρ cs us)(E:s9 w w' ah aD d)(I:∀ b k,ah b=some k->b<w.heap.size)(J:∀ r,r≠d->ρ' r=ρ r):dg w' B aD ρ' (cs.map (Lf.drop d)) us:=by
 refine⟨by rw[cZ];exact h.1,λj x C=>?_⟩
 rw[cO]at C;cases D:cs[j]? with
 |none=>rw[D]at C;cases C
 | some y=>
  rw[D]at C;injection C with C;subst C;obtain⟨u,L,r⟩:=h.2 j y D;exact⟨u,L,r.lC E I J⟩
theorem RP.lC{p:Bool×aa Lf}{u:Value}(h:RP w B ah ρ p u)(C:s9 w w' ah aD d)(D:∀ b k,ah b=some k->b<w.heap.size)(E:∀ r,r≠d->ρ' r=ρ r):RP w' B aD ρ' (p.1,p.2.map (Lf.drop d)) u:=by
 obtain⟨b,cs⟩:=p;cases b with
 |true=>obtain⟨us,e,h⟩:=h;exact⟨us,e,h.lC C D E⟩
 |false=>exact dg.lC h C D E
theorem RA.lC{x:A}{u:Value}(h:RA w B ah ρ x u)(C:s9 w w' ah aD d)(J:∀ b k,ah b=some k->b<w.heap.size)(I:∀ r,r≠d->ρ' r=ρ r):RA w' B aD ρ' (x.drop d) u:=by
 cases x with
 |undef=>trivial
 |skip=>exact h
 |lf x=>exact cQ.lC h C J I
 |agg cs=>exact RP.lC (p:=(true,cs)) h C J I
 | ct xs=>
  obtain⟨us,e,Q,h⟩:=h
  refine⟨us,e,by rw[cZ];exact Q,λj p D=>?_⟩
  rw[cO]at D;cases T:xs[j]? with
  |none=>rw[T]at D;cases D
  | some y=>
   rw[T]at D;injection D with D;subst D;obtain⟨v,L,r⟩:=h j y T;exact⟨v,L,r.lC C J I⟩
 | ptr k=>
  have e:A.drop d (.ptr k)=(bif aY d k then .undef else .ptr k):=rfl;rw[e];cases hl:aY d k with
  |true=>trivial
  |false=>obtain⟨ad,e,h⟩:=h;exact⟨ad,e,Qx C J I k _ hl h⟩
 | view k s i j=>
  have e:A.drop d (.view k s i j)=(bif aY d k then .undef else .view k s i j):=rfl;rw[e];cases hl:aY d k with
  |true=>trivial
  |false=>obtain⟨A,n,c,h,g⟩:=h;exact⟨A,n,c,Xf C J I k _ hl h,g⟩
 | pk r n=>
  have e:A.drop d (.pk r n)=(bif Nat.beq r d then .undef else .pk r n):=rfl;rw[e];cases hl:Nat.beq r d with
  |true=>trivial
  | false=>
   have E:r≠d:=by rintro rfl;simp at hl
   obtain⟨b,e,h⟩:=h;exact⟨b,(I r E).trans e,h⟩
 | aH r j=>
  have e:A.drop d (.aH r j)=(bif Nat.beq r d then .undef else .aH r j):=rfl;rw[e];cases hl:Nat.beq r d with
  |true=>trivial
  | false=>
   have E:r≠d:=by rintro rfl;simp at hl
   obtain⟨b,off,e,h⟩:=h;exact⟨b,off,(I r E).trans e,h⟩
 | gG cs=>
  obtain⟨b,off,e,hb,hl,h⟩:=h;have U:ah b≠some [d]:=by rw[hl];simp
  refine⟨b,off,e,jD hb C.size,(C.uM b hb).trans hl,λj x Y=>?_⟩
  obtain⟨O,v,L,E⟩:=h j x Y;exact⟨O,v,(jZ (a:=⟨b,_,none⟩) (C.block b hb U)).trans L,E.lC C (.inr O)⟩
 | ko f cs=>
  obtain⟨pv,Z,h⟩:=h;refine⟨pv,Z,?_⟩;obtain⟨b,off,e,hb,hl,h⟩:=h;have U:ah b≠some [d]:=by rw[hl];simp
  refine⟨b,off,e,jD hb C.size,(C.uM b hb).trans hl,λj x Y=>?_⟩
  obtain⟨O,v,L,E⟩:=h j x Y;exact⟨O,v,(jZ (a:=⟨b,_,none⟩) (C.block b hb U)).trans L,E.lC C (.inr O)⟩
 | fn f cap=>
  have e:A.drop d (.fn f cap)=(bif cap.any (λp=>Nat.beq p.1 d)then .undef else .fn f cap):=rfl;rw[e];cases hl:cap.any (λp=>Nat.beq p.1 d)with
  |true=>trivial
  | false=>
   obtain⟨vs,e,Q,h⟩:=h
   refine⟨vs,e,Q,λj p D=>?_⟩
   obtain⟨b,off,e2,h2⟩:=h j p D;have E:p.1≠d:=by
    rintro rfl;have:=iW.1 hl p (fL D);simp at this
   exact⟨b,off,(I _ E).trans e2,h2⟩
theorem dH.lC{r:Nat}(E:r≠d){x:aP}(h:dH w B ah ρ r x)(I:s9 w w' ah aD d)(U:∀ b k,ah b=some k->b<w.heap.size)(O:∀ r,r≠d->ρ' r=ρ r):dH w' B aD ρ' r (x.drop d):=by
 have Z:¬ [d] <:+ [r]:=Qj (λe=>E e.symm);cases h with
 | ax b off cells e cs us J hl Q hs Y=>
  have hb:b<w.heap.size:=(fl.1 Q).1;have T:ah b≠some [d]:=by
   rw[hl];intro e;injection e with e;injection e with e;exact E e
  refine .ax b off cells e _ us ((O r E).trans J) ((I.uM b hb).trans hl) ((I.block b hb T).trans Q) (by rw[cZ];exact hs) (λj x C=>?_)
  rw[cO]at C;cases D:cs[j]? with
  |none=>rw[D]at C;cases C
  | some y=>
   rw[D]at C;injection C with C;subst C;exact⟨(Y j y D).1,(Y j y D).2.lC I U O⟩
 |sl v y J Xg=>exact .sl v y ((O r E).trans J) (Xg.lC I (.inl Z))
 | mp b c es l J hl Q he=>
  have hb:b<w.heap.size:=(fl.1 Q).1;have T:ah b≠some [d]:=by
   rw[hl];intro e;injection e with e;injection e with e;exact E e
  exact .mp b c es l ((O r E).trans J) ((I.uM b hb).trans hl) ((I.block b hb T).trans Q) he
 | gh us xs J C=>
  refine .gh us _ ((O r E).trans J) (λj x L=>?_)
  rw[cO]at L;cases D:xs[j]? with
  |none=>rw[D]at L;cases L
  | some y=>
   rw[D]at L;injection L with L;subst L;exact(C j y D).lC I U O
theorem Rl.ta{x:aP}(h:Rl w0 N ah ρ σ a w)(O:w0.F d=none)(hb:iF w0 w w')(E:s9 w w' ah aD d)(Q:∀ b k,w.heap.size<=b->aD b=some k->b<w'.heap.size/\k≠[])(I:∀ r,r≠d->ρ' r=ρ r)(T:dH w' w0.heap.size aD ρ' d x):
  Rl w0 N aD ρ' ((σ.drop d).root d x) a w':=by
 have L:∀b k,ah b=some k->b<w.heap.size:=λb k hb=>(h.cH b k hb).2.1
 refine⟨h.below.trans hb,λb k J=>?_,λr y C=>?_,λk=>(h.tmp k).lC E L I,h.size,h.defers,λr U D=>(I r (by rintro rfl;rw[O]at D;cases D)).trans (h.fix r U D),h.dm⟩
 ·rcases Nat.lt_or_ge b w.heap.size with Y | mQ
  ·rw[E.uM b Y]at J;have:=h.cH b k J;exact⟨this.1,jD this.2.1 E.size,this.2.2⟩
  ·have:=Q b k mQ J;exact⟨.inl (Nat.le_trans h.below.size mQ),this.1,this.2⟩
 ·by_cases D:r=d
  ·subst D;have C:(bL (σ.drop r).m r (some x)) r=some y:=C;rw[bO]at C;injection C with C;subst C;exact T
  ·have C:(bL (σ.drop d).m d (some x)) r=some y:=C;rw[cu _ _ _ D]at C;have hb:Nat.beq r d=false:=by
    cases hb:Nat.beq r d with
    |false=>rfl
    |true=>exact absurd (bQ hb) D
   simp only[S.drop,hb,aq]at C;cases hm:σ.m r with
   |none=>rw[hm]at C;cases C
   | some z=>
    rw[hm]at C;injection C with C;subst C;exact(h.root r z hm).lC D E L I
end
def gK(q:Nat)(nk k:aa Nat):aa Nat:=bif aY q k then k.dropLast++nk else k
def bA.gK(ah:bA)(q:Nat)(nk:aa Nat):bA:=λb=>(ah b).map (Proofs.YtglnbhiaknohlaaGreat.gK q nk)
section
variable {P:Program} {w w':World} {w0:Wd} {B N:Nat} {ah aD:bA} {ρ ρ':Nat->Loc} {σ:S} {a:Act} {X:Type} {d q:Nat} {nk:aa Nat}
theorem Xh:gK q nk [q]=nk:=by simp[gK,aY]
theorem ahY{k:aa Nat}(h:aY q k=false):gK q nk k=k:=by simp[gK,h]
theorem ahZ{j i s:Nat}{k:aa Nat}(C:k≠[]):gK q nk (j :: i :: s :: k)=j :: i :: s :: gK q nk k:=by
 unfold gK;rw[Kf C];cases aY q k with
 |false=>rfl
 | true=>
  cases k with
  |nil=>exact absurd rfl C
  |cons x k=>simp
theorem Xi{k:aa Nat}(C:nk≠[])(D:k≠[]):gK q nk k≠[]:=by
 unfold gK;cases aY q k with
 |false=>simpa using D
 |true=>simp[C]
theorem bA.Qy{b:Nat}(h:ah b=none):ah.gK q nk b=none:=by simp[bA.gK,h]
theorem bA.Xj{b:Nat}{k:aa Nat}(h:ah b=some k):ah.gK q nk b=some (Proofs.YtglnbhiaknohlaaGreat.gK q nk k):=by simp[bA.gK,h]
theorem bA.Xk{b:Nat}{k:aa Nat}(h:ah b=some k)(C:aY q k=false):ah.gK q nk b=some k:=by rw[bA.Xj h,ahY C]
theorem RV.gK{k:aa Nat}{x:V}{v:Value}(h:RV w B ah k x v)(I:∀ b,ah b≠some []):RV w B (ah.gK q nk) (Proofs.YtglnbhiaknohlaaGreat.gK q nk k) x v:=by
 induction h with
 |int=>exact .int _ _ _
 |bool=>exact .bool _ _
 |str=>exact .str _ _
 |nil=>exact .nil _
 |cG=>exact .cG _ _ _
 |cL=>exact .cL _ _ _ _ _ (by first|assumption|omega)
 |cV=>exact .cV _ _ _ _ _ (by first|assumption|omega)
 | aA k t o J l b off cap u L hl hb O Q C T D=>
  exact .aA _ _ _ _ _ _ _ _ u L (bA.Qy hl) hb O Q C (λi h j x E=>D i h j x E)
 | own k t o J l b cap cs u hl U Y Z hm C T D=>
  have hk:k≠[]:=by rintro rfl;exact I b hl
  refine .own _ _ _ _ _ _ _ cs u (bA.Xj hl) U Y Z hm C (λi h j x E=>?_)
  have:=D i h j x E;rw[ahZ hk]at this;exact this
structure Rel (q:Nat) (ah aD:bA):Prop where
 ne:∀b,ah b≠some []
 none:∀b,ah b=none->aD b=Option.none
 fN:∀b k,ah b=some k->aY q k=false->aD b=some k
theorem EZ(C:∀b,ah b≠some []):Rel q ah (ah.gK q nk):=⟨C,λ_ h=>bA.Qy h,λ_ _ h D=>bA.Xk h D⟩
theorem RV.rel(D:Rel q ah aD){k:aa Nat}{x:V}{v:Value}(h:RV w B ah k x v)(hk:aY q k=false\/x.aA=true):RV w B aD k x v:=by
 induction h with
 |int=>exact .int _ _ _
 |bool=>exact .bool _ _
 |str=>exact .str _ _
 |nil=>exact .nil _
 |cG=>exact .cG _ _ _
 |cL=>exact .cL _ _ _ _ _ (by first|assumption|omega)
 |cV=>exact .cV _ _ _ _ _ (by first|assumption|omega)
 | aA k t o O l b off cap u J hl hb Q T E U I=>
  exact .aA _ _ _ _ _ _ _ _ u J (D.none _ hl) hb Q T E (λi h j x C=>I i h j x C (.inr (jr t o l[i] J j x C)))
 | own k t o O l b cap cs u hl Y Z hn hm E U I=>
  have L:aY q k=false:=by
   rcases hk with hk|hk
   ·exact hk
   ·simp[V.aA]at hk;omega
  refine .own _ _ _ _ _ _ _ cs u (D.fN _ _ hl L) Y Z hn hm E (λi h j x C=>I i h j x C ?_)
  cases k with
  |nil=>exact absurd hl (D.ne b)
  |cons z k=>exact .inl (by rw[Kf (by simp)];exact L)
theorem Qz(C:Rel q ah aD):∀ (k:aa Nat) (ad:Addr),aY q k=false->addrAt w ah ρ k=some ad->addrAt w aD ρ k=some ad
 |[],_,_,h=>h
 |[_],_,_,h=>h
 |[_,_],_,_,h=>h
 |[_,_,_],_,_,h=>by simp only[addrAt]at h ⊢;exact h
 | [j,i,s,r],_,D,h=>by
  have J:aY q [r]=false:=by simpa [aY]using D
  simp only[addrAt]at h ⊢;split at h
  ·rename_i v b n c e;split at h
   next hl=>rw[bk (C.fN _ _ hl J)];exact h
   ·cases h
  ·cases h
 | j :: i :: s :: x :: y :: k,ad,D,h=>by
  have I:aY q (x::y::k)=false:=by simpa [aY]using D
  simp only[addrAt]at h ⊢;cases E:addrAt w ah ρ (x::y::k)with
  |none=>rw[E]at h;cases h
  | some L=>
   rw[Qz C _ _ I E];rw[E]at h;split at h
   ·rename_i v b n c e;split at h
    next hl=>rw[bk (C.fN _ _ hl I)];exact h
    ·cases h
   ·cases h
theorem QA(E:Rel q ah aD)(k:aa Nat)(u:Value)(C:aY q k=false)(h:cm w ah ρ k=some u):cm w aD ρ k=some u:=by
 match k,C,h with
 |[],_,h=>simp[cm,addrAt]at h
 |[r],_,h=>exact h
 | x :: y :: k,C,h=>
  simp only[cm]at h ⊢;cases D:addrAt w ah ρ (x::y::k)with
  |none=>rw[D]at h;cases h
  | some ad=>
   rw[Qz E _ _ C D];rw[D]at h;exact h
theorem cQ.rel(C:Rel q ah aD){x:Lf}{u:Value}(h:cQ w B ah ρ x u):cQ w B aD ρ (x.drop q) u:=by
 cases x with
 |v x=>exact⟨h.1,h.2.rel C (.inr h.1)⟩
 |dead=>trivial
 | own k=>
  have e:Lf.drop q (.own k)=(bif aY q k then .dead else .own k):=rfl;rw[e];cases hl:aY q k with
  |true=>trivial
  |false=>exact⟨h.1,QA C k u hl h.2⟩
theorem dg.rel(E:Rel q ah aD){cs:aa Lf}{us:Array Value}(h:dg w B ah ρ cs us):dg w B aD ρ (cs.map (Lf.drop q)) us:=by
 refine⟨by rw[cZ];exact h.1,λj x C=>?_⟩
 rw[cO]at C;cases D:cs[j]? with
 |none=>rw[D]at C;cases C
 | some y=>
  rw[D]at C;injection C with C;subst C;obtain⟨u,I,r⟩:=h.2 j y D;exact⟨u,I,r.rel E⟩
theorem RP.rel(C:Rel q ah aD){p:Bool×aa Lf}{u:Value}(h:RP w B ah ρ p u):RP w B aD ρ (p.1,p.2.map (Lf.drop q)) u:=by
 obtain⟨b,cs⟩:=p;cases b with
 |true=>obtain⟨us,e,h⟩:=h;exact⟨us,e,h.rel C⟩
 |false=>exact dg.rel C h
theorem RA.rel(C:Rel q ah aD){x:A}{u:Value}(h:RA w B ah ρ x u):RA w B aD ρ (x.drop q) u:=by
 cases x with
 |undef=>trivial
 |skip=>exact h
 |lf x=>exact cQ.rel C h
 |agg cs=>exact RP.rel C (p:=(true,cs)) h
 | ct xs=>
  obtain⟨us,e,Q,h⟩:=h
  refine⟨us,e,by rw[cZ];exact Q,λj p D=>?_⟩
  rw[cO]at D;cases J:xs[j]? with
  |none=>rw[J]at D;cases D
  | some y=>
   rw[J]at D;injection D with D;subst D;obtain⟨v,E,r⟩:=h j y J;exact⟨v,E,r.rel C⟩
 | ptr k=>
  have e:A.drop q (.ptr k)=(bif aY q k then .undef else .ptr k):=rfl;rw[e];cases hl:aY q k with
  |true=>trivial
  |false=>obtain⟨ad,e,h⟩:=h;exact⟨ad,e,Qz C k ad hl h⟩
 | view k s i j=>
  have e:A.drop q (.view k s i j)=(bif aY q k then .undef else .view k s i j):=rfl;rw[e];cases hl:aY q k with
  |true=>trivial
  |false=>obtain⟨A,n,c,h,r⟩:=h;exact⟨A,n,c,QA C k _ hl h,r⟩
 | aH r j=>
  have e:A.drop q (.aH r j)=(bif Nat.beq r q then .undef else .aH r j):=rfl;rw[e];cases hl:Nat.beq r q with
  |true=>trivial
  |false=>exact h
 | pk r n=>
  have e:A.drop q (.pk r n)=(bif Nat.beq r q then .undef else .pk r n):=rfl;rw[e];cases hl:Nat.beq r q with
  |true=>trivial
  |false=>exact h
 | gG cs=>
  obtain⟨b,off,e,hb,hl,h⟩:=h
  refine⟨b,off,e,hb,C.none _ hl,λj x L=>?_⟩
  obtain⟨I,v,E,O⟩:=h j x L;exact⟨I,v,E,O.rel C (.inr I)⟩
 | ko f cs=>
  obtain⟨pv,T,h⟩:=h;refine⟨pv,T,?_⟩;obtain⟨b,off,e,hb,hl,h⟩:=h
  refine⟨b,off,e,hb,C.none _ hl,λj x L=>?_⟩
  obtain⟨I,v,E,O⟩:=h j x L;exact⟨I,v,E,O.rel C (.inr I)⟩
 | fn f cap=>
  have e:A.drop q (.fn f cap)=(bif cap.any (λp=>Nat.beq p.1 q)then .undef else .fn f cap):=rfl;rw[e];cases hl:cap.any (λp=>Nat.beq p.1 q)with
  |true=>trivial
  |false=>exact h
theorem dH.rel(J:Rel q ah aD){r:Nat}(T:r≠q){x:aP}(h:dH w B ah ρ r x):dH w B aD ρ r (x.drop q):=by
 have L:aY q [r]=false:=by simpa [aY]using λe=>T e
 cases h with
 | ax b off cells e cs us E hl O U Q=>
  refine .ax b off cells e _ us E (J.fN _ _ hl L) O (by rw[cZ];exact U) (λj x C=>?_)
  rw[cO]at C;cases D:cs[j]? with
  |none=>rw[D]at C;cases C
  | some y=>
   rw[D]at C;injection C with C;subst C;exact⟨(Q j y D).1,(Q j y D).2.rel J⟩
 |sl v y E Y=>exact .sl v y E (Y.rel J (.inl L))
 |mp b c Z l E hl O he=>exact .mp b c Z l E (J.fN _ _ hl L) O he
 | gh us xs E C=>
  refine .gh us _ E (λj x I=>?_)
  rw[cO]at I;cases D:xs[j]? with
  |none=>rw[D]at I;cases I
  | some y=>
   rw[D]at I;injection I with I;subst I;exact(C j y D).rel J
theorem Rl.td(h:Rl w0 N ah ρ σ a w):∀b,ah b≠some []:=λb hb=>(h.cH b [] hb).2.2 rfl
theorem Rl.rel(h:Rl w0 N ah ρ σ a w)(I:Rel q ah aD)(J:∀ b k,aD b=some k->(∃ D,ah b=some D)/\k≠[]):Rl w0 N aD ρ (σ.drop q) a w:=by
 refine⟨h.below,λb k L=>?_,λr x C=>?_,λk=>(h.tmp k).rel I,h.size,h.defers,h.fix,h.dm⟩
 ·obtain⟨⟨D,hl⟩,O⟩:=J b k L;have:=h.cH b D hl;exact⟨this.1,this.2.1,O⟩
 ·have C:(bif Nat.beq r q then none else (σ.m r).map (aP.drop q))=some x:=C;cases hb:Nat.beq r q with
  |true=>rw[hb]at C;cases C
  | false=>
   rw[hb,aq]at C;have Q:r≠q:=by rintro rfl;simp at hb
   cases E:σ.m r with
   |none=>rw[E]at C;cases C
   | some y=>
    rw[E]at C;injection C with C;subst C;exact(h.root r y E).rel I Q
theorem Rl.ah0{z:V}(h:Rl w0 N ah ρ σ a w)(J:σ.m q=some (.sl z))(L:nk≠[]):∃ u,ρ q = .de u/\Rl w0 N (ah.gK q nk) ρ (σ.drop q) a w/\RV w w0.heap.size (ah.gK q nk) nk z u:=by
 have E:=h.td;have I:=h.root q _ J;generalize D:aP.sl z=x at I;cases I with
 |ax=>cases D
 |mp=>cases D
 |gh=>cases D
 | sl u y O Q=>
  injection D with D;subst D
  refine⟨u,O,h.rel (EZ E) λb k C=>?_,?_⟩
  ·unfold bA.gK at C;cases hl:ah b with
   |none=>rw[hl]at C;cases C
   | some T=>
    rw[hl]at C;injection C with C;subst C;exact⟨⟨T,rfl⟩,Xi L (λe=>E b (by rw[hl,e]))⟩
  ·have:=Q.gK (q:=q) (nk:=nk) E
   rwa [Xh]at this
def gL(r:Nat)(key:Nat->aa Nat):Nat->Nat->aa Lf->S->aj (aa V×S)
 |_,_,[],σ=>some ([],σ)
 |f+1,j,.v x::xs,σ=>(gL r key f (j+1) xs σ).map λp=>(x::p.1,p.2)
 | f+1,j,.own [q] :: xs,σ=>match σ.m q with
  |some (.sl z)=>bif Nat.beq q r then none else (gL r key f (j+1) (xs.map (Lf.drop q)) (σ.drop q)).map λp=>(z::p.1,p.2)
  |_=>none
 |_,_,_,_=>none
theorem Kg{r:Nat}{key:Nat->aa Nat}(O:∀ j,aY r (key j)=true):∀ (f j:Nat) (xs:aa Lf) (σ E:S) (I:aa V),gL r key f j xs σ=some (I,E)->∀ ah ρ a w,Rl w0 N ah ρ σ a w->∀ us:aa Value,dg w w0.heap.size ah ρ xs us.toArray->
  ∃ aD,Rl w0 N aD ρ E a w/\I.length=xs.length/\(∀ (n:Nat) x,I[n]?=some x->∃ u,us[n]?=some u/\RV w w0.heap.size aD (key (j+n)) x u)/\(∀ k x v,aY r k=true->RV w w0.heap.size ah k x v->RV w w0.heap.size aD k x v)/\
   (∀x,σ.m r=some (.sl x)->E.m r=some (.sl x))/\(∀k u,aY r k=true->cm w ah ρ k=some u->cm w aD ρ k=some u)/\(∀b,ah b=some [r]->aD b=some [r])/\(∀b,ah b=none->aD b=none)
 | 0,j,[],σ,E,I,h,ah,ρ,a,w,hR,us,J=>by
  simp only[gL,fh,gT]at h;obtain⟨rfl,rfl⟩:=h;exact⟨ah,hR,rfl,by simp,λ_ _ _ _ h=>h,λ_ h=>h,λ_ _ _ h=>h,λ_ h=>h,λ_ h=>h⟩
 | f+1,j,[],σ,E,I,h,ah,ρ,a,w,hR,us,J=>by
  simp only[gL,fh,gT]at h;obtain⟨rfl,rfl⟩:=h;exact⟨ah,hR,rfl,by simp,λ_ _ _ _ h=>h,λ_ h=>h,λ_ _ _ h=>h,λ_ h=>h,λ_ h=>h⟩
 |0,j,x::xs,σ,E,I,h,ah,ρ,a,w,hR,us,J=>by simp[gL]at h
 | f+1,j,x :: xs,σ,E,I,h,ah,ρ,a,w,hR,us,J=>by
  obtain⟨u0,us,rfl⟩:∃ u0 Kh,us=u0 :: Kh:=by
   cases us with
   |nil=>have:=J.1;simp at this
   |cons u0 us=>exact⟨_,_,rfl⟩
  have Q:cQ w w0.heap.size ah ρ x u0:=by
   obtain⟨u,e,h⟩:=J.2 0 x rfl;simp at e;subst e;exact h
  have kH:dg w w0.heap.size ah ρ xs us.toArray:=⟨by have:=J.1;simpa using this,λn y C=>by
   obtain⟨u,e,h⟩:=J.2 (n+1) y C;exact⟨u,by simpa using e,h⟩⟩
  cases x with
  | v x=>
   simp only[gL,Option.map_eq_some_iff]at h;obtain⟨⟨Y,Z⟩,h,e⟩:=h;simp only[gT]at e;obtain⟨rfl,rfl⟩:=e;obtain⟨aD,T,U,h3,D,h5⟩:=Kg O f (j+1) xs σ Z Y h ah ρ a w hR us kH
   refine⟨aD,T,by simp[U],λn y C=>?_,D,h5⟩
   cases n with
   | zero=>
    simp at C;subst C;refine⟨u0,rfl,D _ _ _ (O _) (Q.2.key Q.1)⟩
   | succ n=>
    obtain⟨u,e,h⟩:=h3 n y (by simpa using C);exact⟨u,by simpa using e,by rw[show j+(n+1)=j+1+n by omega];exact h⟩
  |dead=>simp[gL]at h
  | own k=>
   match k,Q,h with
   |[],_,h=>simp[gL]at h
   |_::_::_,_,h=>simp[gL]at h
   | [q],Q,h=>
    simp only[gL]at h;split at h
    ·rename_i z hz;cases QB:Nat.beq q r with
     |true=>rw[QB]at h;cases h
     | false=>
      rw[QB,aq,Option.map_eq_some_iff]at h;obtain⟨⟨Y,Z⟩,ah1,e⟩:=h;simp only[gT]at e;obtain⟨rfl,rfl⟩:=e;have dY:q≠r:=by rintro rfl;simp at QB
      have Xl:key j≠[]:=by intro e;have:=O j;rw[e]at this;simp[aY]at this
      obtain⟨u,di,gf,kI⟩:=hR.ah0 hz Xl;have E0:u=u0:=by
       have D:=Q.2;simp only[cm,di]at D;injection D
      subst E0;have nH:∀ k,aY r k=true->aY q k=false:=by
       intro k L;cases hq:aY q k with
       |false=>rfl
       | true=>
        exfalso;have T:=Qv L;have U:=Qv hq;exact dY (W8 T U)
      obtain⟨aD,T,U,h3,D,h5,h6,h7,h8⟩:=Kg O f (j+1) (xs.map (Lf.drop q)) (σ.drop q) Z Y ah1 _ ρ a w gf us (kH.rel (EZ hR.td))
      refine⟨aD,T,by simp[U],λn y C=>?_,λk x v L hv=>D _ _ _ L (hv.rel (EZ hR.td) (.inl (nH k L))),λx hx=>h5 x ?_,λk v L hv=>h6 k v L (QA (EZ hR.td) k v (nH k L) hv),λb hb=>h7 b (bA.Xk hb (by simpa [aY]using λe=>dY e.symm)),λb hb=>h8 b (bA.Qy hb)⟩
      ·cases n with
       | zero=>
        simp at C;subst C;exact⟨u,rfl,D _ _ _ (O _) kI⟩
       | succ n=>
        obtain⟨u,e,h⟩:=h3 n y (by simpa using C);exact⟨u,by simpa using e,by rw[show j+(n+1)=j+1+n by omega];exact h⟩
      ·have hb:Nat.beq r q=false:=by
        cases hb:Nat.beq r q with
        |false=>rfl
        |true=>exact absurd (bQ hb).symm dY
       simp only[S.drop,hb,aq,hx,gF,aP.drop]
    ·cases h
end
def iy:Value->Lf
 |.int k n=>.v (.int k n)
 |.bool b=>.v (.bool b)
 |.string s=>.v (.str s)
 |.slice none 0 0=>.v .nil
 |_=>.dead
def zeroV:Value->aj V
 |.int k n=>some (.int k n)
 |.bool b=>some (.bool b)
 |.string s=>some (.str s)
 |.slice none 0 0=>some .nil
 |_=>none
def E1:aa Value->aj (aa V)
 |[]=>some []
 | v :: C=>match zeroV v,E1 C with
  |some x,some xs=>some (x::xs)
  |_,_=>none
def zeroOf(P:Program)(e:TypeId):aj Value:=(P.info? e).bind (·.zero)
def bytesOf(P:Program)(e:TypeId):aj Nat:=(P.info? e).map (·.bytes)
def gV{X:Type}(N:Nat)(σ:S)(d:Nat)(x:aP)(y:A)(k:S->aj X):aj X:=
 bif Nat.blt d N then k (((σ.drop d).root d x).set d y)else none
def qV{X:Type}(P:Program)(N:Nat)(σ:S)(d:Nat)(e:TypeId)(k:S->aj X):aj X:=
 match zeroOf P e with
 |some z=>gV N σ d (.ax (z.cells.toList.map iy)) (.aH d 0) k
 |none=>none
def tf(P:Program)(t:TypeId):aj (TypeId×TC):=
 match o7 P t with
 |none=>none
 | some e=>match W0 e,ja P e,bytesOf P e with
  |some C,some n,some b=>bif Nat.beq n (aC C)&&Nat.ble b 65536 then some (e,C)else none
  |_,_,_=>none
def Ki(P:Program)(e:TypeId)(C:TC):aj (T C):=
 match zeroOf P e with
 |none=>none
 | some z=>match E1 z.cells.toList with
  |none=>none
  |some D=>dec C (full C) D
def zq{X:Type}(P:Program)(N:Nat)(σ:S)(d:Nat)(t:TypeId)(l c:A)(k:S->aj X):aj X:=
 match tf P t,l,c with
 | some (e,C),.lf (.v (.int _ n)),.lf (.v (.int _ c))=>match Ki P e C with
  |none=>none
  |some z=>if 0<=n/\n<=c/\c<1073741824 then gV N σ d (.sl (.sl C (full C+2) false (List.replicate n.toNat z))) (.lf (.own [d])) k else none
 |_,_,_=>none
def V.Kj(t:TC):V->aj (aa (T t))
 |.sl C _ _ l=>if h:C=t then some (h ▸ l)else none
 |.nil=>some []
 |_=>none
def pn{X:Type}(P:Program)(N:Nat)(σ:S)(d:Nat)(t:TypeId)(x y:A)(k:S->aj X):aj X:=
 match tf P t with
 | some (e,C)=>bif Nat.beq (full C) 0&&(zeroOf P e).any (λz=>Nat.beq z.cells.size (aC C))then o6 σ y λD=>(match D.Kj C with
  |none=>none
  | some l2=>match x with
   |.lf (.v .nil)=>bif aT l2.length then gV N σ d (.sl (.sl C 2 false l2)) (.lf (.own [d])) k else none
   | .lf (.own [r])=>(match σ.m r with
    |some (.sl (.sl E (o+2) q l))=>if h:E=C then (bif Nat.blt d N&&(Nat.blt r N ||Nat.ble 60000 r)&&aT (l.length+l2.length)then k (((σ.drop r).root r (.sl (.sl C (o+2) false ((h ▸ l)++l2)))).set d (.lf (.own [r])))else none)else none
    |_=>none)
   |_=>none)else none
 |none=>none
section
variable {P:Program} {w w':World} {w0:Wd} {B N:Nat} {ah aD:bA} {ρ ρ':Nat->Loc} {σ:S} {a:Act} {X:Type} {d:Nat} {r:X} {q:Nat} {o:Oper}
theorem Kk(v:Value):cQ w B ah ρ (iy v) v:=by
 unfold iy;split
 ·exact⟨rfl,.int _ _ _⟩
 ·exact⟨rfl,.bool _ _⟩
 ·exact⟨rfl,.str _ _⟩
 ·exact⟨rfl,.nil _⟩
 ·trivial
theorem Xm{v:Value}{x:V}(h:zeroV v=some x)(q:aa Nat):RV w B ah q x v:=by
 unfold zeroV at h;split at h<;>first|(injection h with h;subst h;first|exact .int _ _ _|exact .bool _ _|exact .str _ _|exact .nil _)|cases h
theorem QC:∀ (C:aa Value) (xs:aa V),E1 C=some xs->xs.length=C.length/\∀ (j:Nat) x,xs[j]?=some x->∃ v,C[j]?=some v/\zeroV v=some x
 | [],xs,h=>by
  simp[E1]at h;subst h;simp
 | v :: C,xs,h=>by
  unfold E1 at h;split at h
  ·rename_i y ys E I;injection h with h;subst h;obtain⟨J,L⟩:=QC C ys I
   refine⟨by simp[J],λj x D=>?_⟩
   cases j with
   |zero=>simp at D;subst D;exact⟨v,rfl,E⟩
   |succ j=>simp at D;simpa using L j x D
  ·cases h
theorem iF.Xn(w0:Wd)(w:World)(o:Obj)(h:w0.heap.size<=w.heap.size):iF w0 w (w.alloc o):=.of ((Below.refl w0.heap.size w).alloc h o) (dV _)
theorem Rl.Cj{c:Array Value}{e:TypeId}{x:aP}{ρ':Nat->Loc}(h:Rl w0 N ah ρ σ a w)(D:w0.F d=none)(E:∀ r,r≠d->ρ' r=ρ r)
  (I:dH (w.alloc (.cells c e)) w0.heap.size (bL ah w.heap.size (some [d])) ρ' d x):Rl w0 N (bL ah w.heap.size (some [d])) ρ' ((σ.drop d).root d x) a (w.alloc (.cells c e)):=by
 refine h.ta D (iF.Xn w0 w _ h.below.size) ⟨by simp,λb hb _=>Below.heap_alloc w _ b hb,λb hb=>cu _ _ _ (by omega),λb hb=>(h.cH b [] hb).2.2 rfl⟩ (λb k hb C=>?_) E I
 by_cases e:b=w.heap.size
 ·subst e;rw[bO]at C;injection C with C;subst C;exact⟨by simp,by simp⟩
 ·rw[cu _ _ _ e]at C;have:=(h.cH b k C).2.1;omega
theorem oq{x:aP}{y:A}{k:S->aj X}(h:gV N σ d x y k=some r):d<N/\k (((σ.drop d).root d x).set d y)=some r:=by
 unfold gV at h;cases C:Nat.blt d N with
 |false=>rw[C]at h;cases h
 |true=>rw[C]at h;exact⟨by have:=cB C;omega,h⟩
theorem ah2{e:TypeId}{k:S->aj X}(h:qV P N σ d e k=some r):∃ I,k I=some r/\∀ ah ρ a w,Rl w0 N ah ρ σ a w->∃ w' aD ρ' v,(Instr.alloc e true (.tuple #[])).run P w = .ok v w'/\Rl w0 N aD ρ' I (a.put (some d) v) w':=by
 unfold qV at h;split at h
 ·rename_i z D;obtain⟨J,h⟩:=oq h
  refine⟨_,h,λah ρ a w hR=>?_⟩
  have O:(Instr.alloc e true (.tuple #[])).run P w = .ok (.pointer (some ⟨w.heap.size,0,none⟩)) (w.alloc (.cells z.cells e)):=by
   unfold zeroOf at D;cases hi:P.info? e with
   |none=>simp[hi]at D
   | some i=>
    have D:i.zero=some z:=by simpa [hi]using D
    simp[Instr.alloc,zeroValue,typeInfo,hi,D,newVar,newRow]
  refine⟨_,bL ah w.heap.size (some [d]),bL ρ d (.ax w.heap.size 0),_,O,(hR.Cj (hR.dm d (.inl J)) (λr Q=>cu _ _ _ Q) ?_).set ⟨w.heap.size,0,bO _ _ _,rfl⟩ J⟩
  refine .ax w.heap.size 0 z.cells e _ (λj=>z.cells.getD j undef) (bO _ _ _) (bO _ _ _) (heap_alloc_new w _) (by simp) λj x C=>?_
  rw[cO]at C;cases E:z.cells.toList[j]? with
  |none=>rw[E]at C;cases C
  | some v=>
   rw[E]at C;injection C with C;subst C;have L:z.cells[j]?=some v:=by simpa using E
   have T:z.cells.getD j undef=v:=by rw[gE,L];rfl
   rw[T,eN];exact⟨L,Kk v⟩
 ·cases h
theorem w8{t e:TypeId}{I:TC}(h:tf P t=some (e,I)):P.underlying t=some (.slice e)/\tid I=e/\∃ i,P.info? e=some i/\i.size=aC I/\i.bytes<=65536:=by
 unfold tf at h;split at h
 ·cases h
 ·rename_i J C;split at h
  ·rename_i L n b O E hb;cases D:(Nat.beq n (aC L)&&Nat.ble b 65536)with
   |false=>rw[D]at h;cases h
   | true=>
    rw[D,ak]at h;injection h with h;injection h with Q T;subst Q T;rw[aK]at D;refine⟨?_,ahF O,?_⟩
    ·unfold o7 at C;split at C
     next Y U=>injection C with C;subst C;exact U
     ·cases C
    ·unfold ja at E;unfold bytesOf at hb;cases hi:P.info? J with
     |none=>simp[hi]at E
     | some i=>
      simp only[hi,gF,fh]at E hb;refine⟨i,rfl,E.trans (bQ D.1),by rw[hb];exact cB D.2⟩
  ·cases h
theorem Xo(z:Array Value)(n i j:Nat)(C:j<z.size)(h:i*z.size+j<n):(madeCells z n)[i*z.size+j]?=some z[j]:=by
 have D:(i*z.size+j) % z.size=j:=by rw[Nat.add_comm,Nat.add_mul_mod_self_right,Nat.mod_eq_of_lt C]
 simp only[madeCells,Array.getElem?_map,Array.getElem?_range,h,if_true,gF,D];simp[C]
theorem ah3{t:TypeId}{l c:A}{k:S->aj X}(h:zq P N σ d t l c k=some r):∃ Y,k Y=some r/\∀ ah ρ a w,Rl w0 N ah ρ σ a w->∀ u v,RA w w0.heap.size ah ρ l u->RA w w0.heap.size ah ρ c v->
  ∃w' aD ρ' x,(Instr.makeSlice t u v).run P w = .ok x w'/\Rl w0 N aD ρ' Y (a.put (some d) x) w':=by
 unfold zq at h;split at h
 ·rename_i e D kl n kc c ot;split at h
  ·cases h
  ·rename_i z E;split at h
   ·rename_i hb;obtain⟨Z,h⟩:=oq h
    refine⟨_,h,λah ρ a w hR u v hu O=>?_⟩
    obtain rfl:=hu.2.gp;obtain rfl:=O.2.gp;obtain⟨gq,ht,i,hi,fE,jN⟩:=w8 ot;unfold Ki at E;split at E
    ·cases E
    ·rename_i C zu;split at E
     ·cases E
     ·rename_i vs kJ;have ou:i.zero=some C:=by unfold zeroOf at zu;simpa [hi]using zu
      obtain⟨th,lD⟩:=QC _ _ kJ;have Q:=lu D (full D) vs z E;have L:C.cells.size=aC D:=by rw[<-jn D (full D) z,<-Q.1,th];simp
      have O8:(i.bytes:Int)*c<=281474976710656:=by
       have h1:(i.bytes:Int)<=65536:=by omega
       have h2:(i.bytes:Int)*c<=65536*c:=Int.mul_le_mul_of_nonneg_right h1 (by omega);omega
      have dB:=run_make (P:=P) w t e i C gq hi ou kl kc n c hb.1 hb.2.1 O8 (by omega);rw[fE,<-L]at dB
      refine⟨_,bL ah w.heap.size (some [d]),bL ρ d (.de (.slice (some ⟨w.heap.size,0,none⟩) n.toNat c.toNat)),_,dB,(hR.Cj (hR.dm d (.inl Z)) (λr hr=>cu _ _ _ hr) ?_).set ⟨rfl,?_⟩ Z⟩
      ·refine .sl _ _ (bO _ _ _) ?_;have hlen:(List.replicate n.toNat z).length=n.toNat:=by simp
       have:=RV.own (w:=w.alloc (.cells (madeCells C.cells (c.toNat*C.cells.size)) e)) (B:=w0.heap.size) (ah:=bL ah w.heap.size (some [d])) [d] D (full D) false (List.replicate n.toNat z) w.heap.size c.toNat (madeCells C.cells (c.toNat*C.cells.size)) (λ_ j=>C.cells.getD j undef)
        (bO _ _ _) (by rw[ht];exact heap_alloc_new w _) (by rw[size_madeCells,L]) (by rw[hlen];omega) ⟨by unfold maxLen;omega,λh=>by cases h⟩ (λT h' j x I=>?_) (λT h' j x I=>?_)
       ·rw[hlen]at this;exact this
       ·rw[List.getElem_replicate]at I;have J:j<aC D:=by have:=(c7.1 I).1;rwa [jn]at this
        rw[hlen]at h';rw[<-L]at J;rw[<-L,Xo C.cells _ T j J (by
         have:(T+1)*C.cells.size<=c.toNat*C.cells.size:=gS _ (by omega);rw[fQ]at this;omega)]
        simp[gE,J]
       ·rw[List.getElem_replicate]at I;have J:j<(enc D (full D) z).length:=(c7.1 I).1;rw[<-Q.1]at J;have U:=bK J;generalize vs[j]=y at U;obtain⟨v,O,QD⟩:=lD j y U;have nG:C.cells[j]?=some v:=by simpa using O
        have hg:C.cells.getD j undef=v:=by rw[gE,nG];rfl
        rw[hg];exact(Xm QD _).wk (Q.2 j y x U I)
      ·simp[cm,bO]
   ·cases h
 ·cases h
theorem Cl(t:TC)(h:full t=0)(o C:Nat)(x:T t):enc t o x=enc t C x:=by
 have key:∀ o,enc t o x=enc t 0 x:=by
  intro o;rw[W2 t o x];have:=wX t o x h
  conv=>lhs;rw[<-List.map_id (enc t o x)]
  apply ic;intro y D;have E:=this y D;cases y<;>first|rfl|cases E
 rw[key o,key C]
def uN(u:Nat->Nat->Value)(n s:Nat):aa Value:=(List.range (n*s)).map λk=>u (k / s) (k % s)
theorem Xp(u:Nat->Nat->Value)(n s i j:Nat)(hi:i<n)(C:j<s):(uN u n s)[i*s+j]?=some (u i j):=by
 have D:i*s+j<n*s:=by
  have:(i+1)*s<=n*s:=gS _ hi;rw[fQ]at this;omega
 have E:(i*s+j) / s=i:=by rw[Nat.add_comm,Nat.add_mul_div_right _ _ (by omega),Nat.div_eq_of_lt C,eN]
 have I:(i*s+j) % s=j:=by rw[Nat.add_comm,Nat.add_mul_mod_self_right,Nat.mod_eq_of_lt C]
 simp[uN,D,E,I]
theorem Kl(u:Nat->Nat->Value)(n s k:Nat)(v:Value)(D:0<s)(h:(uN u n s)[k]?=some v):∃ i j,k=i*s+j/\i<n/\j<s/\v=u i j:=by
 have C:k<n*s:=by
  have:=(c7.1 h).1
  simpa [uN]using this
 refine⟨k / s,k % s,by rw[Nat.mul_comm];exact(Nat.div_add_mod k s).symm,Nat.div_lt_of_lt_mul (by rw[Nat.mul_comm];exact C),Nat.mod_lt _ D,?_⟩;simp only[uN,cO,List.getElem?_range C,gF,fh]at h;exact h.symm
theorem zx(t:TC)(o:Nat)(x:T t)(j:Nat)(C:j<aC t):∃y,(enc t o x)[j]?=some y:=⟨_,bK (by rw[jn];exact C)⟩
def r3(t:TC)(l:aa (T t))(C:aa Value):Prop:=
 ∀i (hi:i<l.length) (o j:Nat) x,(enc t o l[i])[j]?=some x->∃v,C[i*aC t+j]?=some v/\v.oneCell'=true/\∀(w':World) (B':Nat) (aD:bA) (D:aa Nat),RV w' B' aD D x v
theorem RV.reads{q:aa Nat}{t:TC}{g:Nat}{qn:Bool}{l:aa (T t)}{u:Value}(h:RV w B ah q (.sl t g qn l) u)(O:full t=0):
  ∃A c news,u = .slice A l.length c/\Reads w w.heap.size (aC t) A l.length news/\(∀v∈news,v.oneCell'=true)/\r3 t l news:=by
 cases h with
 |cG=>exact⟨none,0,[],rfl,Reads.none_,by simp,λi hi=>by simp at hi⟩
 |cL=>exact⟨_,_,[],rfl,⟨by simp,λh=>by simp at h⟩,by simp,λi hi=>by simp at hi⟩
 |cV=>exact⟨_,_,[],rfl,⟨by simp,λh=>by simp at h⟩,by simp,λi hi=>by simp at hi⟩
 | aA _ _ _ _ _ b off cap us ho hl hb h1 mP Q J=>
  have L:∀ i (hi:i<l.length) j,j<aC t->(us i j).oneCell'=true:=by
   intro i hi j C;obtain⟨y,E⟩:=zx t g l[i] j C;exact(J i hi j y E).one
  refine⟨_,cap,uN us l.length (aC t),rfl,⟨by simp[uN],λY=>⟨b,off,rfl,hb,λk v I=>?_⟩⟩,λv I=>?_,λi hi o j x D=>?_⟩
  ·obtain⟨i,j,rfl,hi,C,rfl⟩:=Kl us _ _ k v (od t) I;obtain⟨y,E⟩:=zx t g l[i] j C;exact Q i hi j y E
  ·obtain⟨k,U⟩:=List.mem_iff_getElem?.1 I;obtain⟨i,j,rfl,hi,C,rfl⟩:=Kl us _ _ k v (od t) U;exact L i hi j C
  ·have C:j<aC t:=by have:=(c7.1 D).1;rwa [jn]at this
   rw[Cl t O o g]at D
   refine⟨us i j,Xp us _ _ i j hi C,L i hi j C,λw' B' aD q'=>(J i hi j x D).rX (wX t g l[i] O x (fL D))⟩
 | own _ _ o _ _ b cap cs us hl Z hs Y hm Q J=>
  have L:∀ i (hi:i<l.length) j,j<aC t->(us i j).oneCell'=true:=by
   intro i hi j C;obtain⟨y,E⟩:=zx t o l[i] j C;exact(J i hi j y E).one
  refine⟨_,cap,uN us l.length (aC t),rfl,⟨by simp[uN],λY=>⟨b,0,rfl,(fl.1 Z).1,λk v I=>?_⟩⟩,λv I=>?_,λi hi o' j x D=>?_⟩
  ·obtain⟨i,j,rfl,hi,C,rfl⟩:=Kl us _ _ k v (od t) I;obtain⟨y,E⟩:=zx t o l[i] j C;rw[eN,cell_of_row w b _ cs _ _ Z];exact Q i hi j y E
  ·obtain⟨k,U⟩:=List.mem_iff_getElem?.1 I;obtain⟨i,j,rfl,hi,C,rfl⟩:=Kl us _ _ k v (od t) U;exact L i hi j C
  ·have C:j<aC t:=by have:=(c7.1 D).1;rwa [jn]at this
   rw[Cl t O o' o]at D
   refine⟨us i j,Xp us _ _ i j hi C,L i hi j C,λw' B' aD q'=>(J i hi j x D).rX (wX t o l[i] O x (fL D))⟩
theorem RV.QE{q:aa Nat}{t:TC}{o:Nat}{D:Bool}{l:aa (T t)}{u:Value}(h:RV w B ah q (.sl t (o+2) D l) u)(E:full t=0){B':Nat}(hB:∀ b,ah b=some q->B'<=b):
  ∃xs,w.ownsRow B' (tid t) (aC t) u l.length xs/\(∀b,u.ownBlock=some b->ah b=some q)/\(D=true->u.ownBlock≠none)/\r3 t l xs:=by
 cases h with
 |cL=>omega
 |cV=>omega
 |cG=>exact⟨[],⟨by simp,.inl ⟨rfl,rfl⟩⟩,by simp[Value.ownBlock],by simp,λi hi=>by simp at hi⟩
 |aA _ _ _ _ _ _ _ _ _ ho=>omega
 | own _ _ _ _ _ b cap cs us hl O I J Q U L=>
  refine⟨cs.toList.take (l.length*aC t),⟨?_,.inr ⟨b,cap,cs,rfl,hB b hl,O,J,Q.1,I,rfl⟩⟩,λY Z=>?_,λ_=>by simp[Value.ownBlock],λi hi o' j x C=>?_⟩
  ·have qW:cs.toList.length=cap*aC t:=by rw[<-I];simp
   rw[fR,qW];have:=gS (aC t) J;omega
  ·have:b=Y:=by simpa [Value.ownBlock]using Z
   subst this;exact hl
  ·have hj:j<aC t:=by have:=(c7.1 C).1;rwa [jn]at this
   have dn:i*aC t+j<l.length*aC t:=by
    have:(i+1)*aC t<=l.length*aC t:=gS _ hi;rw[fQ]at this;omega
   rw[Cl t E o' o]at C
   refine⟨us i j,?_,(L i hi j x C).one,λw' B' aD q'=>(L i hi j x C).rX (wX t o l[i] E x (fL C))⟩
   rw[List.getElem?_take,bk dn,kX];exact U i hi j x C
theorem r3.append{t:TC}{l l2:aa (T t)}{xs ys:aa Value}(h:r3 t l xs)(I:r3 t l2 ys)(hl:xs.length=l.length*aC t):r3 t (l++l2) (xs++ys):=by
 intro i hi o j x C;have L:j<aC t:=by have:=(c7.1 C).1;rwa [jn]at this
 by_cases E:i<l.length
 ·rw[List.getElem_append_left E]at C;obtain⟨v,D,r⟩:=h i E o j x C;refine⟨v,?_,r⟩;rw[List.getElem?_append_left (c7.1 D).1];exact D
 ·rw[List.getElem_append_right (by omega)]at C;have J:i-l.length<l2.length:=by rw[mK]at hi;omega
  obtain⟨v,D,r⟩:=I (i-l.length) J o j x C;refine⟨v,?_,r⟩;have e:i*aC t+j=xs.length+((i-l.length)*aC t+j):=by
   rw[hl,Nat.sub_mul];have:l.length*aC t<=i*aC t:=gS _ (by omega);omega
  rw[e,List.getElem?_append_right (by omega),Nat.add_sub_cancel_left];exact D
theorem E2{q:aa Nat}{t:TC}{o:Nat}{l:aa (T t)}{u:Value}{xs:aa Value}{B':Nat}(h:w.ownsRow B' (tid t) (aC t) u l.length xs)(I:r3 t l xs)(hl:∀ b,u.ownBlock=some b->ah b=some q):
  RV w B ah q (.sl t (o+2) false l) u:=by
 rcases h.2 with ⟨rfl,J⟩|⟨b,cap,cs,rfl,hB,L,O,Q,U,Y⟩
 ·have:l=[]:=List.eq_nil_of_length_eq_zero J;subst this;exact .cG _ _ _
 ·have E:∀ i (hi:i<l.length) j x,(enc t o l[i])[j]?=some x->∃ v,cs[i*aC t+j]?=some v/\∀ (w':World) (B':Nat) (aD:bA) (Z:aa Nat),RV w' B' aD Z x v:=by
   intro i hi j x D;obtain⟨v,C,_,r⟩:=I i hi o j x D;refine⟨v,?_,r⟩;rw[<-Y,List.getElem?_take]at C;split at C
   ·rw[kX]at C;exact C
   ·cases C
  refine .own q t o false l b cap cs (λi j=>(cs[i*aC t+j]?).getD undef) (hl b rfl) L U O ⟨Q,λh=>by cases h⟩ (λi hi j x D=>?_) (λi hi j x D=>?_)
  ·obtain⟨v,C,_⟩:=E i hi j x D;rw[C];rfl
  ·obtain⟨v,C,r⟩:=E i hi j x D;rw[C];exact r _ _ _ _
theorem Rl.append{t e ty:TypeId}{C:TC}{i:TypeInfo}{z:Value}{rr o g:Nat}{q qn:Bool}{l l2:aa (T C)}{u v:Value}{q':aa Nat}{Bx:Nat}{QF:bA}(h:Rl w0 N ah ρ σ a w)(hF:w0.F rr=none)(gq:P.underlying t=some (.slice e))(ht:tid C=e)(hi:P.info? e=some i)(hz:i.zero=some z)
  (fE:i.size=aC C) (jN:i.bytes<=65536) (ov:z.cells.size=aC C) (hf:full C=0) (hd:RV w w0.heap.size ah [rr] (.sl C (o+2) q l) u) (hs:RV w Bx QF q' (.sl C g qn l2) v) (hlen:l.length+l2.length<1073741824):
  ∃D w' aD,(Builtin.append_ #[t,t] ty #[u,v]).run P w = .ok D w'/\Rl w0 N aD (bL ρ rr (.de D)) ((σ.drop rr).root rr (.sl (.sl C (o+2) false (l++l2)))) a w'/\kG D=true:=by
 subst ht;obtain⟨xs,r4,O,Cm,iH⟩:=hd.QE hf (B':=0) (λb _=>gn b);obtain⟨A,c,news,rfl,E3,ow,zy⟩:=hs.reads hf;have iw:(l.length+l2.length)*i.bytes<=140737488355328:=by
  have h1:(l.length+l2.length)*i.bytes<=1073741824*65536:=Nat.mul_le_mul (by omega) jN;omega
 obtain⟨D,w',dB,J,I,iI⟩:=O6 (P:=P) w 0 t ty (tid C) i z (aC C) i.bytes gq hi hz fE rfl ov (od C) u l.length xs r4 _ A l2.length c news E3 ow (by unfold maxLen;omega) iw (gn _);have uO:(l++l2).length=l.length+l2.length:=mK;rw[<-uO]at J;have tj:=iH.append zy r4.1;have fA:kG D=true:=by rcases J.2 with ⟨rfl,_⟩|⟨_,_,_,rfl,_⟩<;>rfl
 have Q:Below 0 w w':=(Below.refl 0 w).grown I (gn _) (λ_ _=>gn _);have ox:iF w0 w w':=⟨Q.os,Q.tape,Q.output,Q.size,λk E hL=>I.block k (jD E h.below.size) (λL=>by
  rcases(h.cH k _ (O k L.symm)).1 with h1|h1
  ·exact absurd E (Nat.not_lt.2 h1)
  ·exact h1 hL)⟩
 by_cases U:D.ownBlock=some w.heap.size
 ·have dn:w.heap.size<w'.heap.size:=by
   rcases J.2 with ⟨rfl,_⟩|⟨b,cap,cs,rfl,_,hh,_⟩
   ·cases U
   ·have:b=w.heap.size:=by simpa [Value.ownBlock]using U
    subst this;exact(fl.1 hh).1
  refine⟨D,w',bL ah w.heap.size (some [rr]),dB,h.ta hF ox ⟨I.size,λb hb Y=>I.block b hb (λL=>Y (O b L.symm)),λb hb=>cu _ _ _ (by omega),λb hb=>(h.cH b [] hb).2.2 rfl⟩ (λb k hb E=>?_) (λr Z=>cu _ _ _ Z) (.sl D _ (bO _ _ _) (E2 J tj (λb hb=>?_))),fA⟩
  ·by_cases e:b=w.heap.size
   ·subst e;rw[bO]at E;injection E with E;subst E;exact⟨dn,by simp⟩
   ·rw[cu _ _ _ e]at E;have:=(h.cH b k E).2.1;omega
  ·rw[U]at hb;injection hb with hb;subst hb;exact bO _ _ _
 ·have E4:D.ownBlock=u.ownBlock:=by
   rcases iI with iI|iI
   ·exact iI
   ·exact absurd iI U
  refine⟨D,w',ah,dB,h.ta hF ox ⟨I.size,λb hb Y=>I.block b hb (λL=>Y (O b L.symm)),λ_ _=>rfl,λb hb=>(h.cH b [] hb).2.2 rfl⟩ (λb k hb E=>?_) (λr Z=>cu _ _ _ Z) (.sl D _ (bO _ _ _) (E2 J tj (λb hb=>O b (by rw[<-E4];exact hb)))),fA⟩
  have:=(h.cH b k E).2.1;omega
theorem QG{t:TC}{x:V}{l:aa (T t)}(h:x.Kj t=some l){q:aa Nat}{u:Value}(D:RV w B ah q x u):∃ g C,RV w B ah q (.sl t g C l) u:=by
 unfold V.Kj at h;split at h
 ·rename_i I g C J;split at h
  next E=>subst E;injection h with h;subst h;exact⟨g,C,D⟩
  ·cases h
 ·injection h with h;subst h;cases D;exact⟨0,false,.cG _ _ _⟩
 ·cases h
theorem QH{x:Lf}{k:V->aj X}(h:gJ σ x k=some r):∃ y,(∀ ah ρ a w,Rl w0 N ah ρ σ a w->∀ u,cQ w w0.heap.size ah ρ x u->∃ q,RV w w0.heap.size ah q y u)/\k y=some r:=by
 cases x with
 |v z=>exact⟨z,λah ρ a w _ u D=>⟨[],D.2⟩,h⟩
 |dead=>cases h
 | own q=>
  obtain⟨z,E,h⟩:=qS q _ h
  refine⟨z,λah ρ a w hR u D=>?_,h⟩
  obtain⟨v,I,J⟩:=E.ok hR.root;have C:=D.2;rw[I]at C;injection C with C;subst C;exact⟨q,J⟩
theorem Xq{y:A}{k:V->aj X}(h:o6 σ y k=some r):∃ z,(∀ ah ρ a w,Rl w0 N ah ρ σ a w->∀ u,RA w w0.heap.size ah ρ y u->∃ q B' aD,RV w B' aD q z u)/\k z=some r:=by
 unfold o6 at h;split at h
 ·obtain⟨z,C,D⟩:=QH (w0:=w0) (N:=N) h;exact⟨z,λah ρ a w hR u E=>let ⟨q,I⟩:=C ah ρ a w hR u E;⟨q,_,_,I⟩,D⟩
 ·obtain⟨z,D,_,C⟩:=Xb h;exact⟨z,λah ρ a w hR u E=>⟨[],0,_,C _ _ _ _ _ _ hR u E 0⟩,D⟩
 ·cases h
theorem ah4{t ty:TypeId}{x y:A}{k:S->aj X}(h:pn P N σ d t x y k=some r):∃ dG,k dG=some r/\∀ ah ρ a w,Rl w0 N ah ρ σ a w->∀ u v,RA w w0.heap.size ah ρ x u->RA w w0.heap.size ah ρ y v->
  ∃w' aD ρ' z,(Builtin.append_ #[t,t] ty #[u,v]).run P w = .ok z w'/\Rl w0 N aD ρ' dG (a.put (some d) z) w':=by
 unfold pn at h;split at h
 ·rename_i e tc ot;obtain⟨gq,ht,i,hi,fE,jN⟩:=w8 ot;cases J:(Nat.beq (full tc) 0&&(zeroOf P e).any (λz=>Nat.beq z.cells.size (aC tc)))with
  |false=>rw[J]at h;cases h
  | true=>
   rw[J,ak]at h;rw[aK]at J;have hf:=bQ J.1;obtain⟨z,hz,O⟩:=(Option.any_eq_true _ _).1 J.2;have O:=bQ O;have ou:i.zero=some z:=by unfold zeroOf at hz;simpa [hi]using hz
   obtain⟨yv,Km,C⟩:=Xq (w0:=w0) (N:=N) h;clear h;split at C
   ·cases C
   ·rename_i l2 lD;split at C
    ·cases D:aT l2.length with
     |false=>rw[D]at C;cases C
     | true=>
      rw[D,ak]at C;have D:l2.length<1073741824:=by simpa [aT]using D
      obtain⟨Q,h3⟩:=oq C
      refine⟨_,h3,λah ρ a w hR u v L T=>?_⟩
      have L:u = .slice none 0 0:=by cases L.2;rfl
      subst L;obtain⟨q',_,_,E⟩:=Km ah ρ a w hR v T;obtain⟨g,qn,E⟩:=QG lD E;obtain⟨U,w',aD,Y,Z,fA⟩:=hR.append (ty:=ty) (rr:=d) (o:=0) (q:=false) (l:=[]) (hR.dm d (.inl Q)) gq ht hi ou fE jN O hf (.cG _ _ _) E (by simpa using D);exact⟨w',aD,_,U,Y,Z.set ⟨fA,by simp[cm,bO]⟩ Q⟩
    ·rename_i rr;split at C
     ·rename_i t' o q l hm;split at C
      ·rename_i kK;subst kK;cases D:(Nat.blt d N&&(Nat.blt rr N || Nat.ble 60000 rr)&&aT (l.length+l2.length))with
       |false=>rw[D]at C;cases C
       | true=>
        rw[D,ak]at C;rw[aK,aK,dy]at D;have E5:l.length+l2.length<1073741824:=by simpa [aT]using D.2
        have Q:d<N:=by have:=cB D.1.1;omega
        have mS:rr<N\/60000<=rr:=D.1.2.imp (λh=>by have:=cB h;omega) (λh=>cB h)
        refine⟨_,C,λah ρ a w hR u v L T=>?_⟩
        obtain⟨q',_,_,E⟩:=Km ah ρ a w hR v T;obtain⟨g,qn,E⟩:=QG lD E;have iz:=hR.root rr _ hm;generalize I:aP.sl (.sl t' (o+2) q l)=x at iz;cases iz with
        |ax=>cases I
        |mp=>cases I
        |gh=>cases I
        | sl uu y di hr=>
         injection I with I;subst I;have E0:uu=u:=by
          have h4:=L.2;simp only[cm,di]at h4;injection h4
         subst E0;obtain⟨U,w',aD,Y,Z,fA⟩:=hR.append (ty:=ty) (hR.dm rr mS) gq ht hi ou fE jN O hf hr E E5;exact⟨w',aD,_,U,Y,Z.set ⟨fA,by simp[cm,bO]⟩ Q⟩
      ·cases C
     ·cases C
    ·cases C
 ·cases h
theorem Rl.Xr{t:TC}{g p:Nat}{U:Bool}{l ys:aa (T t)}{news:aa Value}(h:Rl w0 N ah ρ σ a w)(hm:σ.m q=some (.sl (.sl t (g+2) U l)))(hf:full t=0)(hp:p+ys.length<=l.length)(nH:0<l.length)(iH:r3 t ys news)(r5:news.length=ys.length*aC t):
  ∃ b cap,ρ q = .de (.slice (some ⟨b,0,none⟩) l.length cap)/\l.length<=cap/\(∀ n,n<news.length->(w.cell? ⟨b,p*aC t+n,none⟩).isSome=true/\w.frozen? ⟨b,p*aC t+n,none⟩=false)/\
   Rl w0 N ah ρ ⟨σ.t,bL σ.m q (some (.sl (.sl t (g+2) U (splice l p ys))))⟩ a (w.setCells b (p*aC t) news):=by
 have iz:=h.root q _ hm;generalize L:aP.sl (.sl t (g+2) U l)=x at iz;cases iz with
 |ax=>cases L
 |mp=>cases L
 |gh=>cases L
 | sl v y di lE=>
  injection L with L;subst L;cases lE with
  |cG=>exact absurd nH (Nat.lt_irrefl 0)
  |cL=>exact absurd nH (Nat.lt_irrefl 0)
  |cV=>exact absurd nH (Nat.lt_irrefl 0)
  |aA _ _ _ _ _ _ _ _ _ ho=>omega
  | own _ _ _ _ _ b cap cs u o9 Y hs hn qQ hc Z=>
   have zl:(p+ys.length)*aC t<=cap*aC t:=gS _ (by omega);rw[Nat.add_mul]at zl;have lz:p*aC t+news.length<=cs.size:=by rw[r5,hs];exact zl
   have hW:=J8 w b (p*aC t) news;obtain⟨I,iw,mR⟩:=Eh b (tid t) news (p*aC t) w cs Y lz;have rY:∀ n,I[n]?=if n<p*aC t then cs[n]? else if n<p*aC t+news.length then news[n-p*aC t]? else cs[n]?:=by
    intro n;have e2:I[n]?=(splice cs.toList (p*aC t) news)[n]?:=by
     rw[show I[n]?=I.toList[n]? by simp,mR];rfl
    rw[e2,uG _ _ _ (by simpa using lz)];simp
   have EU:I.size=cs.size:=by
    rw[<-ke,mR];have:=uF cs.toList (p*aC t) news (by simpa using lz);simp only[splice]at this;rw[this];simp
   have r6:=od t;have hC:qd w (w.setCells b (p*aC t) news) ah ρ:=by
    intro k ad v ha E fA;by_cases dY:ad.block=b
    ·obtain⟨D,C,s',q',rfl,Qn,ahM,uH,_⟩:=uE k ad ha;have qR:ad=⟨b,ad.off,none⟩:=by cases ad;simp_all
     rw[qR,cell_of_row w b _ cs _ _ Y]at E;rw[qR,cell_of_row _ b _ I _ _ iw,rY];by_cases O:ad.off<p*aC t
     ·rw[bk O];exact E
     ·by_cases h2:ad.off<p*aC t+news.length
      ·exfalso;have hk:ad.off=(ad.off / aC t)*aC t+ad.off % aC t:=by rw[Nat.mul_comm];exact(Nat.div_add_mod _ _).symm
       have dn:ad.off<l.length*aC t:=by
        have:(p+ys.length)*aC t<=l.length*aC t:=gS _ hp;rw[Nat.add_mul]at this;omega
       have hi:ad.off / aC t<l.length:=Nat.div_lt_of_lt_mul (by rw[Nat.mul_comm];exact dn);obtain⟨y,hy⟩:=zx t g l[ad.off / aC t] (ad.off % aC t) (Nat.mod_lt _ r6);have h3:=hc _ hi _ y hy;rw[<-hk,E]at h3;injection h3 with h3;have:=(Z _ hi _ y hy).W9 (wX t g _ hf y (fL hy));rw[<-h3,fA]at this;cases this
      ·rw[bB O,bB h2];exact E
    ·exact(jZ (hW.block _ dY)).trans E
   have zk:cm w ah ρ [q]=some (.slice (some ⟨b,0,none⟩) l.length cap):=by simp only[cm,di]
   refine⟨b,cap,di,hn,λn uJ=>⟨?_,frozen_of_row w b _ cs _ Y⟩,h.wrote hW o9 hC ((wY.root q _ _ hm).ok h.root hW o9 (List.suffix_refl _) hC zk ?_)⟩
   ·rw[cell_of_row w b _ cs _ _ Y];simp;omega
   ·have hlen:(splice l p ys).length=l.length:=uF l p ys hp;have key:∀ C (h:C<(splice l p ys).length) (D:Nat) x,(enc t g (splice l p ys)[C])[D]?=some x->∃ v,I[C*aC t+D]?=some v/\RV (w.setCells b (p*aC t) news) w0.heap.size ah (D :: C :: aC t :: [q]) x v:=by
     intro C h' D x Q;have qP:D<aC t:=by have:=(c7.1 Q).1;rwa [jn]at this
     have J:=bK h';generalize (splice l p ys)[C]=e at J Q;rw[uG l p ys hp]at J;have wZ:=wX t g e hf x (fL Q);have Xs:l[C]?=some e->∃ v,cs[C*aC t+D]?=some v/\RV (w.setCells b (p*aC t) news) w0.heap.size ah (D :: C :: aC t :: [q]) x v:=λhle=>by
      obtain⟨hi,rfl⟩:=c7.1 hle;exact⟨_,hc C hi D x Q,(Z C hi D x Q).rX wZ⟩
     by_cases O:C<p
     ·rw[bk O]at J;have dn:(C+1)*aC t<=p*aC t:=gS _ O;rw[fQ]at dn;rw[rY,bk (by omega)];exact Xs J
     ·rw[bB O]at J;by_cases h2:C<p+ys.length
      ·rw[bk h2]at J;obtain⟨hi,rfl⟩:=c7.1 J;obtain⟨v,E,_,kI⟩:=iH (C-p) hi g D x Q;have aw6:(C-p)*aC t=C*aC t-p*aC t:=Nat.sub_mul _ _ _;have hle:p*aC t<=C*aC t:=gS _ (by omega);have dn:=(c7.1 E).1;refine⟨v,?_,kI _ _ _ _⟩;rw[rY,bB (by omega),bk (by omega),<-E];congr 1;omega
      ·rw[bB h2]at J;have mQ:(p+ys.length)*aC t<=C*aC t:=gS _ (by omega);rw[Nat.add_mul]at mQ;rw[rY,bB (by omega),bB (by rw[r5];omega)];exact Xs J
    rw[<-hlen]
    refine .own [q] t g U (splice l p ys) b cap I (λC D=>(I[C*aC t+D]?).getD undef) o9 iw (EU.trans hs) (by rw[hlen];exact hn) ⟨qQ.1,λh=>by rw[hlen];exact qQ.2 h⟩ (λC h D x og=>?_) (λC h D x og=>?_)
    ·obtain⟨v,E,_⟩:=key C h D x og;rw[E];rfl
    ·obtain⟨v,E,Z⟩:=key C h D x og;rw[E];exact Z
theorem Xt(b i c s:Nat):sliced (some ⟨b,0,none⟩) 0 i c s = .slice (some ⟨b,0,none⟩) i c:=by
 unfold sliced;split
 ·rfl
 ·rw[gF,Addr.add_lit];simp
def zz{X:Type}(P:Program)(N:Nat)(σ:S)(d:Nat)(t:TypeId)(x y:A)(k:S->aj X):aj X:=
 match x,y with
 | .view [q] s 0 i,.view [E] I j m=>(match tf P t with
  | some (e,C)=>bif Nat.beq E q&&Nat.beq s (aC C)&&Nat.beq I (aC C)&&Nat.beq (full C) 0&&Nat.blt d N then (match σ.m q with
   |some (.sl (.sl D (o+2) J l))=>bif Nat.beq (full D) 0&&Nat.beq (aC D) (aC C)then (if i<=j/\j<=m/\m<=l.length/\0<l.length then k ((σ.root q (.sl (.sl D (o+2) J (splice l i ((l.take m).drop j))))).set d (.view [q] s 0 (i+(m-j))))else none)else none
   |_=>none)else none
  |none=>none)
 |_,_=>none
theorem ah5{t ty:TypeId}{x y:A}{k:S->aj X}(h:zz P N σ d t x y k=some r):∃ dG,k dG=some r/\∀ ah ρ a w,Rl w0 N ah ρ σ a w->∀ u v,RA w w0.heap.size ah ρ x u->RA w w0.heap.size ah ρ y v->
  ∃w' aD ρ' z,(Builtin.append_ #[t,t] ty #[u,v]).run P w = .ok z w'/\Rl w0 N aD ρ' dG (a.put (some d) z) w':=by
 unfold zz at h;split at h
 ·rename_i q s i q' s' j m;split at h
  ·rename_i e D ot;obtain⟨gq,ht,inf,hi,O,jN⟩:=w8 ot;cases Q:(Nat.beq q' q&&Nat.beq s (aC D)&&Nat.beq s' (aC D)&&Nat.beq (full D) 0&&Nat.blt d N)with
   |false=>rw[Q]at h;cases h
   | true=>
    rw[Q,ak]at h;simp only[aK]at Q;obtain⟨⟨⟨⟨c1,c2⟩,c3⟩,c4⟩,c5⟩:=Q;obtain rfl:=bQ c1;obtain rfl:=bQ c2;obtain rfl:=bQ c3;have hd:d<N:=by have:=cB c5;omega
    split at h
    ·rename_i T g qn l hm;cases J:(Nat.beq (full T) 0&&Nat.beq (aC T) (aC D))with
     |false=>rw[J]at h;cases h
     | true=>
      rw[J,ak]at h;rw[aK]at J;have hf:=bQ J.1;have L:=bQ J.2;split at h
      ·rename_i hb;obtain⟨b1,b2,b3,b4⟩:=hb
       refine⟨_,h,λah ρ a w hR u v hu hv=>?_⟩
       obtain⟨A,n,c,QI,a1,a2,rfl⟩:=hu;obtain⟨A',n',c',U,a1',a2',rfl⟩:=hv;rw[QI]at U;injection U with U;injection U with C e2 e3;subst C e2 e3
       -- what is moved
       have iz:=hR.root q' _ hm;generalize E:aP.sl (.sl T (g+2) qn l)=x at iz;cases iz with
       |ax=>cases E
       |mp=>cases E
       |gh=>cases E
       | sl Y y di lE=>
        injection E with E;subst E;have Kn:Y = .slice A n c:=by
         simp only[cm,di]at QI;injection QI
        subst Kn;have Ko:RV w 0 (λ_=>none) [] (.sl T 0 qn l) (.slice A n c):=lE.gd;have hn:n=l.length:=by cases Ko<;>rfl
        obtain⟨hp,tq,qh⟩:=Ko.part (a:=j) (h:=m) (by omega) b2 (by omega);obtain⟨A2,c2,news,fA,Z,ow,iH⟩:=hp.reads hf;have hlen:((l.take m).drop j).length=m-j:=by rw[List.length_drop,fR];omega
        obtain⟨b,cap,js,mP,oy,gf⟩:=hR.Xr hm hf (p:=i) (ys:=(l.take m).drop j) (news:=news) (by rw[hlen];omega) b4 iH (by rw[hlen];exact hlen ▸ Z.1);rw[di]at js;injection js with js;injection js with C e2 e3;subst C e2 e3;rw[hlen]at fA;have Kp:sliced (some ⟨b,0,none⟩) 0 i c (aC D) = .slice (some ⟨b,0,none⟩) i c:=Xt b i c _;obtain⟨ad,Y⟩:∃ ad,sliced (some ⟨b,0,none⟩) j m c (aC D) = .slice (some ad) (m-j) (c-j):=by
         unfold sliced;by_cases Xu:c=j
         ·rw[bk Xu];exact⟨_,rfl⟩
         ·rw[bB Xu];exact⟨_,rfl⟩
        have QJ:A2=some ad:=by
         rw[L,Y]at fA;injection fA with C;exact C.symm
        subst QJ;have r5:news.length=(m-j)*inf.size:=by rw[Z.1,hlen,O,L]
        have dB:=run_append_room_cells (P:=P) w t ty e inf gq hi b 0 i c ad (m-j) (c-j) news r5 (λk u I=>by
         have nI:=(c7.1 I).1;have r6:0<((l.take m).drop j).length:=by
          rcases Nat.eq_zero_or_pos ((l.take m).drop j).length with h0|h0
          ·rw[Z.1,h0]at nI;omega
          ·exact h0
         obtain⟨b',zo,C,_,qW⟩:=Z.2 r6;injection C with C;subst C;rw[Addr.add_lit];exact qW k u I) ow (by omega) (λk I=>by rw[eN,O,<-L];exact(oy k I).1) (λk I=>by rw[eN,O,<-L];exact(oy k I).2)
        refine⟨_,ah,ρ,_,by rw[Kp,Y];exact dB,?_⟩;rw[eN,O,<-L];exact gf.set ⟨some ⟨b,0,none⟩,l.length,c,by simp only[cm,di],gn _,by omega,(Xt b _ c _).symm⟩ hd
      ·cases h
    ·cases h
  ·cases h
 ·cases h
theorem ah6{t:TypeId}{x y:A}{k:S->aj X}(h:zz P N σ d t x y k=some r):∃ I,k I=some r/\∀ (X:Type) (k:S->aj X),zz P N σ d t x y k=k I:=by
 unfold zz at h;split at h
 ·rename_i q s i L O j m;split at h
  ·rename_i e C Q;cases D:(Nat.beq L q&&Nat.beq s (aC C)&&Nat.beq O (aC C)&&Nat.beq (full C) 0&&Nat.blt d N)with
   |false=>rw[D]at h;cases h
   | true=>
    rw[D,ak]at h;split at h
    ·rename_i J g U l T;cases E:(Nat.beq (full J) 0&&Nat.beq (aC J) (aC C))with
     |false=>rw[E]at h;cases h
     | true=>
      rw[E,ak]at h;split at h
      ·rename_i hb
       refine⟨_,h,λX k=>?_⟩
       simp only[zz,Q,D,T,E,ak];rw[bk hb]
      ·cases h
    ·cases h
  ·cases h
 ·cases h
def zB{X:Type}(P:Program)(σ:S)(t:TypeId)(x:A)(k:S->aj X):aj X:=
 match x with
 | .view [q] s i j=>(match tf P t with
  | some (e,C)=>(match Ki P e C with
   | some z=>(match σ.m q with
    |some (.sl (.sl D (o+2) E l))=>if h:C=D then (bif Nat.beq s (aC C)&&Nat.beq (full C) 0 then (if i<=j/\j<=l.length then k (σ.root q (.sl (.sl D (o+2) E (splice l i (List.replicate (j-i) (h ▸ z))))))else none)else none)else none
    |_=>none)
   |none=>none)
  |none=>none)
 |_=>none
theorem ah7{t ty:TypeId}{x:A}{k:S->aj X}(h:zB P σ t x k=some r):∃ dG,k dG=some r/\∀ ah ρ a w,Rl w0 N ah ρ σ a w->∀ u,RA w w0.heap.size ah ρ x u->
  ∃w',(Builtin.clear_ #[t] ty #[u]).run P w = .ok (.tuple #[]) w'/\Rl w0 N ah ρ dG a w':=by
 unfold zB at h;split at h
 ·rename_i q s i j;split at h
  ·rename_i e C ot;obtain⟨gq,ht,inf,hi,fE,jN⟩:=w8 ot;split at h
   ·rename_i z O;split at h
    ·rename_i t' g Z l hm;split at h
     ·rename_i kK;subst kK;cases Q:(Nat.beq s (aC C)&&Nat.beq (full C) 0)with
      |false=>rw[Q]at h;cases h
      | true=>
       rw[Q,ak]at h;rw[aK]at Q;obtain rfl:=bQ Q.1;have hf:=bQ Q.2;split at h
       ·rename_i hb
        refine⟨_,h,λah ρ a w hR u hu=>?_⟩
        obtain⟨A,n,c,T,a1,a2,rfl⟩:=hu;unfold Ki at O;split at O
        ·cases O
        ·rename_i D zu;split at O
         ·cases O
         ·rename_i vs kJ;have ou:inf.zero=some D:=by unfold zeroOf at zu;simpa [hi]using zu
          obtain⟨th,lD⟩:=QC _ _ kJ;have E:=lu C (full C) vs z O;have ov:D.cells.size=aC C:=by rw[<-jn C (full C) z,<-E.1,th];simp
          have hzr:∀w:World,(zeroValue e).run P w = .ok D w:=λw=>by simp[zeroValue,typeInfo,hi,ou]
          rcases Nat.eq_zero_or_pos (j-i)with h0|h0
          ·have uH:splice l i (List.replicate (j-i) z)=l:=by rw[h0];simp[splice]
           refine⟨w,?_,?_⟩
           ·unfold sliced;rw[h0];cases (if c=i then A else A.map (·.add (i*aC C)))<;>simp[Builtin.clear_,gy gq]
           ·show Rl w0 N ah ρ (σ.root q (.sl (.sl C (g+2) Z (splice l i (List.replicate (j-i) z))))) a w;rw[uH];have:σ.root q (.sl (.sl C (g+2) Z l))=σ:=by
             unfold S.root;have:bL σ.m q (some (.sl (.sl C (g+2) Z l)))=σ.m:=by
              funext k;by_cases E:k=q
              ·subst E;rw[bO,hm]
              ·rw[cu _ _ _ E]
             rw[this]
            rw[this];exact hR
          ·have oz:(Builtin.zeroCells D.cells (j-i))=madeCells D.cells ((j-i)*D.cells.size):=rfl;have iH:r3 C (List.replicate (j-i) z) (Builtin.zeroCells D.cells (j-i)).toList:=by
            intro i' h' o' I x J;rw[List.getElem_replicate]at J;have hj:I<aC C:=by have:=(c7.1 J).1;rwa [jn]at this
            rw[lX]at h';have qP:=hj;rw[<-ov]at qP;have U:(Builtin.zeroCells D.cells (j-i)).toList[i'*aC C+I]?=some D.cells[I]:=by
             rw[oz,kX,<-ov];exact Xo D.cells _ i' I qP (by
              have:(i'+1)*D.cells.size<=(j-i)*D.cells.size:=gS _ (by omega);rw[fQ]at this;omega)
            rw[Cl C hf o' (full C)]at J;have E6:I<(enc C (full C) z).length:=(c7.1 J).1;rw[<-E.1]at E6;have hy:=bK E6;generalize vs[I]=y at hy;obtain⟨v,Y,QD⟩:=lD I y hy;have L:D.cells[I]=v:=by
             have e1:D.cells.toList[I]?=some D.cells[I]:=by simp[qP]
             rw[e1]at Y;injection Y
            have kI:∀(w':World) (B':Nat) (aD:bA) (q':aa Nat),RV w' B' aD q' x v:=λw' B' aD q'=>(Xm QD _).wk (E.2 I y x hy J)
            exact⟨_,U,by rw[L];exact(kI w 0 (λ_=>none) []).one,λw' B' aD q'=>by rw[L];exact kI _ _ _ _⟩
           have r5:(Builtin.zeroCells D.cells (j-i)).toList.length=(List.replicate (j-i) z).length*aC C:=by rw[oz,lX,ke,size_madeCells,ov]
           obtain⟨b,cap,di,mP,U,gf⟩:=hR.Xr hm hf (p:=i) (ys:=List.replicate (j-i) z) (by rw[lX];omega) (by omega) iH r5;simp only[cm,di]at T;injection T with T;injection T with e1 e2 e3;subst e1 e2 e3;refine⟨_,?_,gf⟩;have fA:sliced (some ⟨b,0,none⟩) i j cap (aC C) = .slice (some ⟨b,i*aC C,none⟩) (j-i) (cap-i):=by
            unfold sliced;rw[bB (by omega),gF,Addr.add_lit,eN]
           have kL:=run_storeCells_cells (P:=P) b (i*aC C) (Builtin.zeroCells D.cells (j-i)).toList 0 w (λk E=>(U k E).1) (λk E=>(U k E).2) (λv Y=>by
            obtain⟨k,E⟩:=List.mem_iff_getElem?.1 Y;have nI:=(c7.1 E).1;rw[r5,lX]at nI;have r6:=od C;obtain⟨x,J⟩:=zx C 0 z (k % aC C) (Nat.mod_lt _ r6);have dn:k / aC C<(List.replicate (j-i) z).length:=by rw[lX];exact Nat.div_lt_of_lt_mul (by rw[Nat.mul_comm];exact nI)
            obtain⟨v',L,ow,_⟩:=iH (k / aC C) dn 0 (k % aC C) x (by rw[List.getElem_replicate];exact J);rw[Nat.mul_comm,Nat.div_add_mod,E]at L;injection L with L;rw[L];exact ow)
           simp only[Nat.add_zero]at kL;rw[fA];obtain⟨n',uJ⟩:∃n',j-i=n'+1:=⟨j-i-1,by omega⟩
           rw[uJ]at kL ⊢;simp[Builtin.clear_,gy gq,hzr,kL]
       ·cases h
     ·cases h
    ·cases h
   ·cases h
  ·cases h
 ·cases h
theorem ah8{t:TypeId}{x:A}{k:S->aj X}(h:zB P σ t x k=some r):∃ D,k D=some r/\∀ (X:Type) (k:S->aj X),zB P σ t x k=k D:=by
 unfold zB at h;split at h
 ·rename_i q s i j;split at h
  ·rename_i e E I;split at h
   ·rename_i z J;split at h
    ·rename_i Q g T l L;split at h
     ·rename_i O;subst O;cases C:(Nat.beq s (aC E)&&Nat.beq (full E) 0)with
      |false=>rw[C]at h;cases h
      | true=>
       rw[C,ak]at h;split at h
       ·rename_i hb
        refine⟨_,h,λX k=>?_⟩
        simp only[zB,I,J,L,C,ak,dite_true];rw[bk hb]
       ·cases h
     ·cases h
    ·cases h
   ·cases h
  ·cases h
 ·cases h
end
def xb(place:Nat->aj (Nat×Nat))(cells:aa Lf):aa (Nat×A)->aj (aa Lf)
 |[]=>some cells
 | (i,x) :: rest=>match place i,x.w6 with
  |some (off,n),some xs=>if xs.length=n/\off+n<=cells.length then (bif xs.all Lf.live then xb place (splice cells off xs) rest else none)else none
  |_,_=>none
def Xv(P:Program)(t:TypeId):aj (Nat->aj (Nat×Nat)):=
 match P.underlying t with
 |some (.array _ e)=>(P.info? e).map λC=>λi=>some (i*C.size,C.size)
 |some (.struct fields)=>(fields.toList.mapM (λf=>(P.info? f.type).map λi=>(f.offset,i.size))).map λps=>(ps.toArray[·]?)
 |_=>none
def tu{X:Type}(P:Program)(σ:S)(t:TypeId)(parts:aa (Nat×Operand))(k:A->aj X):aj X:=
 match zeroOf P t,Xv P t with
 | some z,some pl=>match xb pl (z.cells.toList.map iy) (parts.map λp=>(p.1,aE σ p.2))with
  |some cs=>k (.agg cs)
  |none=>none
 |_,_=>none
def Lf.asV:Lf->aj V
 |.v x=>some x
 |_=>none
def tv:aa Lf->aj (aa V)
 |[]=>some []
 | x :: xs=>match x.asV,tv xs with
  |some y,some ys=>some (y::ys)
  |_,_=>none
def E7(t:TC)(g:Nat):Nat->aa V->aj (aa (T t))
 |0,[]=>some []
 |0,_=>none
 | n+1,C=>match dec t g (C.take (aC t)),E7 t g n (C.drop (aC t))with
  |some x,some xs=>some (x::xs)
  |_,_=>none
def zC{X:Type}(P:Program)(N:Nat)(σ:S)(d:Nat)(t:TypeId)(len:Nat)(parts:aa (Nat×Operand))(k:S->aj X):aj X:=
 match tf P t with
 | some (e,C)=>match zeroOf P e with
  | some z=>bif Nat.beq (full C) 0&&Nat.beq z.cells.size (aC C)&&Nat.blt (len*aC C) 16777217 then (match xb (λi=>some (i*aC C,aC C)) (List.replicate len (z.cells.toList.map iy)).flatten (parts.map λp=>(p.1,aE σ p.2))with
   | some cs=>(match tv cs with
    | some D=>(match E7 C 0 len D with
     |some l=>gV N σ d (.sl (.sl C 2 true l)) (.lf (.own [d])) k
     |none=>none)
    |none=>none)
   |none=>none)else none
  |none=>none
 |none=>none
section
variable {P:Program} {w w':World} {w0:Wd} {B N:Nat} {ah aD:bA} {ρ ρ':Nat->Loc} {σ:S} {a:Act} {X:Type} {d:Nat} {r:X}
theorem Xw(off:Nat):∀ (l:aa Value) (n:Nat) (cs:Array Value),off+n+l.length<=cs.size->
  ((l.zipIdx n).foldl (λ(cs:Array Value) (p:Value×Nat)=>cs.setIfInBounds (off+p.2) p.1) cs).toList=splice cs.toList (off+n) l
 |[],n,cs,_=>by simp[splice]
 | v :: l,n,cs,h=>by
  simp only[kB]at h;rw[List.zipIdx_cons,List.foldl_cons,Xw off l (n+1) (cs.setIfInBounds (off+n) v) (by simp;omega)];have C:off+n<cs.toList.length:=by simp;omega
  simp only[splice,Array.toList_setIfInBounds,kB];have D:(cs.toList.set (off+n) v).take (off+(n+1))=cs.toList.take (off+n)++[v]:=by
   rw[show off+(n+1)=off+n+1 by omega,List.take_succ_eq_append_getElem (by simpa using C),List.getElem_set_self,List.take_set_of_le (dV _)]
  have E:(cs.toList.set (off+n) v).drop (off+(n+1)+l.length)=cs.toList.drop (off+(n+1)+l.length):=by
   rw[List.drop_set_of_lt (by omega)]
  rw[D,E,show off+n+(l.length+1)=off+(n+1)+l.length by omega];simp
theorem dg.splice{cs xs:aa Lf}{D E:Array Value}(h:dg w B ah ρ cs D)(I:dg w B ah ρ xs E){off:Nat}(J:off+xs.length<=cs.length){L:Array Value}(Q:L.toList=Proofs.YtglnbhiaknohlaaGreat.splice D.toList off E.toList):dg w B ah ρ (Proofs.YtglnbhiaknohlaaGreat.splice cs off xs) L:=by
 have T:off+E.toList.length<=D.toList.length:=by rw[ke,ke,I.1,h.1];exact J
 refine⟨?_,λj x C=>?_⟩
 ·rw[uF _ _ _ J,<-ke,Q,uF _ _ _ T,ke,h.1]
 ·have e:L[j]?=(Proofs.YtglnbhiaknohlaaGreat.splice D.toList off E.toList)[j]?:=by rw[<-Q,kX]
  rw[e,uG _ _ _ T,ke,I.1];rw[uG _ _ _ J]at C;by_cases O:j<off
  ·simp only[O,if_true,kX]at C ⊢;exact h.2 j x C
  ·by_cases U:j<off+xs.length
   ·simp only[O,U,if_true,if_false,kX]at C ⊢;exact I.2 _ x C
   ·simp only[O,U,if_false,kX]at C ⊢;exact h.2 j x C
theorem Kq{place:Nat->aj (Nat×Nat)}:∀ (parts:aa (Nat×A)) (cells:aa Lf) (C:Array Value) (D:aa (Nat×Value)) (out:aa Lf),xb place cells parts=some out->dg w B ah ρ cells C->D.length=parts.length->
  (∀(j:Nat) p q,parts[j]?=some p->D[j]?=some q->p.1=q.1/\RA w B ah ρ p.2 q.2)->∃E,Instr.fill place C D=some E/\dg w B ah ρ out E
 | [],cells,C,D,out,h,hR,hl,I=>by
  have:D=[]:=List.eq_nil_of_length_eq_zero hl;subst this;injection h with h;subst h;exact⟨C,rfl,hR⟩
 | (i,x) :: rest,cells,C,D,out,h,hR,hl,I=>by
  cases D with
  |nil=>simp at hl
  | cons v D=>
   obtain⟨i',v⟩:=v;obtain⟨e,O⟩:=I 0 _ _ rfl rfl;simp only at e O;subst e;unfold xb at h;split at h
   ·rename_i off n xs T U;split at h
    ·rename_i hb;cases J:xs.all Lf.live with
     |false=>rw[J]at h;cases h
     | true=>
      rw[J,ak]at h;obtain⟨Q,_⟩:=EX U J O;have L:v.cells.size=n:=by rw[Q.1];exact hb.1
      have Y:¬ (off+v.cells.size > C.size):=by rw[L,hR.1];omega
      have Z:(v.cells.zipIdx.foldl (λ(cs:Array Value) (p:Value×Nat)=>cs.setIfInBounds (off+p.2) p.1) C).toList=Proofs.YtglnbhiaknohlaaGreat.splice C.toList off v.cells.toList:=by
       have:=Xw off v.cells.toList 0 C (by rw[ke];omega);rw[<-Array.foldl_toList,Array.toList_zipIdx];exact this
      have uH:=hR.splice Q (off:=off) (by rw[hb.1];exact hb.2) Z;obtain⟨E,o8,gf⟩:=Kq rest _ _ D out h uH (by simpa using hl) (λj p q hp' Qn=>I (j+1) p q (by simpa using hp') (by simpa using Qn));refine⟨E,?_,gf⟩;have dY:(v.cells.size≠n || off+v.cells.size > C.size)=false:=by
       simp only[L,ne_eq,not_true_eq_false,decide_false,Bool.false_or,lY];rw[<-L];exact Y
      simp only[Instr.fill,T];rw[bB (by rw[dY];simp)];exact o8
    ·cases h
   ·cases h
theorem ah9(z:Value):dg w B ah ρ (z.cells.toList.map iy) z.cells:=by
 refine⟨by simp,λj x C=>?_⟩
 rw[cO]at C;cases D:z.cells.toList[j]? with
 |none=>rw[D]at C;cases C
 | some v=>
  rw[D]at C;injection C with C;subst C;exact⟨v,by simpa using D,Kk v⟩
theorem aia{t:TypeId}{parts:Array (Nat×Operand)}{k:A->aj X}(h:tu P σ t parts.toList k=some r):∃ y,k y=some r/\∀ ah ρ a w,Rl w0 N ah ρ σ a w->
  ∃v,(Instr.build t (parts.map λ(i,x)=>(i,a.eval x))).run P w = .ok v w/\RA w w0.heap.size ah ρ y v:=by
 unfold tu at h;split at h
 ·rename_i z pl E C;split at h
  ·rename_i cs U
   refine⟨_,h,λah ρ a w hR=>?_⟩
   obtain⟨O,Q,Y⟩:=Kq (w:=w) (B:=w0.heap.size) (ah:=ah) (ρ:=ρ) _ _ z.cells (parts.toList.map λp=>(p.1,a.eval p.2)) cs U (ah9 z) (by simp) (λj p q D I=>by
    rw[cO]at D I;cases T:parts.toList[j]? with
    |none=>rw[T]at D;cases D
    | some x=>
     rw[T]at D I;injection D with D;injection I with I;subst D I;exact⟨rfl,hR.aE x.2⟩)
   refine⟨_,run_build (P:=P) w t _ O ?_,O,rfl,Y⟩;have Z:(parts.map λ(i,x)=>(i,a.eval x)).toList=parts.toList.map λp=>(p.1,a.eval p.2):=by simp
   rw[Z];unfold zeroOf at E;unfold Program.built;cases hi:P.info? t with
   |none=>simp[hi]at E
   | some i=>
    have E:i.zero=some z:=by simpa [hi]using E
    unfold Xv at C;split at C
    ·rename_i n e J;cases L:P.info? e with
     |none=>simp[L]at C
     | some ie=>
      rw[L]at C;injection C with C;subst C;simp only[J,E,L];exact Q
    ·rename_i fields J;cases D:fields.toList.mapM (λf=>(P.info? f.type).map λi=>(f.offset,i.size))with
     |none=>rw[D]at C;cases C
     | some ps=>
      rw[D]at C;injection C with C;subst C;simp only[J,E,D];exact Q
    ·cases C
  ·cases h
 ·cases h
theorem Kr:∀ (cs:aa Lf) (C:aa V),tv cs=some C->cs=C.map .v
 |[],C,h=>by injection h with h;subst h;rfl
 | x :: xs,C,h=>by
  unfold tv at h;split at h
  next y ys D E=>injection h with h;subst h;rw[Kr xs ys E,ig];cases x<;>first|(injection D with D;rw[D])|cases D
  ·cases h
theorem QK(t:TC)(g:Nat):∀ (n:Nat) (C:aa V) (l:aa (T t)),E7 t g n C=some l->l.length=n/\C.length=n*aC t/\∀ i (hi:i<l.length) (j:Nat) x,(enc t g l[i])[j]?=some x->∃ y,C[i*aC t+j]?=some y/\Wk y x
 | 0,[],l,h=>by
  injection h with h;subst h;exact⟨rfl,by simp,λi hi=>by simp at hi⟩
 |0,_::_,l,h=>by cases h
 | n+1,C,l,h=>by
  unfold E7 at h;split at h
  ·rename_i x xs O Q;injection h with h;subst h;obtain⟨U,Y,Z⟩:=QK t g n _ xs Q;have I:=lu t g _ x O;have hlen:(C.take (aC t)).length=aC t:=by rw[I.1,jn]
   have mQ:aC t<=C.length:=by rw[fR]at hlen;omega
   refine⟨by simp[U],?_,λi hi j y D=>?_⟩
   ·rw[List.length_drop]at Y;rw[fQ];omega
   ·cases i with
    | zero=>
     simp only[List.getElem_cons_zero]at D;have J:j<aC t:=by have:=(c7.1 D).1;rwa [jn]at this
     have E:=bK (l:=C.take (aC t)) (i:=j) (by rw[hlen];exact J);refine⟨_,?_,I.2 j _ y E D⟩;rw[List.getElem?_take,bk J]at E;rw[Nat.zero_mul,eN];exact E
    | succ i=>
     simp only[List.getElem_cons_succ]at D;obtain⟨z,L,hw⟩:=Z i (by simpa using hi) j y D;refine⟨z,?_,hw⟩;rw[List.getElem?_drop]at L;rw[fQ,show i*aC t+aC t+j=aC t+(i*aC t+j) by omega];exact L
  ·cases h
end
end Go.Proofs.YtglnbhiaknohlaaGreat
