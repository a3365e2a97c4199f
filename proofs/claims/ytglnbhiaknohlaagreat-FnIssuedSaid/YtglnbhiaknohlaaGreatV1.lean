/-
  Running the program over pure contents, and that it follows (part 1). Nothing here is a claim.
-/
import Derived.Test.YtglnbhiaknohlaaGreatAppend
import Derived.Test.YtglnbhiaknohlaaGreatLaws
import Derived.Handy
import Derived.Great.BuildSlice
import Derived.ArgAppend
set_option linter.unusedSimpArgs false
namespace Go.Proofs.YtglnbhiaknohlaaGreat
open Go.RowKit
set_option linter.defProp false
abbrev aa:=List
abbrev ah:=Option
abbrev af:=Unit
def aq:=@cond_true
def eA:=@Bool.or_eq_true
def aQ:=@Bool.and_eq_true
def cB:=@Nat.eq_of_beq_eq_true
def cK:=@Nat.le_of_ble_eq_true
def gX:=@List.mem_of_getElem?
def eJ:=@List.getElem?_map
def iO:=@Array.getElem?_eq_some_iff
def dJ:=@Nat.le_refl
def fh:=@Nat.zero_add
def au:=@cond_false
def cv:=@List.all_eq_true
def bx:=@congrArg
theorem bN.{u}{c:Prop}{h:Decidable c}(k:c:=by omega){α:Sort u}{t e:α}:ite c t e=t:=if_pos k
def eM:=@List.length_map
def iE:=@Array.getD_eq_getD_getElem?
def lS:=@Array.length_toList
theorem bO.{u}{c:Prop}{h:Decidable c}(k:¬c:=by omega){α:Sort u}{t e:α}:ite c t e=e:=if_neg k
def iY:=@List.length_set
def dQ:=@List.getElem?_eq_some_iff
def bS:=@List.getElem?_eq_getElem
def iZ:=@Nat.mul_le_mul_right
def iP:=@Nat.succ_mul
def gk:=@Sem.run_bind
def mz:=@Result.andThen_ok
def gY:=@run_underlying
def cS:=@List.getElem_mem
def ja:=@Nat.ble_eq_true_of_le
def iQ:=@Option.some.injEq
def ox:=@List.length_append
def gF:=@List.length_take
def m7:=@List.length_replicate
def fj:=@List.getD_eq_getElem?_getD
def pq:=@Bool.or_eq_false_iff
def iq:=@Bool.not_eq_true'
def gJ:=@List.mem_cons
def cm:=@Bool.true_and
def oy:=@List.mem_singleton
def kZ:=@List.nil_append
theorem aA.{u}{c:Prop}{h:Decidable c}(k:c:=by omega){α:Sort u}{t:c->α}{e:¬c->α}:dite c t e=t k:=dif_pos k
def fz:=@List.mem_range
def jM:=@List.getElem_range
theorem aZ{p:Prop}[Decidable p](k:p:=by omega):decide p=true:=decide_eq_true k
def gS:=@decide_eq_true_eq
def bK:=@Bool.not_true
def qt:=@Int.tmod_eq_emod_of_nonneg
def bC:=@Int.toNat_natCast
theorem bq{p:Prop}[Decidable p](k:¬p:=by omega):decide p=false:=decide_eq_false k
def dZ:=@Sum.elim_inl
def cc:=@Int.natCast_zero
def fA:=@Int.eq_ofNat_of_zero_le
def jz:=@List.take_length
def lT:=@beq_self_eq_true
def jN:=@List.mem_iff_getElem
def m8:=@List.findIdx?_eq_some_iff_getElem
def cT:=@List.length_range
def gZ:=@Bool.not_false
def qv:=@Int.tdiv_eq_ediv_of_nonneg
def qw:=@decide_eq_false_iff_not
def fT:=@beq_iff_eq
def jO:=@List.length_singleton
set_option linter.unusedVariables false
set_option linter.unusedSimpArgs false
structure aN where
 bR:Int
 aB:Int
 rows:Int
 aM:Int
structure aJ where
 ay:Int
 row:Int
 bL:Int
structure m9 where
 order:Int
 hash:Bool
structure aF where
 kind:Int
 ay:Int
 row:Int
 bL:Int
structure cP where
 fB:Int
 rp:Int
 ef:Int
 gn:Int
 fo:Int
 fC:Int
 gp:Int
 ga:Int
 eT:Int
 wr:Int
 gd:Int
 gq:Int
 gO:Int
 gu:Int
 gv:Int
 xp:Int
 xs:Int
structure eP where
 open_:Bool
 row:Int
structure cD where
 aB:List eP
 aR:Int
structure fk where
 at_:Int
 cmd:aF
structure dy where
 last:List Int
 bf:List Int
structure bX where
 symbols:List Int
 jb:Bool
structure dU where
 cells:List bX
 br:List Int
 bh:List Int
structure nc where
 br:Int
 bh:Int
structure ck where
 rows:List Int
 counts:List Int
 c9:Int
structure dG where
 bB:Int
 map:List Int
structure dn where
 aH:List Int
 wait:Int
 dL:Bool
structure aU where
 id:Int
 dh:Int
 line:Int
 write:Bool
 data:Int
 at_:Int
structure cw where
 weight:Int
 fD:Int
structure jn where
 on:Bool
 low:Int
 high:Int
structure fE where
 state:Int
 since:Int
 idle:Int
structure qx where
 down:Int
 sleep:Int
structure cq where
 line:Int
 code:Int
 times:Int
structure oz where
 next:Int
 every:Int
 wait:Int
structure dM where
 dz:Int
 cap:Int
 dK:Int
 low:Int
 high:Int
 weights:List Int
 cN:qx
structure iR where
 bz:dM
 next:dM
 waits:Bool
structure eB where
 ax:aN
 aE:cP
 mapping:m9
 bB:Int
 interval:Int
 eD:Int
 cA:nc
structure eR where
 id:Int
 at_:Int
 data:Int
 code:Int
structure av where
 config:eB
 box:iR
 now:Int
 bk:cD
 ready:dy
 array:dU
 spare:dG
 aL:dn
 bH:List ck
 guard:List Int
 pending:List aJ
 queue:List aU
 shares:List cw
 drain:jn
 aR:fE
 bY:oz
 errors:List cq
 trace:List fk
 cr:List eR
structure ke where
 kind:Int
 request:aU
 n:Int
 yE:Int
 addr:aJ
 nN:dM
structure aX where
 b:List Int
 i:Int
 h:Int
inductive TC where
 |int|u8|bool|str
 |fH
 |Addr
 |rI
 |Command
 |kf
 |ld
 |iS
 |Event
 |lU
 |Cell
 |Array
 |sQ
 |hD
 |oA
 |mA
 |dV
 |fU
 |rJ
 |Power
 |uB
 |gw
 |uC
 |mB
 |pz
 |Config
 |mC
 |de
 |Act
 |rK
 |sl (t:TC)
 |lV
 |F1 (g:Nat)
 |F2 (g:Nat)
 |AQ (g:Nat)
 |fnCommand (g:Nat)
deriving DecidableEq
def T:TC->Type
 |.int=>Int
 |.u8=>Int
 |.bool=>Bool
 |.str=>ByteArray
 |.fH=>aN
 |.Addr=>aJ
 |.rI=>m9
 |.Command=>aF
 |.kf=>cP
 |.ld=>eP
 |.iS=>cD
 |.Event=>fk
 |.lU=>dy
 |.Cell=>bX
 |.Array=>dU
 |.sQ=>nc
 |.hD=>ck
 |.oA=>dG
 |.mA=>dn
 |.dV=>aU
 |.fU=>cw
 |.rJ=>jn
 |.Power=>fE
 |.uB=>qx
 |.gw=>cq
 |.uC=>oz
 |.mB=>dM
 |.pz=>iR
 |.Config=>eB
 |.mC=>eR
 |.de=>av
 |.Act=>ke
 |.rK=>aX
 |.sl t=>aa (T t)
 |.lV=>av
 |.F1 _=>Int
 |.F2 _=>aU
 |.AQ _=>aJ
 |.fnCommand _=>aF
def aG:TC->Nat
 |.lV=>76
 |.F1 _=>3
 |.F2 _=>8
 |.AQ _=>5
 |.fnCommand _=>6
 |.fH=>4
 |.Addr=>3
 |.rI=>2
 |.Command=>4
 |.kf=>17
 |.ld=>2
 |.iS=>2
 |.Event=>5
 |.lU=>2
 |.Cell=>2
 |.Array=>3
 |.sQ=>2
 |.hD=>3
 |.oA=>2
 |.mA=>3
 |.dV=>6
 |.fU=>2
 |.rJ=>3
 |.Power=>3
 |.uB=>2
 |.gw=>3
 |.uC=>3
 |.mB=>8
 |.pz=>17
 |.Config=>28
 |.mC=>4
 |.de=>75
 |.Act=>20
 |.rK=>3
 |_=>1
def full:TC->Nat
 |.int|.u8|.bool|.str=>0
 |.fH=>0
 |.Addr=>0
 |.rI=>0
 |.Command=>0
 |.kf=>0
 |.ld=>0
 |.iS=>2
 |.Event=>0
 |.lU=>2
 |.Cell=>2
 |.Array=>4
 |.sQ=>0
 |.hD=>2
 |.oA=>2
 |.mA=>2
 |.dV=>0
 |.fU=>0
 |.rJ=>0
 |.Power=>0
 |.uB=>0
 |.gw=>0
 |.uC=>0
 |.mB=>2
 |.pz=>2
 |.Config=>0
 |.mC=>0
 |.de=>4
 |.Act=>2
 |.rK=>2
 |.sl t=>full t+2
 |.lV=>4
 |.F1 _=>0
 |.F2 _=>0
 |.AQ _=>0
 |.fnCommand _=>0
def tid:TC->TypeId
 |.int=>3
 |.u8=>5
 |.bool=>4
 |.str=>9
 |.fH=>25
 |.Addr=>137
 |.rI=>29
 |.Command=>79
 |.kf=>27
 |.ld=>157
 |.iS=>43
 |.Event=>81
 |.lU=>45
 |.Cell=>199
 |.Array=>48
 |.sQ=>31
 |.hD=>181
 |.oA=>50
 |.mA=>52
 |.dV=>73
 |.fU=>187
 |.rJ=>58
 |.Power=>60
 |.uB=>36
 |.gw=>190
 |.uC=>62
 |.mB=>38
 |.pz=>40
 |.Config=>33
 |.mC=>101
 |.de=>67
 |.Act=>249
 |.rK=>169
 |.sl .int=>34
 |.sl .bool=>284
 |.sl .str=>0
 |_=>0
inductive V where
 |int (k:IntKind) (n:Int)
 |bool (b:Bool)
 |str (s:ByteArray)
 |nil
 |sl (t:TC) (o:Nat) (q:Bool) (l:List (T t))
def V.bg:V->ah Int|.int .i64 n=>some n|_=>none
def V.SB:V->ah Int|.int .u8 n=>some n|_=>none
def V.nO:V->ah Bool|.bool b=>some b|_=>none
def V.SC:V->ah ByteArray|.str s=>some s|_=>none
def V.fl(t:TC)(o:Nat):V->ah (aa (T t))
 |.sl D C _ l=>bif Nat.beq C o ||(Nat.ble (full t+2) C&&Nat.ble (full t+2) o)then (if h:D=t then some (h ▸ l)else none)else none
 |.nil=>some []
 |_=>none
inductive Wk:V->V->Prop
 |same (x:V):Wk x x
 |nil (t:TC) (o:Nat):Wk .nil (.sl t o false [])
 |q (t:TC) (o:Nat) (l:List (T t)):Wk (.sl t o true l) (.sl t o false l)
 |gr (t:TC) (o o':Nat) (qn:Bool) (l:List (T t)) (h:full t+2<=o) (h':full t+2<=o'):Wk (.sl t o' qn l) (.sl t o false l)
def lu(xs ys:aa V):Prop:=xs.length=ys.length/\∀(j:Nat) (x y:V),xs[j]?=some x->ys[j]?=some y->Wk x y
def lu.nil:lu [] []:=⟨rfl,by simp⟩
def lu.cons{x y:V}{xs ys:aa V}(h:Wk x y)(k:lu xs ys):lu (x :: xs) (y :: ys):=by
 refine⟨by simp[k.1],λj a b C hb=>?_⟩
 cases j with
 |zero=>simp_all
 |succ j=>simp at C hb;exact k.2 j a b C hb
def V.amF{x:V}{n:Int}(h:x.bg=some n):Wk x (.int .i64 n):=by
 unfold V.bg at h;split at h<;>first|(injection h with h;subst h;exact .same _)|cases h
def V.amG{x:V}{n:Int}(h:x.SB=some n):Wk x (.int .u8 n):=by
 unfold V.SB at h;split at h<;>first|(injection h with h;subst h;exact .same _)|cases h
def V.amH{x:V}{n:Bool}(h:x.nO=some n):Wk x (.bool n):=by
 unfold V.nO at h;split at h<;>first|(injection h with h;subst h;exact .same _)|cases h
def V.amI{x:V}{n:ByteArray}(h:x.SC=some n):Wk x (.str n):=by
 unfold V.SC at h;split at h<;>first|(injection h with h;subst h;exact .same _)|cases h
def V.F3{x:V}{t:TC}{o:Nat}{l:aa (T t)}(h:x.fl t o=some l):Wk x (.sl t o false l):=by
 unfold V.fl at h;split at h
 ·rename_i E C q I;cases hc:(Nat.beq C o || (Nat.ble (full t+2) C&&Nat.ble (full t+2) o))with
  |false=>simp_all
  | true=>
   rw[hc,aq]at h;split at h
   ·rename_i D;subst D;injection h with h;subst h;rw[eA,aQ]at hc;rcases hc with hc | hc
    ·obtain rfl:=cB hc;cases q
     ·exact .same _
     ·exact .q _ _ _
    ·exact .gr _ _ _ _ _ (cK hc.2) (cK hc.1)
   ·cases h
 ·injection h with h;subst h;exact .nil _ _
 ·cases h
def C9(x:aJ)(o:Nat):aa V:=[.int .i64 x.ay,.int .i64 x.row,.int .i64 x.bL]
def Da(x:aF)(o:Nat):aa V:=[.int .i64 x.kind,.int .i64 x.ay,.int .i64 x.row,.int .i64 x.bL]
def Db(x:aU)(o:Nat):aa V:=[.int .i64 x.id,.int .i64 x.dh,.int .i64 x.line,.bool x.write,.int .i64 x.data,.int .i64 x.at_]
def Dc(x:av)(o:Nat):aa V:=[.int .i64 x.config.ax.bR,.int .i64 x.config.ax.aB,.int .i64 x.config.ax.rows,.int .i64 x.config.ax.aM,.int .i64 x.config.aE.fB,.int .i64 x.config.aE.rp,.int .i64 x.config.aE.ef,.int .i64 x.config.aE.gn,.int .i64 x.config.aE.fo,.int .i64 x.config.aE.fC,.int .i64 x.config.aE.gp,.int .i64 x.config.aE.ga,.int .i64 x.config.aE.eT,.int .i64 x.config.aE.wr,.int .i64 x.config.aE.gd,.int .i64 x.config.aE.gq,.int .i64 x.config.aE.gO,.int .i64 x.config.aE.gu,.int .i64 x.config.aE.gv,.int .i64 x.config.aE.xp,.int .i64 x.config.aE.xs,.int .i64 x.config.mapping.order,.bool x.config.mapping.hash,.int .i64 x.config.bB,.int .i64 x.config.interval,.int .i64 x.config.eD,.int .i64 x.config.cA.br,.int .i64 x.config.cA.bh,.int .i64 x.box.bz.dz,.int .i64 x.box.bz.cap,.int .i64 x.box.bz.dK,.int .i64 x.box.bz.low,.int .i64 x.box.bz.high,.sl .int o false x.box.bz.weights,.int .i64 x.box.bz.cN.down,.int .i64 x.box.bz.cN.sleep,.int .i64 x.box.next.dz,.int .i64 x.box.next.cap,.int .i64 x.box.next.dK,.int .i64 x.box.next.low,.int .i64 x.box.next.high,.sl .int o false x.box.next.weights,.int .i64 x.box.next.cN.down,.int .i64 x.box.next.cN.sleep,.bool x.box.waits,.int .i64 x.now,.sl .ld o false x.bk.aB,.int .i64 x.bk.aR,.sl .int o false x.ready.last,.sl .int o false x.ready.bf,.sl .Cell o false x.array.cells,.sl .int o false x.array.br,.sl .int o false x.array.bh,.int .i64 x.spare.bB,.sl .int o false x.spare.map,.sl .int o false x.aL.aH,.int .i64 x.aL.wait,.bool x.aL.dL,.sl .hD o false x.bH,.sl .int o false x.guard,.sl .Addr o false x.pending,.sl .dV o false x.queue,.sl .fU o false x.shares,.bool x.drain.on,.int .i64 x.drain.low,.int .i64 x.drain.high,.int .i64 x.aR.state,.int .i64 x.aR.since,.int .i64 x.aR.idle,.int .i64 x.bY.next,.int .i64 x.bY.every,.int .i64 x.bY.wait,.sl .gw o false x.errors,.sl .Event o false x.trace,.sl .mC o false x.cr]
def enc:(t:TC)->(o:Nat)->T t->aa V
 |.int,_,x=>[.int .i64 x]
 |.u8,_,x=>[.int .u8 x]
 |.bool,_,x=>[.bool x]
 |.str,_,x=>[.str x]
 |.fH,o,x=>[.int .i64 x.bR,.int .i64 x.aB,.int .i64 x.rows,.int .i64 x.aM]
 |.Addr,o,x=>C9 x o
 |.rI,o,x=>[.int .i64 x.order,.bool x.hash]
 |.Command,o,x=>Da x o
 |.kf,o,x=>[.int .i64 x.fB,.int .i64 x.rp,.int .i64 x.ef,.int .i64 x.gn,.int .i64 x.fo,.int .i64 x.fC,.int .i64 x.gp,.int .i64 x.ga,.int .i64 x.eT,.int .i64 x.wr,.int .i64 x.gd,.int .i64 x.gq,.int .i64 x.gO,.int .i64 x.gu,.int .i64 x.gv,.int .i64 x.xp,.int .i64 x.xs]
 |.ld,o,x=>[.bool x.open_,.int .i64 x.row]
 |.iS,o,x=>[.sl .ld o false x.aB,.int .i64 x.aR]
 |.Event,o,x=>[.int .i64 x.at_,.int .i64 x.cmd.kind,.int .i64 x.cmd.ay,.int .i64 x.cmd.row,.int .i64 x.cmd.bL]
 |.lU,o,x=>[.sl .int o false x.last,.sl .int o false x.bf]
 |.Cell,o,x=>[.sl .int o false x.symbols,.bool x.jb]
 |.Array,o,x=>[.sl .Cell o false x.cells,.sl .int o false x.br,.sl .int o false x.bh]
 |.sQ,o,x=>[.int .i64 x.br,.int .i64 x.bh]
 |.hD,o,x=>[.sl .int o false x.rows,.sl .int o false x.counts,.int .i64 x.c9]
 |.oA,o,x=>[.int .i64 x.bB,.sl .int o false x.map]
 |.mA,o,x=>[.sl .int o false x.aH,.int .i64 x.wait,.bool x.dL]
 |.dV,o,x=>Db x o
 |.fU,o,x=>[.int .i64 x.weight,.int .i64 x.fD]
 |.rJ,o,x=>[.bool x.on,.int .i64 x.low,.int .i64 x.high]
 |.Power,o,x=>[.int .i64 x.state,.int .i64 x.since,.int .i64 x.idle]
 |.uB,o,x=>[.int .i64 x.down,.int .i64 x.sleep]
 |.gw,o,x=>[.int .i64 x.line,.int .i64 x.code,.int .i64 x.times]
 |.uC,o,x=>[.int .i64 x.next,.int .i64 x.every,.int .i64 x.wait]
 |.mB,o,x=>[.int .i64 x.dz,.int .i64 x.cap,.int .i64 x.dK,.int .i64 x.low,.int .i64 x.high,.sl .int o false x.weights,.int .i64 x.cN.down,.int .i64 x.cN.sleep]
 |.pz,o,x=>[.int .i64 x.bz.dz,.int .i64 x.bz.cap,.int .i64 x.bz.dK,.int .i64 x.bz.low,.int .i64 x.bz.high,.sl .int o false x.bz.weights,.int .i64 x.bz.cN.down,.int .i64 x.bz.cN.sleep,.int .i64 x.next.dz,.int .i64 x.next.cap,.int .i64 x.next.dK,.int .i64 x.next.low,.int .i64 x.next.high,.sl .int o false x.next.weights,.int .i64 x.next.cN.down,.int .i64 x.next.cN.sleep,.bool x.waits]
 |.Config,o,x=>[.int .i64 x.ax.bR,.int .i64 x.ax.aB,.int .i64 x.ax.rows,.int .i64 x.ax.aM,.int .i64 x.aE.fB,.int .i64 x.aE.rp,.int .i64 x.aE.ef,.int .i64 x.aE.gn,.int .i64 x.aE.fo,.int .i64 x.aE.fC,.int .i64 x.aE.gp,.int .i64 x.aE.ga,.int .i64 x.aE.eT,.int .i64 x.aE.wr,.int .i64 x.aE.gd,.int .i64 x.aE.gq,.int .i64 x.aE.gO,.int .i64 x.aE.gu,.int .i64 x.aE.gv,.int .i64 x.aE.xp,.int .i64 x.aE.xs,.int .i64 x.mapping.order,.bool x.mapping.hash,.int .i64 x.bB,.int .i64 x.interval,.int .i64 x.eD,.int .i64 x.cA.br,.int .i64 x.cA.bh]
 |.mC,o,x=>[.int .i64 x.id,.int .i64 x.at_,.int .i64 x.data,.int .i64 x.code]
 |.de,o,x=>Dc x o
 |.Act,o,x=>[.int .i64 x.kind,.int .i64 x.request.id,.int .i64 x.request.dh,.int .i64 x.request.line,.bool x.request.write,.int .i64 x.request.data,.int .i64 x.request.at_,.int .i64 x.n,.int .i64 x.yE,.int .i64 x.addr.ay,.int .i64 x.addr.row,.int .i64 x.addr.bL,.int .i64 x.nN.dz,.int .i64 x.nN.cap,.int .i64 x.nN.dK,.int .i64 x.nN.low,.int .i64 x.nN.high,.sl .int o false x.nN.weights,.int .i64 x.nN.cN.down,.int .i64 x.nN.cN.sleep]
 |.rK,o,x=>[.sl .u8 o false x.b,.int .i64 x.i,.int .i64 x.h]
 |.sl t,o,x=>[.sl t o false x]
 |.lV,o,x=>.bool true::Dc x o
 |.F1 g,o,x=>.bool false::.int .i64 (g:Int)::[.int .i64 x]
 |.F2 g,o,x=>.bool false::.int .i64 (g:Int)::Db x o
 |.AQ g,o,x=>.bool false::.int .i64 (g:Int)::C9 x o
 |.fnCommand g,o,x=>.bool false::.int .i64 (g:Int)::Da x o
def dF{α β:Type}(g:V->ah β)(f:β->aa V->ah α):aa V->ah α
 |x::cs=>(g x).bind λy=>f y cs
 |[]=>none
def dE{α:Type}(x:α):aa V->ah α
 |[]=>some x
 |_=>none
def V.dN(b:Bool):V->ah Bool|.bool c=>bif c==b then some c else none|_=>none
def V.Dd(n:Int):V->ah Int|.int .i64 m=>if m=n then some m else none|_=>none
def DQ{α:Type}(e:α->aa V)(p:aa V->aa V)(d:aa V->ah α):Prop:=∀cs x,d cs=some x->∃L,e x=p L/\lu cs L
def amJ{α:Type}{e:α->aa V}{p:aa V->aa V}{x:α}(h:e x=p []):DQ e p (dE x):=λcs y C=>by
 cases cs with
 |nil=>injection C with C;subst C;exact⟨[],h,.nil⟩
 |cons=>cases C
def bind_some{α β:Type}{a:ah α}{f:α -> ah β}{b:β}(h:a.bind f=some b):∃ x,a=some x/\f x=some b:=by
 cases a with
 |none=>cases h
 |some x=>simp_all
def AR{α β:Type}{e:α->aa V}{p:aa V->aa V}{g:V->ah β}{k:β->V}(D:∀ {x y},g x=some y->Wk x (k y)){f:β->aa V->ah α}(E:∀ y,DQ e (λL=>p (k y :: L)) (f y)):DQ e p (dF g f):=λcs x C=>by
 cases cs with
 |nil=>cases C
 | cons c cs=>
  obtain⟨y,I,O⟩:=bind_some C;obtain⟨L,T,U⟩:=E y cs x O;exact⟨k y::L,T,.cons (D I) U⟩
def V.amK{b:Bool}{x:V}{c:Bool}(h:x.dN b=some c):Wk x (.bool b):=by
 unfold V.dN at h;split at h
 next C=>cases C<;>cases b<;>first|exact .same _|cases h
 ·cases h
def V.amL{n:Int}{x:V}{c:Int}(h:x.Dd n=some c):Wk x (.int .i64 n):=by
 unfold V.Dd at h;split at h
 ·split at h
  next C=>subst C;exact .same _
  ·cases h
 ·cases h
abbrev Z0 (o:Nat):aa V->ah aJ:=dF V.bg λC=>dF V.bg λD=>dF V.bg λE=>dE ⟨C,D,E⟩
abbrev Z1 (o:Nat):aa V->ah aF:=dF V.bg λC=>dF V.bg λD=>dF V.bg λE=>dF V.bg λI=>dE ⟨C,D,E,I⟩
abbrev Z2 (o:Nat):aa V->ah aU:=dF V.bg λC=>dF V.bg λD=>dF V.bg λE=>dF V.nO λI=>dF V.bg λL=>dF V.bg λO=>dE ⟨C,D,E,I,L,O⟩
abbrev Z3 (o:Nat):aa V->ah av:=dF V.bg λC=>dF V.bg λD=>dF V.bg λE=>dF V.bg λI=>dF V.bg λL=>dF V.bg λO=>dF V.bg λT=>dF V.bg λU=>dF V.bg λY=>dF V.bg λZ=>dF V.bg λvZ=>dF V.bg λv5=>dF V.bg λv7=>dF V.bg λv8=>dF V.bg λv9=>dF V.bg λwe=>dF V.bg λwg=>dF V.bg λF4=>dF V.bg λF5=>dF V.bg λF6=>dF V.bg λSD=>dF V.bg λSE=>dF V.nO λSF=>dF V.bg λSG=>dF V.bg λSH=>dF V.bg λSI=>dF V.bg λSJ=>dF V.bg λSK=>dF V.bg λx28=>dF V.bg λx29=>dF V.bg λx30=>dF V.bg λx31=>dF V.bg λx32=>dF (V.fl .int o) λx33=>dF V.bg λx34=>dF V.bg λx35=>dF V.bg λx36=>dF V.bg λx37=>dF V.bg λx38=>dF V.bg λx39=>dF V.bg λx40=>dF (V.fl .int o) λx41=>dF V.bg λx42=>dF V.bg λx43=>dF V.nO λx44=>dF V.bg λx45=>dF (V.fl .ld o) λx46=>dF V.bg λx47=>dF (V.fl .int o) λx48=>dF (V.fl .int o) λx49=>dF (V.fl .Cell o) λx50=>dF (V.fl .int o) λx51=>dF (V.fl .int o) λx52=>dF V.bg λx53=>dF (V.fl .int o) λx54=>dF (V.fl .int o) λx55=>dF V.bg λx56=>dF V.nO λx57=>dF (V.fl .hD o) λx58=>dF (V.fl .int o) λx59=>dF (V.fl .Addr o) λx60=>dF (V.fl .dV o) λx61=>dF (V.fl .fU o) λx62=>dF V.nO λx63=>dF V.bg λx64=>dF V.bg λx65=>dF V.bg λx66=>dF V.bg λx67=>dF V.bg λx68=>dF V.bg λx69=>dF V.bg λx70=>dF V.bg λx71=>dF (V.fl .gw o) λx72=>dF (V.fl .Event o) λx73=>dF (V.fl .mC o) λx74=>dE ⟨⟨⟨C,D,E,I⟩,⟨L,O,T,U,Y,Z,vZ,v5,v7,v8,v9,we,wg,F4,F5,F6,SD⟩,⟨SE,SF⟩,SG,SH,SI,⟨SJ,SK⟩⟩,⟨⟨x28,x29,x30,x31,x32,x33,⟨x34,x35⟩⟩,⟨x36,x37,x38,x39,x40,x41,⟨x42,x43⟩⟩,x44⟩,x45,⟨x46,x47⟩,⟨x48,x49⟩,⟨x50,x51,x52⟩,⟨x53,x54⟩,⟨x55,x56,x57⟩,x58,x59,x60,x61,x62,⟨x63,x64,x65⟩,⟨x66,x67,x68⟩,⟨x69,x70,x71⟩,x72,x73,x74⟩
def dec:(t:TC)->(o:Nat)->aa V->ah (T t)
 |.int,_=>dF V.bg dE
 |.u8,_=>dF V.SB dE
 |.bool,_=>dF V.nO dE
 |.str,_=>dF V.SC dE
 |.fH,o=>dF V.bg λC=>dF V.bg λD=>dF V.bg λE=>dF V.bg λI=>dE ⟨C,D,E,I⟩
 |.Addr,o=>Z0 o
 |.rI,o=>dF V.bg λC=>dF V.nO λD=>dE ⟨C,D⟩
 |.Command,o=>Z1 o
 |.kf,o=>dF V.bg λC=>dF V.bg λD=>dF V.bg λE=>dF V.bg λI=>dF V.bg λL=>dF V.bg λO=>dF V.bg λU=>dF V.bg λY=>dF V.bg λZ=>dF V.bg λx9=>dF V.bg λvZ=>dF V.bg λv5=>dF V.bg λv7=>dF V.bg λv8=>dF V.bg λv9=>dF V.bg λwe=>dF V.bg λwg=>dE ⟨C,D,E,I,L,O,U,Y,Z,x9,vZ,v5,v7,v8,v9,we,wg⟩
 |.ld,o=>dF V.nO λC=>dF V.bg λD=>dE ⟨C,D⟩
 |.iS,o=>dF (V.fl .ld o) λC=>dF V.bg λD=>dE ⟨C,D⟩
 |.Event,o=>dF V.bg λC=>dF V.bg λD=>dF V.bg λE=>dF V.bg λI=>dF V.bg λL=>dE ⟨C,⟨D,E,I,L⟩⟩
 |.lU,o=>dF (V.fl .int o) λC=>dF (V.fl .int o) λD=>dE ⟨C,D⟩
 |.Cell,o=>dF (V.fl .int o) λC=>dF V.nO λD=>dE ⟨C,D⟩
 |.Array,o=>dF (V.fl .Cell o) λC=>dF (V.fl .int o) λD=>dF (V.fl .int o) λE=>dE ⟨C,D,E⟩
 |.sQ,o=>dF V.bg λC=>dF V.bg λD=>dE ⟨C,D⟩
 |.hD,o=>dF (V.fl .int o) λC=>dF (V.fl .int o) λD=>dF V.bg λE=>dE ⟨C,D,E⟩
 |.oA,o=>dF V.bg λC=>dF (V.fl .int o) λD=>dE ⟨C,D⟩
 |.mA,o=>dF (V.fl .int o) λC=>dF V.bg λD=>dF V.nO λE=>dE ⟨C,D,E⟩
 |.dV,o=>Z2 o
 |.fU,o=>dF V.bg λC=>dF V.bg λD=>dE ⟨C,D⟩
 |.rJ,o=>dF V.nO λC=>dF V.bg λD=>dF V.bg λE=>dE ⟨C,D,E⟩
 |.Power,o=>dF V.bg λC=>dF V.bg λD=>dF V.bg λE=>dE ⟨C,D,E⟩
 |.uB,o=>dF V.bg λC=>dF V.bg λD=>dE ⟨C,D⟩
 |.gw,o=>dF V.bg λC=>dF V.bg λD=>dF V.bg λE=>dE ⟨C,D,E⟩
 |.uC,o=>dF V.bg λC=>dF V.bg λD=>dF V.bg λE=>dE ⟨C,D,E⟩
 |.mB,o=>dF V.bg λC=>dF V.bg λD=>dF V.bg λE=>dF V.bg λI=>dF V.bg λL=>dF (V.fl .int o) λO=>dF V.bg λU=>dF V.bg λY=>dE ⟨C,D,E,I,L,O,⟨U,Y⟩⟩
 |.pz,o=>dF V.bg λC=>dF V.bg λD=>dF V.bg λE=>dF V.bg λI=>dF V.bg λL=>dF (V.fl .int o) λO=>dF V.bg λU=>dF V.bg λY=>dF V.bg λZ=>dF V.bg λx9=>dF V.bg λvZ=>dF V.bg λv5=>dF V.bg λv7=>dF (V.fl .int o) λv8=>dF V.bg λv9=>dF V.bg λwe=>dF V.nO λwg=>dE ⟨⟨C,D,E,I,L,O,⟨U,Y⟩⟩,⟨Z,x9,vZ,v5,v7,v8,⟨v9,we⟩⟩,wg⟩
 |.Config,o=>dF V.bg λC=>dF V.bg λD=>dF V.bg λE=>dF V.bg λI=>dF V.bg λL=>dF V.bg λO=>dF V.bg λU=>dF V.bg λY=>dF V.bg λZ=>dF V.bg λx9=>dF V.bg λvZ=>dF V.bg λv5=>dF V.bg λv7=>dF V.bg λv8=>dF V.bg λv9=>dF V.bg λwe=>dF V.bg λwg=>dF V.bg λF4=>dF V.bg λF5=>dF V.bg λF6=>dF V.bg λSD=>dF V.bg λSE=>dF V.nO λSF=>dF V.bg λSG=>dF V.bg λSH=>dF V.bg λSI=>dF V.bg λSJ=>dF V.bg λSK=>dE ⟨⟨C,D,E,I⟩,⟨L,O,U,Y,Z,x9,vZ,v5,v7,v8,v9,we,wg,F4,F5,F6,SD⟩,⟨SE,SF⟩,SG,SH,SI,⟨SJ,SK⟩⟩
 |.mC,o=>dF V.bg λC=>dF V.bg λD=>dF V.bg λE=>dF V.bg λI=>dE ⟨C,D,E,I⟩
 |.de,o=>Z3 o
 |.Act,o=>dF V.bg λC=>dF V.bg λD=>dF V.bg λE=>dF V.bg λI=>dF V.nO λL=>dF V.bg λO=>dF V.bg λU=>dF V.bg λY=>dF V.bg λZ=>dF V.bg λx9=>dF V.bg λvZ=>dF V.bg λv5=>dF V.bg λv7=>dF V.bg λv8=>dF V.bg λv9=>dF V.bg λwe=>dF V.bg λwg=>dF (V.fl .int o) λF4=>dF V.bg λF5=>dF V.bg λF6=>dE ⟨C,⟨D,E,I,L,O,U⟩,Y,Z,⟨x9,vZ,v5⟩,⟨v7,v8,v9,we,wg,F4,⟨F5,F6⟩⟩⟩
 |.rK,o=>dF (V.fl .u8 o) λC=>dF V.bg λD=>dF V.bg λE=>dE ⟨C,D,E⟩
 |.sl t,o=>dF (V.fl t o) dE
 |.lV,o=>dF (V.dN true) λ_=>Z3 o
 |.F1 g,o=>dF (V.dN false) λ_=>dF (V.Dd g) λ_=>dF V.bg dE
 |.F2 g,o=>dF (V.dN false) λ_=>dF (V.Dd g) λ_=>Z2 o
 |.AQ g,o=>dF (V.dN false) λ_=>dF (V.Dd g) λ_=>Z0 o
 |.fnCommand g,o=>dF (V.dN false) λ_=>dF (V.Dd g) λ_=>Z1 o
def Z4:TC->Nat->aa V
 |.de,o=>Dc ⟨⟨⟨0,0,0,0⟩,⟨0,0,0,0,0,0,0,0,0,0,0,0,0,0,0,0,0⟩,⟨0,false⟩,0,0,0,⟨0,0⟩⟩,⟨⟨0,0,0,0,0,[],⟨0,0⟩⟩,⟨0,0,0,0,0,[],⟨0,0⟩⟩,false⟩,0,⟨[],0⟩,⟨[],[]⟩,⟨[],[],[]⟩,⟨0,[]⟩,⟨[],0,false⟩,[],[],[],[],[],⟨false,0,0⟩,⟨0,0,0⟩,⟨0,0,0⟩,[],[],[]⟩ o
 |_,_=>[]
def kL(t:TC)(o:Nat)(x:T t):(enc t o x).length=aG t:=by cases t<;>rfl
def oB(t:TC):0<aG t:=by cases t<;>simp[aG]
def amM(t:TC)(o:Nat):DQ (enc t o) id (dec t o):=by
 cases t<;>dsimp only[dec]<;>(repeat' first|exact amJ rfl|refine AR V.amF λ_=>?_|refine AR V.amH λ_=>?_|refine AR V.F3 λ_=>?_|refine AR V.amI λ_=>?_|refine AR V.amG λ_=>?_|refine AR V.amK λ_=>?_|refine AR V.amL λ_=>?_)
def lW(t:TC)(o:Nat)(cs:aa V)(x:T t)(h:dec t o cs=some x):lu cs (enc t o x):=by
 obtain⟨L,C,D⟩:=amM t o cs x h;rw[C];exact D
def V.low(n:Nat):V->Bool
 |.sl t _ _ _=>Nat.ble (full t+2) n
 |_=>true
def Md(t:TC)(o:Nat)(x:T t):∀ y∈enc t o x,y.low (full t)=true:=by
 cases t<;>simp[enc,V.low,full,C9,Da,Db,Dc]
def V.plain:V->Bool
 |.int _ _|.bool _|.str _=>true
 |_=>false
def yF(t:TC)(o:Nat)(x:T t)(h:full t=0):∀ y∈enc t o x,y.plain=true:=by
 cases t<;>first|(simp[full]at h;done)|simp[enc,V.plain,C9,Da,Db]
def V.ki:V->Bool
 |.nil=>false
 |_=>true
def SL(t:TC)(o:Nat)(x:T t):∀ y∈enc t o x,y.ki=true:=by
 cases t<;>simp[enc,V.ki,C9,Da,Db,Dc]
def tcs:aa TC:=[.int,.u8,.bool,.str,.sl .int,.sl .bool,.sl .str,.fH,.Addr,.rI,.Command,.kf,.ld,.iS,.Event,.lU,.Cell,.Array,.sQ,.hD,.oA,.mA,.dV,.fU,.rJ,.Power,.uB,.gw,.uC,.mB,.pz,.Config,.mC,.de,.Act,.rK]
def Z5(e:TypeId):ah TC:=tcs.find? λt=>Nat.beq (tid t) e
def amN{e:TypeId}{t:TC}(h:Z5 e=some t):tid t=e:=cB (List.find?_some (p:=λt=>Nat.beq (tid t) e) h)
def V.gr(o:Nat):V->Bool
 |.sl _ C _ _=>C==o
 |_=>true
def yG(t:TC)(o:Nat)(x:T t):∀ y∈enc t o x,y.gr o=true:=by
 cases t<;>simp[enc,V.gr,C9,Da,Db,Dc]
def V.aI:V->Bool
 |.sl _ o _ _=>decide (o<2)
 |_=>true
def V.gG:V->V
 |.sl t _ q l=>.sl t 0 q l
 |x=>x
def amO(t:TC)(o:Nat)(x y:T t):(enc t o x).map (λv=>(v.plain,v.aI))=(enc t o y).map (λv=>(v.plain,v.aI)):=by cases t<;>rfl
def V.amP(x:V):x.gG.aI=true:=by cases x<;>simp[V.gG,V.aI]
def pE(t:TC)(o:Nat)(x:T t)(C:o<2)(j:Nat)(y:V)(h:(enc t o x)[j]?=some y):y.aI=true:=by
 have:=yG t o x y (gX h);cases y<;>simp_all [V.gr,V.aI]
def Z6(t:TC)(o:Nat)(x:T t):enc t 0 x=(enc t o x).map V.gG:=by cases t<;>rfl
def wh(t:TC)(o:Nat)(x:T t)(j:Nat)(y:V)(h:(enc t 0 x)[j]?=some y):∃ z,(enc t o x)[j]?=some z/\y=z.gG:=by
 rw[Z6 t o x,eJ]at h
 grind
def inner:Nat->Nat
 |0=>0
 |1=>1
 |n+2=>n
abbrev bI:=Nat->ah (aa Nat)
inductive RV (w:World) (B:Nat) (aj:bI):List Nat->V->Value->Prop
 |int (q:List Nat) (k:IntKind) (n:Int):RV w B aj q (.int k n) (.int k n)
 |bool (q:List Nat) (b:Bool):RV w B aj q (.bool b) (.bool b)
 |str (q:List Nat) (s:ByteArray):RV w B aj q (.str s) (.string s)
 |nil (q:List Nat):RV w B aj q .nil (.slice none 0 0)
 |eE (q:List Nat) (t:TC) (o:Nat):RV w B aj q (.sl t o false []) (.slice none 0 0)
 |fI (q:List Nat) (t:TC) (o:Nat) (A:Addr) (c:Nat) (ho:o<2):RV w B aj q (.sl t o false []) (.slice (some A) 0 c)
 |fV (q:List Nat) (t:TC) (o:Nat) (A:Addr) (c:Nat) (ho:o<2):RV w B aj q (.sl t o true []) (.slice (some A) 0 c)
 | aI (q:List Nat) (t:TC) (o:Nat) (qn:Bool) (l:List (T t)) (b off cap:Nat) (u:Nat->Nat->Value) (ho:o<2) (hl:aj b=none) (hb:b<w.heap.size) (h1:o=1->B<=b) (lX:l.length<=cap)
   (hc:∀i (h:i<l.length) j x,(enc t o l[i])[j]?=some x->w.cell? ⟨b,off+(i*aG t+j),none⟩=some (u i j))
   (hr:∀i (h:i<l.length) j x,(enc t o l[i])[j]?=some x->RV w B aj [] x (u i j)):RV w B aj q (.sl t o qn l) (.slice (some ⟨b,off,none⟩) l.length cap)
 | own (q:List Nat) (t:TC) (o:Nat) (qn:Bool) (l:List (T t)) (b cap:Nat) (cs:Array Value) (u:Nat->Nat->Value) (hl:aj b=some q) (hh:w.heap[b]?=some (.cells cs (tid t) (0,0)))
   (hs:cs.size=cap*aG t) (hn:l.length<=cap) (hm:cap<=maxLen/\(qn=true->cap=l.length))
   (hc:∀i (h:i<l.length) j x,(enc t o l[i])[j]?=some x->cs[i*aG t+j]?=some (u i j))
   (hr:∀i (h:i<l.length) j x,(enc t o l[i])[j]?=some x->RV w B aj (j::i::aG t::q) x (u i j)):RV w B aj q (.sl t (o+2) qn l) (.slice (some ⟨b,0,none⟩) l.length cap)
section
variable {w w':World} {B:Nat} {aj aD:bI}
def V.F7(n:Nat):V->V
 |.sl t _ q l=>.sl t n q l
 |x=>x
def amQ(t:TC)(o n:Nat)(x:T t):enc t n x=(enc t o x).map (V.F7 n):=by cases t<;>rfl
def V.fu(n:Nat):V->Prop
 |.sl t o _ _=>full t+2<=o/\full t+2<=n
 |_=>True
def RV.F7{q:aa Nat}{x:V}{v:Value}(h:RV w B aj q x v):∀ n,x.fu n -> RV w B aj q (x.F7 n) v:=by
 induction h with
 |int=>exact λ_ _=>.int _ _ _
 |bool=>exact λ_ _=>.bool _ _
 |str=>exact λ_ _=>.str _ _
 |nil=>exact λ_ _=>.nil _
 |eE=>exact λ_ _=>.eE _ _ _
 |fI q t o A c I=>exact λn C=>by have:=C.1;omega
 |fV q t o A c I=>exact λn C=>by have:=C.1;omega
 |aI q t o L l b off cap u I hl hb O lX T U Y=>exact λn C=>by have:=C.1;omega
 | own q t o L l b cap cs u hl Z hs C hm T U Y=>
  intro n hf;obtain⟨O,h2⟩:=hf;obtain⟨m,rfl⟩:∃m,n=m+2:=⟨n-2,by omega⟩
  have key:∀ (i:Nat) (h:i<l.length) (j:Nat) (x:V),(enc t m l[i])[j]?=some x -> ∃ y:V,(enc t o l[i])[j]?=some y/\y.F7 m=x/\y.fu m:=by
   intro i h j x D;rw[amQ t o m l[i],eJ]at D;cases E:(enc t o l[i])[j]? with
   |none=>simp_all
   | some y=>
    rw[E]at D;injection D with D;refine⟨y,rfl,D,?_⟩;have g1:=yG t o l[i] y (gX E);have g2:=Md t o l[i] y (gX E);cases y with
    | sl t' o' q' l'=>
     have e:o'=o:=by simpa [V.gr]using g1
     have:=cK (show Nat.ble _ _=true from g2);exact⟨by omega,by omega⟩
    |_=>trivial
  refine .own _ _ _ _ _ _ _ cs u hl Z hs C hm (λi h j x D=>?_) (λi h j x D=>?_)
  ·grind
  ·grind
def RV.wk{q:aa Nat}{x y:V}{v:Value}(h:RV w B aj q x v)(k:Wk x y):RV w B aj q y v:=by
 cases k with
 |same=>exact h
 |nil t o=>cases h;exact .eE _ _ _
 | gr t o o' I l L h2=>
  have h:=h.F7 o ⟨h2,L⟩;cases h with
  |eE=>exact .eE _ _ _
  |fI q t o A c C=>grind
  |fV q t o A c C=>grind
  |aI q t o I l b off cap u C hl hb L Z D E=>grind
  |own q t o I l b cap cs u hl O T U Y D E=>exact .own _ _ _ _ _ _ _ cs u hl O T U ⟨Y.1,λh=>by cases h⟩ D E
 | q t o l=>
  cases h with
  |fV q t o A c C=>exact .fI _ _ _ _ _ C
  |aI q t o I l b off cap u C hl hb L Z D E=>exact .aI _ _ _ _ _ _ _ _ u C hl hb L Z D E
  |own q t o I l b cap cs u hl O T U Y D E=>exact .own _ _ _ _ _ _ _ cs u hl O T U ⟨Y.1,λh=>by cases h⟩ D E
def RV.map{Q:aa Nat->aa Nat->Prop}(Y:w.heap.size<=w'.heap.size)(Z:∀ b,b<w.heap.size->aj b=none->w'.heap[b]?=w.heap[b]?/\aD b=none)
  (h1:∀b q C,b<w.heap.size->aj b=some q->Q q C->w'.heap[b]?=w.heap[b]?/\aD b=some C/\∀j i s,Q (j::i::s::q) (j::i::s::C)) {q C:aa Nat} {x:V} {v:Value} (h:RV w B aj q x v) (hq:x.aI=true\/Q q C):RV w' B aD C x v:=by
 induction h generalizing C with
 |int=>exact .int _ _ _
 |bool=>exact .bool _ _
 |str=>exact .str _ _
 |nil=>exact .nil _
 |eE=>exact .eE _ _ _
 |fI _ _ _ _ _ D=>exact .fI _ _ _ _ _ D
 |fV _ _ _ _ _ D=>exact .fV _ _ _ _ _ D
 | aI q t o qn l b off cap u D hl hb Z7 lX I hr L=>
  obtain⟨O,T⟩:=Z b hb hl;exact .aI _ _ _ _ _ _ _ _ u D T (Nat.lt_of_lt_of_le hb Y) Z7 lX (λi h j x E=>(World.cell?_of_block (a:=⟨b,_,none⟩) O).trans (I i h j x E)) (λi h j x E=>L i h j x E (.inl (pE t o l[i] D j x E)))
 | own q t o qn l b cap cs u hl U hs hn hm I hr L=>
  obtain⟨O,T,e3⟩:=h1 b q C (iO.1 U).1 hl (hq.resolve_left (by simp[V.aI]));exact .own _ _ _ _ _ _ _ cs u T (O.trans U) hs hn hm I (λi h j x E=>L i h j x E (.inr (e3 _ _ _)))
def RV.Z8{q C:aa Nat}{x:V}{v:Value}(h:RV w B aj q x v)(D:x.aI=true)(hl:∀ b,aj b=none->aD b=none):RV w B aD C x v:=
 h.map (Q:=λ_ _=>False) (dJ _) (λb _ h=>⟨rfl,hl b h⟩) (λ_ _ _ _ _ h=>h.elim) (.inl D)
def RV.Me{q:aa Nat}{x:V}{v:Value}(h:RV w B aj q x v)(C:x.aI=true)(hl:∀b,aj b=none->aD b=none):RV w B aD q x v:=h.Z8 C hl
def RV.key{q C:aa Nat}{x:V}{v:Value}(h:RV w B aj q x v)(D:x.aI=true):RV w B aj C x v:=h.Z8 D λ_ h=>h
def mD:Value->Bool
 |.slice ..=>true
 |_=>false
def RV.SM{q:aa Nat}{x:V}{u:Value}(h:RV w B aj q x u)(C:x.aI=false):mD u=true:=by
 cases h<;>first|rfl|cases C
def RV.one{q:aa Nat}{x:V}{u:Value}(h:RV w B aj q x u):u.oneCell'=true:=by
 cases h<;>rfl
def RV.lz{q:aa Nat}{x:V}{v:Value}(h:RV w B aj q x v)(D:w.heap.size<=w'.heap.size)(C:∀ b,b<w.heap.size->w'.heap[b]?=w.heap[b]?/\aD b=aj b):RV w' B aD q x v:=
 h.map (Q:=Eq) D (λb hb hl=>⟨(C b hb).1,(C b hb).2.trans hl⟩) (λb q E hb hl e=>by subst e;exact⟨(C b hb).1,(C b hb).2.trans hl,λ_ _ _=>rfl⟩) (.inr rfl)
def RV.apart{q kt:aa Nat}{x:V}{v:Value}{bt:Nat}(h:RV w B aj q x v)(C:aj bt=some kt)(I:¬ q <:+ kt\/x.aI=true)(L:w.heap.size<=w'.heap.size)(D:∀ b,b≠bt->w'.heap[b]?=w.heap[b]?):RV w' B aj q x v:=
 h.map (Q:=λq E=>q=E/\¬ q <:+ kt) L (λb _ hl=>⟨D b (by rintro rfl;rw[hl]at C;cases C),hl⟩) (λb q E _ hl e=>by
  obtain⟨rfl,e⟩:=e;exact⟨D b (by rintro rfl;rw[hl]at C;injection C with C;subst C;exact e (List.suffix_refl _)),hl,λj i s=>⟨rfl,λO=>e (List.IsSuffix.trans ⟨[j,i,s],rfl⟩ O)⟩⟩) (I.symm.imp_right λh=>⟨rfl,h⟩)
def RV.gG{q E:aa Nat}{x:V}{v:Value}(h:RV w B aj q x v){B':Nat}:RV w B' (λ_=>none) E x.gG v:=by
 induction h generalizing E with
 |int=>exact .int _ _ _
 |bool=>exact .bool _ _
 |str=>exact .str _ _
 |nil=>exact .nil _
 |eE=>exact .eE _ _ _
 |fI=>exact .fI _ _ _ _ _ (by first|assumption|omega)
 |fV=>exact .fV _ _ _ _ _ (by first|assumption|omega)
 | aI q t o O l b off cap u ho hl hb h1 T I U Y=>
  refine .aI _ _ _ _ _ _ _ _ u (by omega) rfl hb (by omega) T (λi h j x C=>?_) (λi h j x C=>?_)
  ·obtain⟨y,D,_⟩:=wh t o l[i] j x C;simp_all
  ·obtain⟨y,D,rfl⟩:=wh t o l[i] j x C;simp_all
 | own q t o O l b cap cs u hl L hs Z hm I U Y=>
  refine .aI _ _ _ _ _ _ _ _ u (by omega) rfl (iO.1 L).1 (by omega) Z (λi h j x C=>?_) (λi h j x C=>?_)
  ·obtain⟨y,D,_⟩:=wh t o l[i] j x C;have:=I i h j y D;rw[fh,cell_of_row w b _ cs _ _ L];exact this
  ·obtain⟨y,D,rfl⟩:=wh t o l[i] j x C;simp_all
end
set_option linter.unusedVariables false
inductive Lf where
 |v (x:V)
 |own (k:List Nat)
 |dead
inductive A where
 |undef
 |skip
 |lf (x:Lf)
 |agg (cs:List Lf)
 |eX (xs:List (Bool×List Lf))
 |ptr (k:List Nat)
 |aO (r j:Nat)
 |jo (cs:List V)
 |ng (f:Nat) (cs:List V)
 |pk (r n:Nat)
 |view (k:List Nat) (s i j:Nat)
 |fn (f:Nat) (cap:List (Nat×Nat))
inductive aV where
 |aC (cs:List Lf)
 |sl (y:V)
 |mp (l:List (Int×Bool))
 |gh (xs:List A)
structure S where
 t:Nat->A
 m:Nat->Option aV
inductive Loc where
 |aC (b off:Nat)
 |dH (v:Value)
 |bT (us:List Value)
def addrAt(w:World)(aj:bI)(ρ:Nat->Loc):aa Nat->ah Addr
 | j :: i :: s :: [r]=>match ρ r with
  |.dH (.slice (some ⟨b,0,none⟩) _ _)=>if aj b=some [r]then some ⟨b,i*s+j,none⟩else none
  |_=>none
 | j :: i :: s :: q=>match (addrAt w aj ρ q).bind w.cell? with
  |some (.slice (some ⟨b,0,none⟩) _ _)=>if aj b=some q then some ⟨b,i*s+j,none⟩else none
  |_=>none
 |_=>none
def cU(w:World)(aj:bI)(ρ:Nat->Loc):aa Nat->ah Value
 | [r]=>match ρ r with
  |.dH v=>some v
  |_=>none
 |q=>(addrAt w aj ρ q).bind w.cell?
def dR(w:World)(B:Nat)(aj:bI)(ρ:Nat->Loc):Lf->Value->Prop
 |.v x,u=>x.aI=true/\RV w B aj [] x u
 |.own k,u=>mD u=true/\cU w aj ρ k=some u
 |.dead,_=>True
def eK(w:World)(B:Nat)(aj:bI)(ρ:Nat->Loc)(cs:aa Lf)(us:Array Value):Prop:=
 us.size=cs.length/\∀(j:Nat) x,cs[j]?=some x->∃u,us[j]?=some u/\dR w B aj ρ x u
def RP(w:World)(B:Nat)(aj:bI)(ρ:Nat->Loc)(p:Bool×aa Lf)(u:Value):Prop:=
 match p with
 |(true,cs)=>∃us,u = .agg us/\eK w B aj ρ cs us
 |(false,cs)=>eK w B aj ρ cs #[u]
def qy:Nat:=4294967296
def Mf(b n:Nat):Value:=bif Nat.beq n qy then .map (some b)else .slice (some ⟨b,0,none⟩) n n
def SN{b n:Nat}(h:n<qy):Mf b n = .slice (some ⟨b,0,none⟩) n n:=by
 unfold Mf;cases hb:Nat.beq n qy with
 |true=>simp_all
 |false=>rfl
def SO(b:Nat):Mf b qy = .map (some b):=rfl
def RF(w:World)(B:Nat)(aj:bI)(cs:aa V)(u:Value):Prop:=
 ∃b off,u = .pointer (some ⟨b,off,none⟩)/\b<w.heap.size/\aj b=none/\∀(j:Nat) x,cs[j]?=some x->x.aI=true/\∃v,w.cell? ⟨b,off+j,none⟩=some v/\RV w B aj [] x v
def RA(w:World)(B:Nat)(aj:bI)(ρ:Nat->Loc):A->Value->Prop
 |.undef,_=>True
 |.skip,u=>u=Go.undef
 |.lf x,u=>dR w B aj ρ x u
 |.agg cs,u=>RP w B aj ρ (true,cs) u
 |.eX xs,u=>∃us:Array Value,u = .tuple us/\us.size=xs.length/\∀(j:Nat) p,xs[j]?=some p->∃v,us[j]?=some v/\RP w B aj ρ p v
 |.ptr k,u=>∃ad,u = .pointer (some ad)/\addrAt w aj ρ k=some ad
 |.aO r j,u=>∃b off,ρ r = .aC b off/\u = .pointer (some ⟨b,off+j,none⟩)
 |.jo cs,u=>RF w B aj cs u
 |.ng f cs,u=>∃pv,u = .func (.func f) #[] #[pv]/\RF w B aj cs pv
 |.pk r n,u=>∃b,ρ r = .aC b 0/\u=Mf b n
 |.view k s i j,u=>∃A n c,cU w aj ρ k=some (.slice A n c)/\i<=j/\j<=n/\u=sliced A i j c s
 |.fn f cap,u=>∃C:Array Value,u = .func (.func f) #[] C/\C.size=cap.length/\∀(j:Nat) p,cap[j]?=some p->∃b off,ρ p.1 = .aC b off/\C[j]?=some (.pointer (some ⟨b,off+p.2,none⟩))
inductive ei (w:World) (B:Nat) (aj:bI) (ρ:Nat->Loc) (r:Nat):aV->Prop
 | aC (b off:Nat) (cells:Array Value) (e:TypeId) (cs:List Lf) (us:Nat->Value) (cO:ρ r = .aC b off) (hl:aj b=some [r]) (hh:w.heap[b]?=some (.cells cells e (0,0))) (hs:off+cs.length<=cells.size)
   (hc:∀(j:Nat) x,cs[j]?=some x->cells[off+j]?=some (us j)/\dR w B aj ρ x (us j)):ei w B aj ρ r (.aC cs)
 |sl (v:Value) (y:V) (cO:ρ r = .dH v) (hr:RV w B aj [r] y v):ei w B aj ρ r (.sl y)
 |mp (b clock:Nat) (es:Array MapEntry) (l:List (Int×Bool)) (cO:ρ r = .aC b 0) (hl:aj b=some [r]) (hh:w.heap[b]?=some (.map es clock)) (he:es.toList.map (λe=>(e.key,e.val))=l.map λp=>(.int .i64 p.1,.bool p.2)):ei w B aj ρ r (.mp l)
 |gh (us:List Value) (xs:List A) (cO:ρ r = .bT us) (hx:∀(j:Nat) x,xs[j]?=some x->RA w B aj ρ x (us.getD j undef)):ei w B aj ρ r (.gh xs)
def Qw(_:World):Prop:=True
structure amR (n:Nat) (L:bI) (w w':World):Prop where
 os:w'.os=w.os
 tape:w'.tape=w.tape
 output:w'.output=w.output
 size:w.heap.size<=w'.heap.size
 block:∀k,k<n->L k=none->w'.heap[k]?=w.heap[k]?
def Hd(w:World)(L:bI):Prop:=∀w',amR w.heap.size L w w'->Qw w'
def amS(w:World)(L:bI):Hd w L:=λ_ _=>trivial
structure Wd where
 w:World
 L:bI
 F:Nat->Option Loc
 held:Hd w L
 low:∀r,r<20000->F r=none
def Wd.heap(d:Wd):Array Obj:=d.w.heap
def Wd.of(w:World)(h:Hd w λ_=>none):Wd:=⟨w,λ_=>none,λ_=>none,h,λ_ _=>rfl⟩
structure jq (d:Wd) (w w':World):Prop where
 os:w'.os=w.os
 tape:w'.tape=w.tape
 output:w'.output=w.output
 size:w.heap.size<=w'.heap.size
 block:∀k,k<d.heap.size->d.L k=none->w'.heap[k]?=w.heap[k]?
def jq.trans{d:Wd}{a b c:World}(h:jq d a b)(k:jq d b c):jq d a c:=
 ⟨k.os.trans h.os,k.tape.trans h.tape,k.output.trans h.output,Nat.le_trans h.size k.size,λi hi hl=>(k.block i hi hl).trans (h.block i hi hl)⟩
def Wd.on(d:Wd){w:World}(h:jq d d.w w){L:bI}(D:∀ b k,L b=some k->d.heap.size<=b\/d.L b≠none):Hd w L:=λw' hb=>
 d.held w' ⟨hb.os.trans h.os,hb.tape.trans h.tape,hb.output.trans h.output,Nat.le_trans h.size hb.size,λk C hl=>by
  have e:L k=none:=by
   cases e:L k with
   |none=>rfl
   | some q=>
    rcases D k q e with h1|h1
    ·exact absurd C (Nat.not_lt.2 h1)
    ·exact absurd hl h1
  exact(hb.block k (Nat.lt_of_lt_of_le C h.size) e).trans (h.block k C hl)⟩
def jq.of{d:Wd}{a b:World}{B:Nat}(h:Below B a b)(hB:d.heap.size<=B):jq d a b:=
 ⟨h.os,h.tape,h.output,h.size,λi hi _=>h.block i (Nat.lt_of_lt_of_le hi hB)⟩
structure Rl (w0:Wd) (N:Nat) (aj:bI) (ρ:Nat->Loc) (σ:S) (a:Act) (w:World):Prop where
 below:jq w0 w0.w w
 cV:∀b k,aj b=some k->(w0.heap.size<=b\/w0.L b≠none)/\b<w.heap.size/\k≠[]
 root:∀r x,σ.m r=some x->ei w w0.heap.size aj ρ r x
 tmp:∀k,RA w w0.heap.size aj ρ (σ.t k) (a.tmps.getD k undef)
 size:a.tmps.size=N
 defers:a.defers=[]
 fix:∀r l,w0.F r=some l->ρ r=l
 dm:∀r,(r<N\/60000<=r)->w0.F r=none
def R(w0:Wd)(N:Nat)(σ:S)(a:Act)(w:World):Prop:=∃aj ρ,Rl w0 N aj ρ σ a w
/-! Reading along a key. -/
inductive wj (m:Nat->Option aV):List Nat->V->Prop
 |root (r:Nat) (y:V) (h:m r=some (.sl y)):wj m [r] y
 |elem (j i:Nat) (q:List Nat) (t:TC) (o:Nat) (qn:Bool) (l:List (T t)) (y:V) (h:wj m q (.sl t (o+2) qn l)) (hi:i<l.length) (hy:(enc t o l[i])[j]?=some y):wj m (j::i::aG t::q) y
section
variable {w w':World} {w0:Wd} {B N:Nat} {aj aD:bI} {ρ ρ':Nat->Loc} {m:Nat->ah aV} {σ:S} {a:Act}
def AS{q:aa Nat}(j i s:Nat){b n c:Nat}(h:cU w aj ρ q=some (.slice (some ⟨b,0,none⟩) n c))(hl:aj b=some q):addrAt w aj ρ (j :: i :: s :: q)=some ⟨b,i*s+j,none⟩:=by
 match q,h,hl with
 | [r],h,hl=>
  simp[cU]at h;simp[addrAt]
  grind
 | x :: y :: q,h,hl=>
  simp[cU]at h;simp[addrAt,h,hl,if_true]
def Mg{j i s:Nat}{q:aa Nat}:cU w aj ρ (j::i::s::q)=(addrAt w aj ρ (j::i::s::q)).bind w.cell?:=rfl
def wj.ok{k:aa Nat}{y:V}(h:wj m k y)(D:∀ r x,m r=some x -> ei w B aj ρ r x):∃ u,cU w aj ρ k=some u/\RV w B aj k y u:=by
 induction h with
 | root r y h=>
  cases D _ _ h with
  |sl v y E C=>exact⟨v,by simp[cU,E],C⟩
 | elem j i q t o U l y h hi I L=>
  obtain⟨u,O,C⟩:=L;cases C with
  |eE=>simp at hi
  |fI=>simp at hi
  |fV=>simp at hi
  |aI _ _ _ _ _ _ _ _ _ Y=>omega
  | own _ _ _ _ _ b cap cs us hl T Z hn D hc C=>
   refine⟨us i j,?_,C i hi j y I⟩;rw[Mg,AS j i _ O hl];show w.cell? _=_;rw[cell_of_row w b _ cs _ _ T];simp_all
def AT:∀ (k:aa Nat) (ad:Addr),addrAt w aj ρ k=some ad -> ∃ j i s q,k=j :: i :: s :: q/\aj ad.block=some q/\ad.off=i*s+j/\ad.spot=none/\(∀ r,q=[r] -> ∃ v,ρ r = .dH v)
 |[],_,h=>by simp[addrAt]at h
 | [j,i,s,r],ad,h=>by
  simp only[addrAt]at h
  grind
 | j :: i :: s :: x :: y :: q,ad,h=>by
  simp only[addrAt]at h
  grind
/-! What is forgotten: keys of leaves,of addresses,roots. -/
structure nh where
 l:List Nat->Bool
 p:List Nat->Bool
 r:Nat->Bool
def Lf.cE(f:aa Nat->Bool):Lf->Lf
 |.own k=>bif f k then .dead else .own k
 |x=>x
def A.cE(K:nh):A->A
 |.lf x=>.lf (x.cE K.l)
 |.agg cs=>.agg (cs.map (Lf.cE K.l))
 |.eX xs=>.eX (xs.map λp=>(p.1,p.2.map (Lf.cE K.l)))
 |.ptr k=>bif K.p k then .undef else .ptr k
 |.aO r j=>bif K.r r then .undef else .aO r j
 |.pk r n=>bif K.r r then .undef else .pk r n
 |.view k s i j=>bif K.p k then .undef else .view k s i j
 |.fn f cap=>bif cap.any (λp=>K.r p.1)then .undef else .fn f cap
 |x=>x
def aV.cE(K:nh):aV->aV
 |.aC cs=>.aC (cs.map (Lf.cE K.l))
 |.gh xs=>.gh (xs.map (A.cE K))
 |x=>x
/-! What names nothing that is forgotten. -/
def Lf.fr(f:aa Nat->Bool):Lf->Bool
 |.own k=>!f k
 |_=>true
def A.fr(K:nh):A->Bool
 |.lf x=>x.fr K.l
 |.agg cs=>cs.all (Lf.fr K.l)
 |.eX xs=>xs.all λq=>q.2.all (Lf.fr K.l)
 |.ptr k=>!K.p k
 |.aO r _=>!K.r r
 |.pk r _=>!K.r r
 |.view k _ _ _=>!K.p k
 |.fn _ cap=>cap.all λq=>!K.r q.1
 |_=>true
def Lf.oC{f:aa Nat->Bool}{x:Lf}(h:x.fr f=true):x.cE f=x:=by
 cases x with
 |own k=>simp only[Lf.cE,show f k=false by simpa [Lf.fr]using h,au]
 |_=>rfl
def qz.oC{f:aa Nat->Bool}{cs:aa Lf}(h:cs.all (Lf.fr f)=true):cs.map (Lf.cE f)=cs:=
 (List.map_congr_left λx C=>Lf.oC (cv.1 h x C)).trans (List.map_id cs)
def A.oC{K:nh}{x:A}(h:x.fr K=true):x.cE K=x:=by
 cases x with
 |lf x=>exact bx A.lf (Lf.oC h)
 |agg cs=>exact bx A.agg (qz.oC h)
 |eX xs=>exact bx A.eX ((List.map_congr_left λq C=>by rw[qz.oC (cv.1 h q C)];rfl).trans (List.map_id xs))
 |ptr k=>simp only[A.cE,show K.p k=false by simpa [A.fr]using h,au]
 |view k=>simp only[A.cE,show K.p k=false by simpa [A.fr]using h,au]
 |aO r=>simp only[A.cE,show K.r r=false by simpa [A.fr]using h,au]
 |pk r=>simp only[A.cE,show K.r r=false by simpa [A.fr]using h,au]
 |fn f cap=>simp only[A.cE,show (cap.any λp=>K.r p.1)=false from List.any_eq_false.2 λp D=>by simpa using cv.1 h p D,au]
 |_=>rfl
def Lf.rL{f g:aa Nat->Bool}(hl:∀ k,f k=true->g k=true){x:Lf}(h:x.fr g=true):x.fr f=true:=by
 cases x with
 | own k=>
  have h:(!g k)=true:=h;show (!f k)=true;cases C:f k with
  |false=>rfl
  |true=>rw[hl k C]at h;cases h
 |_=>rfl
def A.rL{K J:nh}(hl:∀ k,K.l k=true->J.l k=true)(I:∀ k,K.p k=true->J.p k=true)(L:∀ r,K.r r=true->J.r r=true){x:A}(h:x.fr J=true):x.fr K=true:=by
 have C:∀r,(!J.r r)=true->(!K.r r)=true:=λr h=>Lf.rL (x:=.own []) (f:=λ_=>K.r r) (λ_=>L r) h
 cases x with
 |lf x=>exact Lf.rL hl h
 |agg cs=>exact cv.2 λc D=>Lf.rL hl (cv.1 h c D)
 |eX xs=>exact cv.2 λq E=>cv.2 λc D=>Lf.rL hl (cv.1 (cv.1 h q E) c D)
 |ptr k=>exact Lf.rL (x:=.own k) I h
 |view k=>exact Lf.rL (x:=.own k) I h
 |aO r=>exact C r h
 |pk r=>exact C r h
 |fn f cap=>exact cv.2 λq E=>C _ (cv.1 h q E)
 |_=>rfl
def Lf.oD(x:Lf)(f g:aa Nat->Bool):(x.cE f).cE g=(x.cE g).cE f:=by
 cases x with
 |own k=>cases C:f k<;>cases D:g k<;>simp[Lf.cE,C,D]
 |_=>rfl
def qz.oD(cs:aa Lf)(f g:aa Nat->Bool):(cs.map (Lf.cE f)).map (Lf.cE g)=(cs.map (Lf.cE g)).map (Lf.cE f):=by
 rw[List.map_map,List.map_map];exact List.map_congr_left λx _=>Lf.oD x f g
def A.oD(x:A)(K J:nh):(x.cE K).cE J=(x.cE J).cE K:=by
 cases x with
 |lf x=>exact bx A.lf (Lf.oD x _ _)
 |agg cs=>exact bx A.agg (qz.oD cs _ _)
 | eX xs=>
  refine bx A.eX ?_;rw[List.map_map,List.map_map];exact List.map_congr_left λq _=>bx (Prod.mk q.1) (qz.oD q.2 _ _)
 |ptr k=>cases C:K.p k<;>cases D:J.p k<;>simp[A.cE,C,D]
 |view k=>cases C:K.p k<;>cases D:J.p k<;>simp[A.cE,C,D]
 |aO r=>cases C:K.r r<;>cases D:J.r r<;>simp[A.cE,C,D]
 |pk r=>cases C:K.r r<;>cases D:J.r r<;>simp[A.cE,C,D]
 |fn f cap=>cases C:(cap.any λp=>K.r p.1)<;>cases D:(cap.any λp=>J.r p.1)<;>simp only[A.cE,C,D,aq,au]
 |_=>rfl
def aV.oD(x:aV)(K J:nh):(x.cE K).cE J=(x.cE J).cE K:=by
 cases x with
 |aC cs=>exact bx aV.aC (qz.oD cs _ _)
 | gh xs=>
  refine bx aV.gh ?_;rw[List.map_map,List.map_map];exact List.map_congr_left λx _=>A.oD x K J
 |_=>rfl
def cR(d:Nat)(k:aa Nat):Bool:=k.getLast?==some d
def wm(d:Nat):nh:=⟨cR d,cR d,λr=>Nat.beq r d⟩
def Lf.drop(d:Nat):Lf->Lf:=Lf.cE (cR d)
def A.drop(d:Nat):A->A:=A.cE (wm d)
def aV.drop(d:Nat):aV->aV:=aV.cE (wm d)
def jc(c:Nat->Bool)(k:aa Nat):Bool:=match k.getLast? with
 |some r=>c r
 |none=>false
structure Tr (w w':World) (aj aD:bI) (ρ ρ':Nat->Loc) (t:List Nat->Bool) (c:Nat->Bool):Prop where
 size:w.heap.size<=w'.heap.size
 no:∀b,b<w.heap.size->aj b=none->w'.heap[b]?=w.heap[b]?/\aD b=none
 so:∀b k,aj b=some k->t k=false->w'.heap[b]?=w.heap[b]?/\aD b=some k
 eY:∀r,c r=false->ρ' r=ρ r
 up:∀j i s x q,t (j::i::s::x::q)=t (x::q)
 ne:∀b,aj b=some []->∀k,t k=false
structure nh.OK (K:nh) (t:List Nat->Bool) (c:Nat->Bool):Prop where
 l:∀k,K.l k=false->(k.length=1\/t k=false)/\jc c k=false
 p:∀k,K.p k=false->t k=false/\jc c k=false
 r:∀r,K.r r=false->c r=false
section
variable {t:aa Nat->Bool} {c:Nat->Bool} {K:nh}
def RV.tr(T:Tr w w' aj aD ρ ρ' t c){q:aa Nat}{x:V}{v:Value}(h:RV w B aj q x v)(D:x.aI=true\/t q=false):RV w' B aD q x v:=
 h.map (Q:=λq C=>q=C/\t q=false) T.size T.no (λb q C _ hl e=>by
  obtain⟨rfl,e⟩:=e;exact⟨(T.so b q hl e).1,(T.so b q hl e).2,λj i s=>⟨rfl,by
   cases q with
   |nil=>exact T.ne b hl _
   |cons x q=>rw[T.up];exact e⟩⟩) (D.imp_right λh=>⟨rfl,h⟩)
def Mh(j i s x:Nat)(q:aa Nat):jc c (j::i::s::x::q)=jc c (x::q):=by simp[jc,List.getLast?_cons_cons]
def SP(T:Tr w w' aj aD ρ ρ' t c):∀ (k:aa Nat) (ad:Addr),t k=false->jc c k=false->addrAt w aj ρ k=some ad->addrAt w' aD ρ' k=some ad
 |[],_,_,_,h=>by simp[addrAt]at h
 |[_],_,_,_,h=>by simp[addrAt]at h
 |[_,_],_,_,_,h=>by simp[addrAt]at h
 |[_,_,_],_,_,_,h=>by simp[addrAt]at h
 | [j,i,s,r],_,C,D,h=>by
  rw[T.up]at C;rw[Mh]at D;simp only[addrAt]at h ⊢;rw[T.eY r D];split at h
  ·split at h
   next hl=>rw[bN (T.so _ _ hl C).2];exact h
   ·cases h
  ·cases h
 | j :: i :: s :: x :: y :: q,ad,C,D,h=>by
  rw[T.up]at C;rw[Mh]at D;simp only[addrAt]at h ⊢;cases E:addrAt w aj ρ (x::y::q)with
  |none=>rw[E]at h;cases h
  | some O=>
   rw[SP T _ _ C D E];rw[E]at h;cases I:w.cell? O with
   |none=>simp[I]at h
   | some v=>
    obtain⟨Y,Z,s',L,hk,U,_,_⟩:=AT _ _ E;have AU:t L=false:=by
     cases L with
     |nil=>exact T.ne _ U _
     |cons z L=>rw[<-T.up Y Z s',<-hk];exact C
    have e:w'.cell? O=some v:=(World.cell?_of_block (T.so _ _ U AU).1).trans I;simp only[Option.bind_some,I]at h;simp only[Option.bind_some,e];split at h
    ·split at h
     next hl=>rw[bN (T.so _ _ hl C).2];exact h
     ·cases h
    ·cases h
def SQ(T:Tr w w' aj aD ρ ρ' t c)(k:aa Nat)(u:Value)(C:k.length=1\/t k=false)(D:jc c k=false)(h:cU w aj ρ k=some u):cU w' aD ρ' k=some u:=by
 match k,C,D,h with
 |[],_,_,h=>simp[cU,addrAt]at h
 | [r],_,D,h=>
  simp only[cU]at h ⊢;rw[T.eY r D];exact h
 | x :: y :: q,C,D,h=>
  have C:t (x::y::q)=false:=C.resolve_left (by simp);simp only[cU]at h ⊢;cases E:addrAt w aj ρ (x::y::q)with
  |none=>rw[E]at h;cases h
  | some ad=>
   rw[SP T _ _ C D E];rw[E]at h;have h:w.cell? ad=some u:=h;obtain⟨O,U,Y,I,Z,L,_,_⟩:=AT _ _ E;have AU:t I=false:=by
    cases I with
    |nil=>exact T.ne _ L _
    |cons z I=>rw[<-T.up O U Y,<-Z];exact C
   exact(World.cell?_of_block (T.so _ _ L AU).1).trans h
def dR.tr(T:Tr w w' aj aD ρ ρ' t c)(C:K.OK t c){x:Lf}{u:Value}(h:dR w B aj ρ x u):dR w' B aD ρ' (x.cE K.l) u:=by
 cases x with
 |v x=>exact⟨h.1,h.2.tr T (.inl h.1)⟩
 |dead=>trivial
 | own k=>
  show dR w' B aD ρ' (bif K.l k then .dead else .own k) u;cases hl:K.l k with
  |true=>trivial
  |false=>exact⟨h.1,SQ T k u (C.l k hl).1 (C.l k hl).2 h.2⟩
def eK.tr(T:Tr w w' aj aD ρ ρ' t c)(D:K.OK t c){cs:aa Lf}{us:Array Value}(h:eK w B aj ρ cs us):eK w' B aD ρ' (cs.map (Lf.cE K.l)) us:=by
 refine⟨by rw[eM];exact h.1,λj x C=>?_⟩
 rw[eJ]at C;obtain⟨y,E,rfl⟩:=Option.map_eq_some_iff.1 C;obtain⟨u,I,r⟩:=h.2 j y E;exact⟨u,I,r.tr T D⟩
def RP.tr(T:Tr w w' aj aD ρ ρ' t c)(C:K.OK t c){p:Bool×aa Lf}{u:Value}(h:RP w B aj ρ p u):RP w' B aD ρ' (p.1,p.2.map (Lf.cE K.l)) u:=by
 obtain⟨b,cs⟩:=p;cases b with
 |true=>obtain⟨us,e,h⟩:=h;exact⟨us,e,h.tr T C⟩
 |false=>exact eK.tr T C h
def RF.tr(T:Tr w w' aj aD ρ ρ' t c){cs:aa V}{u:Value}(h:RF w B aj cs u):RF w' B aD cs u:=by
 obtain⟨b,off,e,hb,hl,h⟩:=h;obtain⟨D,E⟩:=T.no b hb hl
 refine⟨b,off,e,Nat.lt_of_lt_of_le hb T.size,E,λj x I=>?_⟩
 obtain⟨C,v,L,O⟩:=h j x I;exact⟨C,v,(World.cell?_of_block (a:=⟨b,_,none⟩) D).trans L,O.tr T (.inl C)⟩
def RA.tr(T:Tr w w' aj aD ρ ρ' t c)(C:K.OK t c){x:A}{u:Value}(h:RA w B aj ρ x u):RA w' B aD ρ' (x.cE K) u:=by
 cases x with
 |undef=>trivial
 |skip=>exact h
 |lf x=>exact dR.tr T C h
 |agg cs=>exact RP.tr T C (p:=(true,cs)) h
 | eX xs=>
  obtain⟨us,e,E,h⟩:=h
  refine⟨us,e,by rw[eM];exact E,λj p D=>?_⟩
  rw[eJ]at D;obtain⟨y,I,rfl⟩:=Option.map_eq_some_iff.1 D;obtain⟨v,L,r⟩:=h j y I;exact⟨v,L,r.tr T C⟩
 | ptr k=>
  simp only[A.cE];cases hl:K.p k with
  |true=>trivial
  |false=>obtain⟨ad,e,h⟩:=h;exact⟨ad,e,SP T k ad (C.p k hl).1 (C.p k hl).2 h⟩
 | view k s i j=>
  simp only[A.cE];cases hl:K.p k with
  |true=>trivial
  |false=>obtain⟨A,n,c,h,g⟩:=h;exact⟨A,n,c,SQ T k _ (.inr (C.p k hl).1) (C.p k hl).2 h,g⟩
 | pk r n=>
  simp only[A.cE];cases hl:K.r r with
  |true=>trivial
  |false=>obtain⟨b,e,h⟩:=h;exact⟨b,(T.eY r (C.r r hl)).trans e,h⟩
 | aO r j=>
  simp only[A.cE];cases hl:K.r r with
  |true=>trivial
  |false=>obtain⟨b,off,e,h⟩:=h;exact⟨b,off,(T.eY r (C.r r hl)).trans e,h⟩
 |jo cs=>exact RF.tr T h
 |ng f cs=>obtain⟨pv,e,h⟩:=h;exact⟨pv,e,h.tr T⟩
 | fn f cap=>
  simp only[A.cE];cases hl:cap.any (λp=>K.r p.1)with
  |true=>trivial
  | false=>
   obtain⟨O,e,E,h⟩:=h
   refine⟨O,e,E,λj p D=>?_⟩
   obtain⟨b,off,U,Y⟩:=h j p D;exact⟨b,off,(T.eY _ (C.r _ (by simpa using List.any_eq_false.1 hl p (gX D)))).trans U,Y⟩
def ei.tr(T:Tr w w' aj aD ρ ρ' t c)(U:K.OK t c){r:Nat}{x:aV}(h:ei w B aj ρ r x)(D:t [r]=false)(E:c r=false):ei w' B aD ρ' r (x.cE K):=by
 cases h with
 | aC b off cells e cs us C hl O hs Y=>
  refine .aC b off cells e _ us ((T.eY r E).trans C) (T.so b _ hl D).2 ((T.so b _ hl D).1.trans O) (by rw[eM];exact hs) (λj x I=>?_)
  rw[eJ]at I;obtain⟨y,L,rfl⟩:=Option.map_eq_some_iff.1 I;exact⟨(Y j y L).1,(Y j y L).2.tr T U⟩
 |sl v y C hr=>exact .sl v y ((T.eY r E).trans C) (hr.tr T (.inr D))
 |mp b clock es l C hl O he=>exact .mp b clock es l ((T.eY r E).trans C) (T.so b _ hl D).2 ((T.so b _ hl D).1.trans O) he
 | gh us xs C I=>
  refine .gh us _ ((T.eY r E).trans C) (λj x Z=>?_)
  rw[eJ]at Z;obtain⟨y,L,rfl⟩:=Option.map_eq_some_iff.1 Z;exact(I j y L).tr T U
end
/-! Nothing is forgotten where old memory stays. -/
def Mi:nh:=⟨λ_=>false,λ_=>false,λ_=>false⟩
def A.F8(x:A):x.cE Mi=x:=by
 have h:∀cs:aa Lf,cs.all (Lf.fr Mi.l)=true:=λcs=>cv.2 λc _=>by cases c<;>rfl
 refine A.oC ?_;cases x with
 |lf x=>cases x<;>rfl
 |agg cs=>exact h cs
 |eX xs=>exact cv.2 λq _=>h q.2
 |fn f cap=>exact cv.2 λ_ _=>rfl
 |_=>rfl
def aV.F8(x:aV):x.cE Mi=x:=by
 cases x with
 |aC cs=>exact bx aV.aC (A.agg.inj (A.F8 (.agg cs)))
 |gh xs=>exact bx aV.gh ((List.map_congr_left λx _=>A.F8 x).trans (List.map_id xs))
 |_=>rfl
def SR(k:aa Nat):jc (λ_=>false) k=false:=by unfold jc;split<;>rfl
def Z9:Mi.OK (λ_=>false) (λ_=>false):=⟨λk _=>⟨.inr rfl,SR k⟩,λk _=>⟨rfl,SR k⟩,λ_ _=>rfl⟩
def Tr.lz(E:w.heap.size<=w'.heap.size)(C:∀ b,b<w.heap.size->w'.heap[b]?=w.heap[b]?/\aD b=aj b)(D:∀ b k,aj b=some k->b<w.heap.size):Tr w w' aj aD ρ ρ (λ_=>false) (λ_=>false):=
 ⟨E,λb hb hl=>⟨(C b hb).1,(C b hb).2.trans hl⟩,λb k hl _=>⟨(C b (D b k hl)).1,(C b (D b k hl)).2.trans hl⟩,λ_ _=>rfl,λ_ _ _ _ _=>rfl,λ_ _ _=>rfl⟩
def RA.lz{x:A}{u:Value}(h:RA w B aj ρ x u)(C:w.heap.size<=w'.heap.size)(D:∀ b,b<w.heap.size->w'.heap[b]?=w.heap[b]?/\aD b=aj b)(E:∀ b k,aj b=some k->b<w.heap.size):RA w' B aD ρ x u:=by
 have:=h.tr (.lz C D E) Z9
 rwa [A.F8]at this
def dR.lz{x:Lf}{u:Value}(h:dR w B aj ρ x u)(C:w.heap.size<=w'.heap.size)(D:∀b,b<w.heap.size->w'.heap[b]?=w.heap[b]?/\aD b=aj b)(E:∀b k,aj b=some k->b<w.heap.size):dR w' B aD ρ x u:=RA.lz (x:=.lf x) h C D E
def eK.lz{cs:aa Lf}{us:Array Value}(h:eK w B aj ρ cs us)(C:w.heap.size<=w'.heap.size)(D:∀ b,b<w.heap.size->w'.heap[b]?=w.heap[b]?/\aD b=aj b)(E:∀ b k,aj b=some k->b<w.heap.size):eK w' B aD ρ cs us:=
 ⟨h.1,λj x I=>let ⟨u,hu,r⟩:=h.2 j x I;⟨u,hu,r.lz C D E⟩⟩
def ei.lz{r:Nat}{x:aV}(h:ei w B aj ρ r x)(C:w.heap.size<=w'.heap.size)(D:∀ b,b<w.heap.size->w'.heap[b]?=w.heap[b]?/\aD b=aj b)(E:∀ b k,aj b=some k->b<w.heap.size):ei w' B aD ρ r x:=by
 have:=h.tr (.lz C D E) Z9 rfl rfl
 rwa [aV.F8]at this
/-! A root's name is given anew. -/
def uD{d:Nat}{t:aa Nat->Bool}{c:Nat->Bool}(E:∀ k,cR d k=false->t k=false)(I:∀ r,r≠d->c r=false):(wm d).OK t c:=by
 have h:∀ k,cR d k=false->jc c k=false:=λk C=>by
  unfold jc;split
  next r D=>exact I r (by rintro rfl;simp[cR,D]at C)
  ·rfl
 exact⟨λk C=>⟨.inr (E k C),h k C⟩,λk C=>⟨E k C,h k C⟩,λr D=>I r (by rintro rfl;simp[wm]at D)⟩
def oE{d r:Nat}(h:r≠d):Nat.beq r d=false:=Bool.eq_false_iff.2 λe=>h (cB e)
def Tr.F9{d:Nat}(C:∀ r,r≠d->ρ' r=ρ r):Tr w w aj aj ρ ρ' (λ_=>false) (λr=>Nat.beq r d):=
 ⟨dJ _,λ_ _ h=>⟨rfl,h⟩,λ_ _ h _=>⟨rfl,h⟩,λr D=>C r (by rintro rfl;simp at D),λ_ _ _ _ _=>rfl,λ_ _ _=>rfl⟩
def RP.eY{d:Nat}(C:∀r,r≠d->ρ' r=ρ r){p:Bool×aa Lf}{u:Value}(h:RP w B aj ρ p u):RP w B aj ρ' (p.1,p.2.map (Lf.drop d)) u:=h.tr (.F9 C) (uD (λ_ _=>rfl) λ_=>oE)
def RA.eY{d:Nat}(C:∀r,r≠d->ρ' r=ρ r){x:A}{u:Value}(h:RA w B aj ρ x u):RA w B aj ρ' (x.drop d) u:=h.tr (.F9 C) (uD (λ_ _=>rfl) λ_=>oE)
def eK.eY{d:Nat}(C:∀r,r≠d->ρ' r=ρ r){cs:aa Lf}{us:Array Value}(h:eK w B aj ρ cs us):eK w B aj ρ' (cs.map (Lf.drop d)) us:=h.tr (.F9 C) (uD (λ_ _=>rfl) λ_=>oE)
def dR.eY{d:Nat}(C:∀r,r≠d->ρ' r=ρ r){x:Lf}{u:Value}(h:dR w B aj ρ x u):dR w B aj ρ' (x.drop d) u:=h.tr (.F9 C) (uD (λ_ _=>rfl) λ_=>oE)
def ei.eY{d r:Nat}(C:∀r,r≠d->ρ' r=ρ r)(D:r≠d){x:aV}(h:ei w B aj ρ r x):ei w B aj ρ' r (x.drop d):=h.tr (.F9 C) (uD (λ_ _=>rfl) λ_=>oE) rfl (oE D)
def bW{α:Type}(f:Nat->α)(d:Nat)(x:α):Nat->α:=λk=>bif Nat.beq k d then x else f k
def bZ{α:Type}(f:Nat->α)(d:Nat)(x:α):bW f d x d=x:=by simp[bW]
def cH{α:Type}(f:Nat -> α)(d:Nat)(x:α){k:Nat}(h:k≠d):bW f d x k=f k:=by
 have:Nat.beq k d=false:=by
  cases hb:Nat.beq k d with
  |false=>rfl
  |true=>simp_all
 simp[bW,this,au]
def S.set(σ:S)(d:Nat)(x:A):S:={ σ with t:=bW σ.t d x }
def S.drop(σ:S)(d:Nat):S:=⟨λk=>(σ.t k).drop d,λr=>bif Nat.beq r d then none else (σ.m r).map (aV.drop d)⟩
def S.root(σ:S)(d:Nat)(x:aV):S:={ σ with m:=bW σ.m d (some x) }
def Rl.set{x:A}{v:Value}{d:Nat}(h:Rl w0 N aj ρ σ a w)(E:RA w w0.heap.size aj ρ x v)(D:d<N):Rl w0 N aj ρ (σ.set d x) (a.put (some d) v) w:=by
 refine⟨h.below,h.cV,h.root,λk=>?_,?_,h.defers,h.fix,h.dm⟩
 ·show RA w _ aj ρ (bW σ.t d x k) ((a.tmps.setIfInBounds d v).getD k undef);by_cases C:k=d
  ·subst C;rw[bZ,iE,Array.getElem?_setIfInBounds_self];have:k<a.tmps.size:=by rw[h.size];exact D
   simp_all
  ·rw[cH _ _ _ C,iE,Array.getElem?_setIfInBounds_ne (Ne.symm C),<- iE];exact h.tmp k
 ·show (a.tmps.setIfInBounds d v).size=N;rw[Array.size_setIfInBounds];exact h.size
def Rl.grow(h:Rl w0 N aj ρ σ a w)(hb:Below w.heap.size w w')(hl:∀ b,b<w.heap.size -> aD b=aj b)(I:∀ b k,w.heap.size <= b -> aD b=some k -> b<w'.heap.size/\k≠[]):Rl w0 N aD ρ σ a w':=by
 have D:∀b,b<w.heap.size -> w'.heap[b]?=w.heap[b]?/\aD b=aj b:=λb E=>⟨hb.block b E,hl b E⟩
 refine⟨h.below.trans (.of hb h.below.size),λb k C=>?_,λr x L=>(h.root r x L).lz hb.size D (λb k hb=>(h.cV b k hb).2.1),λk=>(h.tmp k).lz hb.size D (λb k hb=>(h.cV b k hb).2.1),h.size,h.defers,h.fix,h.dm⟩
 rcases Nat.lt_or_ge b _ with O|oF
 ·rw[hl b O]at C;have:=h.cV b k C
  grind
 ·have:=I b k oF C;exact⟨.inl (Nat.le_trans h.below.size oF),this.1,this.2⟩
def Rl.new{d:Nat}{x:aV}(h:Rl w0 N aj ρ σ a w)(l:Loc)(O:ei w w0.heap.size aj (bW ρ d l) d x)(I:w0.F d=none):Rl w0 N aj (bW ρ d l) ((σ.drop d).root d x) a w:=by
 have E:∀r,r≠d -> bW ρ d l r=ρ r:=λr D=>cH _ _ _ D
 refine⟨h.below,h.cV,λr y C=>?_,λk=>(h.tmp k).eY E,h.size,h.defers,λr L D=>(E r (by rintro rfl;rw[I]at D;cases D)).trans (h.fix r L D),h.dm⟩
 by_cases D:r=d
 ·subst D;have e:(bW (σ.drop r).m r _) r=some x:=bZ _ _ _;have C:(bW (σ.drop r).m r _) r=some y:=C;simp_all
 ·have C:(bW (σ.drop d).m d _) r=some y:=C;rw[cH _ _ _ D]at C;have hb:Nat.beq r d=false:=by
   cases hb:Nat.beq r d with
   |false=>rfl
   |true=>simp_all
  simp only[S.drop,hb,au]at C;cases hm:σ.m r with
  |none=>simp_all
  | some z=>
   rw[hm]at C;injection C with C;subst C;exact(h.root r z hm).eY E D
end
def splice{α:Type}(l:aa α)(j:Nat)(xs:aa α):aa α:=l.take j++xs++l.drop (j+xs.length)
def sR{α:Type}(l:aa α)(j:Nat)(xs:aa α)(h:j+xs.length<=l.length):(splice l j xs).length=l.length:=by
 simp[splice];omega
def wo{α:Type}(l:aa α)(j:Nat)(xs:aa α)(h:j+xs.length <= l.length)(n:Nat):
  (splice l j xs)[n]?=if n<j then l[n]? else if n<j+xs.length then xs[n-j]? else l[n]?:=by
 unfold splice
 grind
structure uE (w w':World) (bt:Nat):Prop where
 size:w'.heap.size=w.heap.size
 os:w'.os=w.os
 tape:w'.tape=w.tape
 output:w'.output=w.output
 block:∀k,k≠bt->w'.heap[k]?=w.heap[k]?
def Mj(w:World)(b o:Nat)(l:aa Value):uE w (w.setCells b o l) b:=by
 have g:=ZZ b l o w;have s:=ZY b l o w
 refine⟨s,g.os,g.tape,g.output,λk C=>?_⟩
 rcases Nat.lt_or_ge k _ with D|oF
 ·exact g.block k D (by intro e;injection e with e;exact C e)
 ·simp_all
section
variable {w w':World} {w0:Wd} {B N:Nat} {aj:bI} {ρ:Nat->Loc} {m m':Nat->ah aV} {σ:S} {a:Act} {bt:Nat} {kt:aa Nat}
def qA(w w':World)(aj:bI)(ρ:Nat->Loc):Prop:=∀k ad v,addrAt w aj ρ k=some ad->w.cell? ad=some v->mD v=true->w'.cell? ad=some v
def SS(D:qA w w' aj ρ):∀ (k:aa Nat) (ad:Addr),addrAt w aj ρ k=some ad -> addrAt w' aj ρ k=some ad
 |[],_,h=>h
 |[_],_,h=>h
 |[_,_],_,h=>h
 |[j,i,s,r],_,h=>by simp only[addrAt]at h ⊢;exact h
 | j :: i :: s :: x :: y :: q,ad,h=>by
  simp only[addrAt]at h ⊢;cases C:addrAt w aj ρ (x::y::q)with
  |none=>simp_all
  | some I=>
   rw[SS D _ _ C];rw[C]at h;cases E:w.cell? I with
   |none=>simp_all
   | some v=>
    simp only[Option.bind_some,E]at h;have L:mD v=true:=by
     split at h
     next e=>injection e with e;subst e;rfl
     ·cases h
    simp only[Option.bind_some,D _ _ _ C E L];exact h
def aaa(D:qA w w' aj ρ)(k:aa Nat)(u:Value)(E:mD u=true)(h:cU w aj ρ k=some u):cU w' aj ρ k=some u:=by
 match k,h with
 |[r],h=>exact h
 | x :: y :: q,h=>
  simp[cU]at h ⊢;cases C:addrAt w aj ρ _ with
  |none=>rw[C]at h;cases h
  | some ad=>
   rw[SS D _ _ C];rw[C]at h;exact D _ _ _ C h E
def dR.wrote{x:Lf}{u:Value}(h:dR w B aj ρ x u)(C:uE w w' bt)(hl:aj bt=some kt)(D:qA w w' aj ρ):dR w' B aj ρ x u:=by
 cases x with
 |v x=>exact⟨h.1,h.2.apart hl (.inr h.1) (Nat.le_of_eq C.size.symm) C.block⟩
 |own k=>exact⟨h.1,aaa D k u h.1 h.2⟩
 |dead=>trivial
def eK.wrote{cs:aa Lf}{us:Array Value}(h:eK w B aj ρ cs us)(C:uE w w' bt)(hl:aj bt=some kt)(D:qA w w' aj ρ):eK w' B aj ρ cs us:=
 ⟨h.1,λj x E=>let ⟨u,hu,r⟩:=h.2 j x E;⟨u,hu,r.wrote C hl D⟩⟩
def RP.wrote{p:Bool×aa Lf}{u:Value}(h:RP w B aj ρ p u)(C:uE w w' bt)(hl:aj bt=some kt)(D:qA w w' aj ρ):RP w' B aj ρ p u:=by
 obtain⟨b,cs⟩:=p;cases b with
 |true=>obtain⟨us,e,h⟩:=h;exact⟨us,e,h.wrote C hl D⟩
 |false=>exact eK.wrote h C hl D
def RF.wrote{cs:aa V}{u:Value}(h:RF w B aj cs u)(C:uE w w' bt)(hl:aj bt=some kt):RF w' B aj cs u:=by
 obtain⟨b,off,e,hb,D,h⟩:=h;have I:b≠bt:=by rintro rfl;rw[hl]at D;cases D
 refine⟨b,off,e,by rw[C.size];exact hb,D,λj x L=>?_⟩
 obtain⟨E,v,O,T⟩:=h j x L;exact⟨E,v,(World.cell?_of_block (C.block b I)).trans O,T.apart hl (.inr E) (Nat.le_of_eq C.size.symm) C.block⟩
def RA.wrote{x:A}{u:Value}(h:RA w B aj ρ x u)(C:uE w w' bt)(hl:aj bt=some kt)(D:qA w w' aj ρ):RA w' B aj ρ x u:=by
 cases x with
 |undef=>trivial
 |skip=>exact h
 |lf x=>exact dR.wrote h C hl D
 |agg cs=>exact RP.wrote (p:=(true,cs)) h C hl D
 |eX xs=>obtain⟨us,e,E,h⟩:=h;exact⟨us,e,E,λj p I=>let ⟨v,L,r⟩:=h j p I;⟨v,L,r.wrote C hl D⟩⟩
 |ptr k=>obtain⟨ad,e,h⟩:=h;exact⟨ad,e,SS D _ _ h⟩
 |view k s i j=>obtain⟨A,n,c,h,g⟩:=h;exact⟨A,n,c,aaa D k _ rfl h,g⟩
 |pk r n=>exact h
 |aO r j=>exact h
 |jo cs=>exact RF.wrote h C hl
 |ng f cs=>obtain⟨pv,e,h⟩:=h;exact⟨pv,e,h.wrote C hl⟩
 |fn f cap=>exact h
def ei.wrote{r:Nat}{x:aV}(h:ei w B aj ρ r x)(E:uE w w' bt)(hl:aj bt=some kt)(U:qA w w' aj ρ)(L:¬ [r] <:+ kt):ei w' B aj ρ r x:=by
 cases h with
 | aC b off cells e cs us D C O Z Y=>
  have T:b≠bt:=by rintro rfl;rw[hl]at C;injection C with C;subst C;exact L (List.suffix_refl _)
  exact .aC b off cells e cs us D C ((E.block b T).trans O) Z (λj x I=>⟨(Y j x I).1,(Y j x I).2.wrote E hl U⟩)
 |sl v y D fJ=>exact .sl v y D (fJ.apart hl (.inl L) (Nat.le_of_eq E.size.symm) E.block)
 | mp b c es l D C O he=>
  have T:b≠bt:=by rintro rfl;rw[hl]at C;injection C with C;subst C;exact L (List.suffix_refl _)
  exact .mp b c es l D C ((E.block b T).trans O) he
 |gh us xs D I=>exact .gh us xs D λj x hj=>(I j x hj).wrote E hl U
def Rl.wrote(h:Rl w0 N aj ρ σ a w)(C:uE w w' bt)(hl:aj bt=some kt)(I:qA w w' aj ρ)(O:∀ r x,m' r=some x -> ei w' w0.heap.size aj ρ r x):Rl w0 N aj ρ ⟨σ.t,m'⟩ a w':=by
 have hb:=(h.cV bt kt hl).1;have T:∀ k,k<w0.heap.size -> w0.L k=none -> k≠bt:=by
  grind
 refine⟨⟨C.os.trans h.below.os,C.tape.trans h.below.tape,C.output.trans h.below.output,by rw[C.size];exact h.below.size,λk D E=>(C.block k (T k D E)).trans (h.below.block k D E)⟩,λb k U=>?_,O,λk=>(h.tmp k).wrote C hl I,h.size,h.defers,h.fix,h.dm⟩
 rw[C.size];exact h.cV b k U
def aab{r C:Nat}(h:C≠r):¬ [C] <:+ [r]:=by
 intro D;have:=D.eq_of_length rfl;simp_all
def Rl.Ga{r j:Nat}{cs xs:aa Lf}{us:Array Value}(h:Rl w0 N aj ρ σ a w)(hm:σ.m r=some (.aC cs))(hx:eK w w0.heap.size aj ρ xs us)(hj:j+xs.length <= cs.length):
  ∃b off,ρ r = .aC b off/\w.there b (off+j) us.size/\Rl w0 N aj ρ ⟨σ.t,bW σ.m r (some (.aC (splice cs j xs)))⟩ a (w.setCells b (off+j) us.toList):=by
 have O:=h.root r _ hm;generalize D:aV.aC cs=x at O;cases O with
 |sl=>cases D
 |mp=>cases D
 |gh=>cases D
 | aC b off cells e eV u cO hl U hs hc=>
  injection D with D;subst D;have hlen:us.size=xs.length:=hx.1;have lY:off+j+us.toList.length <= cells.size:=by rw[lS,hlen];omega
  have E:=Mj w b (off+j) us.toList;obtain⟨T,gT,ni⟩:=F0 b e us.toList (off+j) w cells U lY;have L:qA w (w.setCells b (off+j) us.toList) aj ρ:=by
   intro k ad v ha Y gx;obtain⟨j',i',s',q,rfl,hq,_,_,hh'⟩:=AT k ad ha;have cL:ad.block≠b:=by
    intro e
    grind
   exact(World.cell?_of_block (E.block _ cL)).trans Y
  refine⟨b,off,cO,λn hn=>⟨?_,frozen_of_row w b _ cells e U⟩,h.wrote E hl L λr' y I=>?_⟩
  ·rw[cell_of_row w b _ cells e _ U];simp;omega
  ·by_cases Z:r'=r
   ·subst Z;rw[bZ]at I;injection I with I;subst I
    refine .aC b off T e _ (λn=>if n<j then u n else if n<j+xs.length then us.getD (n-j) undef else u n) cO hl gT ?_ λn x C=>?_
    ·rw[sR _ _ _ hj,<- lS,ni]
     grind
    ·have e2:T[off+n]?=(splice cells.toList (off+j) us.toList)[off+n]?:=by
      rw[show T[off+n]?=T.toList[off+n]? by simp,ni];rfl
     rw[e2,wo _ _ _ (by simpa using lY)];rw[wo _ _ _ hj]at C;by_cases h1:n<j
     ·rw[bN];simp only[h1]at C ⊢;refine⟨?_,(hc n x C).2.wrote E hl L⟩;simp_all
     ·by_cases h2:n<j+xs.length
      ·rw[bO,bN (by rw[lS,hlen];omega)];simp only[h1,h2,if_true,if_false]at C ⊢;obtain⟨v,Y,O⟩:=hx.2 (n-j) x C;have hg:us.getD (n-j) undef=v:=by rw[iE,Y];rfl
       rw[hg];refine⟨?_,O.wrote E hl L⟩
       grind
      ·rw[bO,bO (by rw[lS];omega)];simp only[h1,h2]at C ⊢;refine⟨?_,(hc n x C).2.wrote E hl L⟩
       grind
   ·rw[cH _ _ _ Z]at I;exact(h.root r' y I).wrote E hl L (aab Z)
inductive yH (m:Nat->Option aV):List Nat->V->(Nat->Option aV)->Prop
 |root (r:Nat) (y0 y:V) (h:m r=some (.sl y0)):yH m [r] y (bW m r (some (.sl y)))
 | elem (j i:Nat) (q:List Nat) (t:TC) (o:Nat) (qn:Bool) (l:List (T t)) (y:V) (e:T t) (m':Nat->Option aV) (h:wj m q (.sl t (o+2) qn l)) (hi:i<l.length) (hj:j<aG t)
   (hd:dec t o (splice (enc t o l[i]) j [y])=some e) (hp:yH m q (.sl t (o+2) qn (l.set i e)) m'):yH m (j::i::aG t::q) y m'
def SU{α:Type}{a b c:aa α}(D:a <:+ c)(hb:b <:+ c)(h:a.length=b.length):a=b:=by
 obtain⟨x,E⟩:=D;obtain⟨y,C⟩:=hb;rw[<-E]at C;exact((List.append_inj' C h.symm).2).symm
def RV.Mk{q:aa Nat}{t:TC}{o:Nat}{U:Bool}{l:aa (T t)}{i j:Nat}{xs:aa V}{e:T t}{b cap:Nat}{cs eV:Array Value}{u us:Nat -> Nat -> Value}
  (hl:aj b=some q) (hh:w'.heap[b]?=some (.cells eV (tid t) (0,0))) (hs:eV.size=cap*aG t) (hn:l.length <= cap) (hm:cap <= maxLen/\(U=true -> cap=l.length)) (hi:i<l.length) (hj:j+xs.length <= aG t)
  (hd:dec t o (splice (enc t o l[i]) j xs)=some e)
  (hc:∀D (h:D<l.length) (C:Nat) x,(enc t o l[D])[C]?=some x -> ¬ (D=i/\j <= C/\C<j+xs.length) -> eV[D*aG t+C]?=some (u D C)/\RV w' B aj (C::D::aG t::q) x (u D C))
  (hx:∀(n:Nat) x,xs[n]?=some x -> eV[i*aG t+(j+n)]?=some (us i (j+n))/\RV w' B aj ((j+n)::i::aG t::q) x (us i (j+n))):
  RV w' B aj q (.sl t (o+2) U (l.set i e)) (.slice (some ⟨b,0,none⟩) l.length cap):=by
 have hlen:(l.set i e).length=l.length:=iY;have key:∀ D (h:D<(l.set i e).length) (C:Nat) x,(enc t o (l.set i e)[D])[C]?=some x ->
   ∃v,eV[D*aG t+C]?=some v/\RV w' B aj (C::D::aG t::q) x v:=by
  intro D h C x I;rw[List.getElem_set]at I;by_cases hii:i=D
  ·subst hii;rw[bN rfl]at I;have hk:=lW t o _ e hd;have rM:C<(enc t o e).length:=(dQ.1 I).1;rw[<- hk.1]at rM;have E:=bS rM;generalize (splice (enc t o l[i]) j xs)[C]=y at E;have Y:=hk.2 C y x E I;rw[wo _ _ _ (by rw[kL];exact hj)]at E;by_cases Z:C<j
   ·rw[bN Z]at E;obtain⟨L,O⟩:=hc i hi C y E (by omega);exact⟨_,L,O.wk Y⟩
   ·by_cases h2:C<j+xs.length
    ·rw[bO Z,bN h2]at E;obtain⟨L,O⟩:=hx _ y E;rw[show j+(C-j)=C by omega]at L O;exact⟨_,L,O.wk Y⟩
    ·rw[bO Z,bO h2]at E;obtain⟨L,O⟩:=hc i hi C y E (by omega);exact⟨_,L,O.wk Y⟩
  ·grind
 rw[<- hlen]
 refine .own q t o U (l.set i e) b cap eV (λD C=>(eV[D*aG t+C]?).getD undef) hl hh hs (by rw[hlen];exact hn) ⟨hm.1,λh=>by rw[hlen];exact hm.2 h⟩ (λD h C x I=>?_) (λD h C x I=>?_)
 ·grind
 ·obtain⟨v,hv,hr⟩:=key D h C x I;simp_all
def aac{r:Nat}{q:aa Nat}(h:[r] <:+ q){C:Nat}(D:[C] <:+ q):C=r:=by
 have:=SU D h rfl;injection this
def yH.ok{q:aa Nat}{y:V}(h:yH m q y m')(Z:∀ r x,m r=some x -> ei w B aj ρ r x)(O:uE w w' bt)(hl:aj bt=some kt)(T:q <:+ kt)(hC:qA w w' aj ρ){I:Value}(D:cU w aj ρ q=some I)(hy:RV w' B aj q y I):
  ∀r x,m' r=some x -> ei w' B aj ρ r x:=by
 induction h generalizing I with
 | root r y0 y h=>
  intro U x C;by_cases L:U=r
  ·subst L;rw[bZ]at C;injection C with C;subst C;simp only[cU]at D;cases cO:ρ U with
   |aC b off=>grind
   |bT us=>grind
   | dH v=>
    rw[cO]at D;injection D with D;subst D;exact .sl v y cO hy
  ·rw[cH _ _ _ L]at C;exact(Z U x C).wrote O hl hC (λY=>L (aac T Y))
 | elem j i q t o qn l y e m' h hi hj hd hp ih=>
  obtain⟨wq,AV,fJ⟩:=h.ok Z;have hqk:q <:+ kt:=List.IsSuffix.trans ⟨[j,i,aG t],rfl⟩ T;cases fJ with
  |eE=>simp at hi
  |fI=>simp at hi
  |fV=>simp at hi
  |aI _ _ _ _ _ _ _ _ _ ho=>omega
  | own _ _ _ _ _ b cap cs us E hh Y hn rN hc L=>
   have cL:b≠bt:=by
    rintro rfl;rw[hl]at E;injection E with E;subst E;have:=T.length_le
    grind
   have hz:=Nat.le_of_eq O.size.symm
   refine ih hqk AV (RV.Mk (us:=λ_ _=>I) (u:=us) (cs:=cs) (xs:=[y]) E ((O.block b cL).trans hh) Y hn rN hi (show j+1 <= aG t from hj) hd (λi' h' j' x C Ml=>⟨hc i' h' j' x C,(L i' h' j' x C).apart hl (.inl λoG=>Ml ?_) hz O.block⟩) (λn x C=>?_))
   ·have:=SU oG T rfl
    grind
   ·cases n with
    |succ n=>simp at C
    | zero=>
     simp at C;subst C;refine⟨?_,hy⟩;rw[Mg,AS j i _ AV E]at D;have D:w.cell? ⟨b,i*aG t+j,none⟩=some I:=D;rw[cell_of_row w b _ cs _ _ hh]at D;exact D
def RV.aad{q:aa Nat}{x:V}{v:Value}(h:RV w B aj q x v)(C:x.plain=true):mD v=false:=by
 cases h<;>first|rfl|cases C
def RV.sS{q C:aa Nat}{x:V}{v:Value}{B':Nat}{aD:bI}(h:RV w B aj q x v)(D:x.plain=true):RV w' B' aD C x v:=by
 cases h<;>first|exact .int _ _ _|exact .bool _ _|exact .str _ _|cases D
def Rl.amT{j i:Nat}{q:aa Nat}{t:TC}{o:Nat}{qn:Bool}{l:aa (T t)}{xs:aa V}{us:Array Value}{e:T t}(h:Rl w0 N aj ρ σ a w)(hg:wj σ.m q (.sl t (o+2) qn l))(hi:i<l.length)(hj:j+xs.length <= aG t)
  (hd:dec t o (splice (enc t o l[i]) j xs)=some e) (hold:∀(n:Nat) x,n<xs.length -> (enc t o l[i])[j+n]?=some x -> x.plain=true) (hxp:∀x∈xs,x.plain=true) (mE:us.size=xs.length) (hx:∀(n:Nat) x,xs[n]?=some x -> ∃u,us[n]?=some u/\RV w w0.heap.size aj [] x u)
  (hp:yH σ.m q (.sl t (o+2) qn (l.set i e)) m'):
  ∃b,addrAt w aj ρ (j::i::aG t::q)=some ⟨b,i*aG t+j,none⟩/\w.there b (i*aG t+j) us.size/\Rl w0 N aj ρ ⟨σ.t,m'⟩ a (w.setCells b (i*aG t+j) us.toList):=by
 obtain⟨wq,AV,fJ⟩:=hg.ok h.root;cases fJ with
 |eE=>simp at hi
 |fI=>simp at hi
 |fV=>simp at hi
 |aI _ _ _ _ _ _ _ _ _ ho=>omega
 | own _ _ _ _ _ b cap cs u O Z hs hn rN hc hr=>
  have AX:i*aG t+aG t <= cap*aG t:=by
   have:(i+1)*aG t <= cap*aG t:=iZ _ (by omega);rw[iP]at this;exact this
  have lY:i*aG t+j+us.toList.length <= cs.size:=by rw[lS,mE,hs];omega
  have U:=Mj w b (i*aG t+j) us.toList;obtain⟨L,gT,ni⟩:=F0 b (tid t) us.toList (i*aG t+j) w cs Z lY;have sU:∀ n,L[n]?=if n<i*aG t+j then cs[n]? else if n<i*aG t+j+xs.length then us[n-(i*aG t+j)]? else cs[n]?:=by
   intro n;have e2:L[n]?=(splice cs.toList (i*aG t+j) us.toList)[n]?:=by
    rw[show L[n]?=L.toList[n]? by simp,ni];rfl
   rw[e2,wo _ _ _ (by simpa using lY),lS,mE];simp
  have Gb:L.size=cs.size:=by
   rw[<- lS,ni];have:=sR cs.toList _ us.toList (by simpa using lY)
   grind
  have hC:qA w (w.setCells b (i*aG t+j) us.toList) aj ρ:=by
   intro k ad v ha D gx;by_cases cL:ad.block=b
   ·obtain⟨I,C,s',q',rfl,AU,amU,uF,_⟩:=AT k ad ha;have rO:ad=⟨b,ad.off,none⟩:=by cases ad;simp_all
    rw[rO,cell_of_row w b _ cs _ _ Z]at D;rw[rO,cell_of_row _ b _ L _ _ gT,sU];by_cases h1:ad.off<i*aG t+j
    ·rw[bN h1];exact D
    ·by_cases h2:ad.off<i*aG t+j+xs.length
     ·exfalso;have hjs:ad.off-(i*aG t+j)<xs.length:=by omega
      have wu:j+(ad.off-(i*aG t+j))<(enc t o l[i]).length:=by rw[kL];omega
      have hy:=bS wu;generalize (enc t o l[i])[j+(ad.off-(i*aG t+j))]=y at hy;have uG:=hold _ y hjs hy;have Y:=hc i hi _ y hy;rw[show i*aG t+(j+(ad.off-(i*aG t+j)))=ad.off by omega]at Y;rw[D]at Y;injection Y with Y;have:=(hr i hi _ y hy).aad uG;rw[<- Y,gx]at this;cases this
     ·rw[bO h1,bO h2];exact D
   ·exact(World.cell?_of_block (U.block _ cL)).trans D
  refine⟨b,AS j i (aG t) AV O,λn yI=>⟨?_,frozen_of_row w b _ cs _ Z⟩,h.wrote U O hC (hp.ok h.root U O (List.suffix_refl _) hC AV ?_)⟩
  ·rw[cell_of_row w b _ cs _ _ Z];simp;omega
  ·refine RV.Mk (u:=u) (us:=λ_ n=>us.getD (n-j) undef) (cs:=cs) (xs:=xs) O gT (Gb.trans hs) hn rN hi hj hd (λC h' I x E Ml=>?_) (λn x E=>?_)
   ·have rM:I<aG t:=by have:=(dQ.1 E).1;rwa [kL]at this
    refine⟨?_,(hr C h' I x E).apart O (.inl λoG=>?_) (Nat.le_of_eq U.size.symm) U.block⟩
    ·rw[sU];have AY:¬ (¬ C*aG t+I<i*aG t+j/\C*aG t+I<i*aG t+j+xs.length):=by
      rintro⟨h1,h2⟩;rcases Nat.lt_trichotomy C i with dW|heq|De
      ·have:(C+1)*aG t <= i*aG t:=iZ _ dW;rw[iP]at this;omega
      ·subst heq
       grind
      ·have:(i+1)*aG t <= C*aG t:=iZ _ De;rw[iP]at this;omega
     split
     ·exact hc C h' I x E
     ·rw[bO];exact hc C h' I x E
    ·have:=oG.length_le;simp at this;omega
   ·obtain⟨v,D,AZ⟩:=hx n x E;have yI:n<xs.length:=(dQ.1 E).1;have Df:us.getD (j+n-j) undef=v:=by rw[show j+n-j=n by omega,iE,D];rfl
    rw[Df,sU,bO,bN];refine⟨?_,AZ.sS (hxp x (gX E))⟩;rw[show i*aG t+(j+n)-(i*aG t+j)=n by omega];exact D
end
def SV:Value->A
 |.bool b=>.lf (.v (.bool b))
 |.int k n=>.lf (.v (.int k n))
 |.string s=>.lf (.v (.str s))
 |.slice none 0 0=>.lf (.v .nil)
 |_=>.undef
def aK(σ:S):Operand->A
 |.tmp t=>σ.t t
 |.const v=>SV v
 |.func f=>.fn f []
 |.global _=>.undef
def ir{X:Type}(N:Nat)(σ:S)(C:ah Tmp)(x:A)(k:S->ah X):ah X:=
 match C with
 |none=>k σ
 |some d=>bif Nat.blt d N then k (σ.set d x)else none
def lA(P:Program)(w0:Wd)(N:Nat)(o:Oper)(σ D:S):Prop:=
 ∀a w K Q,R w0 N σ a w->(∀C w',R w0 N D C w'->K C w')->o.wp P a w K Q
section
variable {P:Program} {w:World} {w0:Wd} {B N:Nat} {aj:bI} {ρ:Nat->Loc} {σ:S} {a:Act} {X:Type} {r:X} {k:S->ah X} {o:Oper}
def amV(v:Value):RA w B aj ρ (SV v) v:=by
 unfold SV;split
 ·exact⟨rfl,.bool _ _⟩
 ·exact⟨rfl,.int _ _ _⟩
 ·exact⟨rfl,.str _ _⟩
 ·exact⟨rfl,.nil _⟩
 ·trivial
def Rl.aK(h:Rl w0 N aj ρ σ a w)(x:Operand):RA w w0.heap.size aj ρ (aK σ x) (a.eval x):=by
 cases x with
 |tmp t=>exact h.tmp t
 |const v=>exact amV v
 |func f=>exact⟨#[],rfl,rfl,by simp⟩
 |global g=>trivial
def lA.val{x:A}(C:ir N σ o.dst x k=some r)(h:∀ aj ρ a w,Rl w0 N aj ρ σ a w -> ∃ v,(execOp a.eval o).run P w = .ok (.value v) w/\RA w w0.heap.size aj ρ x v):∃ L,k L=some r/\lA P w0 N o σ L:=by
 unfold ir at C;split at C
 ·rename_i D
  refine⟨σ,C,λa w K Q hR E=>?_⟩
  obtain⟨aj,ρ,hl⟩:=hR;obtain⟨v,I,O⟩:=h aj ρ a w hl;unfold Oper.wp;rw[I,Oper.upon_value,D];exact E _ _ ⟨aj,ρ,hl⟩
 ·rename_i d D;cases T:Nat.blt d N with
  |false=>simp_all
  | true=>
   rw[T]at C
   refine⟨_,C,λa w K Q hR E=>?_⟩
   obtain⟨aj,ρ,hl⟩:=hR;obtain⟨v,I,O⟩:=h aj ρ a w hl;unfold Oper.wp;rw[I,Oper.upon_value,D];exact E _ _ ⟨aj,ρ,hl.set O (by have:=cK T;omega)⟩
/-! What does the same whatever comes behind. -/
def mF{α:Type}(f:(X:Type)->(α->ah X)->ah X)(y:α):Prop:=∀(X:Type) (k:α->ah X),f X k=k y
def mF.at_{α:Type}{f:(X:Type)->(α->ah X)->ah X}{y:α}(h:mF f y){X:Type}(k:α->ah X):f X k=k y:=h X k
def cI{α:Type}(f:(X:Type)->(α->ah X)->ah X):Prop:=∀(X Y:Type) (k:α->ah X) (g:X->ah Y),(f X k).bind g=f Y λy=>(k y).bind g
def cI.lZ{α:Type}{f:(X:Type)->(α->ah X)->ah X}(n:cI f){X:Type}{k:α->ah X}{r:X}(h:f X k=some r):∃ y,k y=some r/\mF f y:=by
 have e:∀(Y:Type) (k:α->ah Y),f Y k=(f α some).bind k:=λY k=>(n α Y some k).symm
 rw[e]at h;cases C:f α some with
 |none=>rw[C]at h;cases h
 |some y=>rw[C]at h;exact⟨y,h,λX k=>by rw[e,C];rfl⟩
def cI.comp{α β:Type}{f:(X:Type)->(α->ah X)->ah X}{b:(X:Type)->(β->ah X)->α->ah X}(n:cI f)(m:∀y,cI λX k=>b X k y):cI λX k=>f X (b X k):=λX Y k g=>(n X Y _ g).trans (bx _ (funext λy=>m y X Y k g))
def dc{X Y:Type}{b:Bool}{x y:ah X}{C D:ah Y}{g:X->ah Y}(E:x.bind g=C)(I:y.bind g=D):(bif b then x else y).bind g=bif b then C else D:=by
 cases b
 ·exact I
 ·exact E
/-! Contents of leaves. -/
def jr{X:Type}(m:Nat->ah aV):aa Nat->(V->ah X)->ah X
 | [r],k=>match m r with
  |some (.sl y)=>k y
  |_=>none
 | j :: i :: s :: q,k=>jr m q λy=>match y with
  |.sl t (o+2) _ l=>if s=aG t then (if h:i<l.length then (match (enc t o l[i])[j]? with|some z=>k z|none=>none)else none)else none
  |_=>none
 |_,_=>none
def rP{m:Nat -> ah aV}:∀ (q:aa Nat) (k:V -> ah X),jr m q k=some r -> ∃ y,wj m q y/\k y=some r
 |[],_,h=>by simp[jr]at h
 | [x],k,h=>by
  simp only[jr]at h;split at h
  next y D=>exact⟨y,.root x y D,h⟩
  ·cases h
 | j :: i :: s :: q,k,h=>by
  obtain⟨y,D,C⟩:=rP q _ h;clear h;split at C
  ·split at C
   ·rename_i E;subst E;split at C
    ·rename_i hi;split at C
     next z I=>exact⟨z,.elem j i q _ _ _ _ z D hi I,C⟩
     ·cases C
    ·cases C
   ·cases C
  ·cases C
def oH{X:Type}(σ:S)(x:Lf)(k:V->ah X):ah X:=
 match x with
 |.v y=>k y
 |.own q=>jr σ.m q k
 |.dead=>none
def RV.part{q:aa Nat}{C:TC}{g:Nat}{U:Bool}{xs:aa (T C)}{A:ah Addr}{n c a h:Nat}(L:RV w B aj q (.sl C g U xs) (.slice A n c))(I:g<2)(h1:a <= h)(D:h <= xs.length):RV w B aj q (.sl C g false ((xs.take h).drop a)) (sliced A a h c (aG C))/\n=xs.length/\xs.length <= c:=by
 have hlen:((xs.take h).drop a).length=h-a:=by simp;omega
 cases L with
 | eE=>
  have:a=0:=by simp at D;omega
  have:h=0:=by simpa using D
  subst_vars
  exact⟨.eE _ _ _,rfl,dJ _⟩
 | fI=>
  have:h=0:=by simpa using D
  subst this;have:a=0:=by omega
  subst this;exact⟨by unfold sliced;split<;>exact .fI _ _ _ _ _ I,rfl,Nat.zero_le _⟩
 | fV=>
  have:h=0:=by simpa using D
  subst this;have:a=0:=by omega
  subst this;exact⟨by unfold sliced;split<;>exact .fI _ _ _ _ _ I,rfl,Nat.zero_le _⟩
 |own=>omega
 | aI _ _ _ _ _ b off cap u Y hl hb hB Z hc L=>
  refine⟨?_,rfl,Z⟩;by_cases he:a=h
  ·subst he;have e0:=List.eq_nil_of_length_eq_zero (by rw[hlen];omega);rw[e0];unfold sliced;rw[Nat.sub_self];split<;>exact .fI _ _ _ _ _ I
  ·unfold sliced;rw[bO,<- hlen];have Mb:(some (⟨b,off,none⟩:Addr)).map (·.add (a*aG C))=some ⟨b,off+a*aG C,none⟩:=by
    simp;unfold Addr.add;simp_all
   rw[Mb];have O:∀ i (hi:i<((xs.take h).drop a).length),((xs.take h).drop a)[i]=xs[a+i]'(by omega):=by
    intro i hi;simp_all
   refine .aI _ _ _ _ _ b (off+a*aG C) (c-a) (λi j=>u (a+i) j) Y hl hb hB (by omega) (λi hi j x E=>?_) (λi hi j x E=>?_)
   ·rw[O]at E;have:=hc _ _ j x E
    grind
   ·rw[O i]at E
    grind
def aae(s i j:Nat):V->ah V
 |.sl t _ _ l=>bif Nat.beq s (aG t)then some (.sl t 0 false ((l.take j).drop i))else none
 |_=>none
def uH{X:Type}(σ:S)(q:aa Nat)(s i j:Nat)(k:V->ah X):ah X:=
 jr σ.m q λy=>match aae s i j y with
  |some z=>k z
  |none=>none
def rQ{X:Type}(σ:S)(y:A)(k:V->ah X):ah X:=
 match y with
 |.lf l=>oH σ l k
 |.view q s i j=>uH σ q s i j k
 |_=>none
def aaf{q:aa Nat}{s i j:Nat}{k:V -> ah X}(h:uH σ q s i j k=some r):∃ z,k z=some r/\z.aI=true /\ ∀ w0 N aj ρ a w,Rl w0 N aj ρ σ a w -> ∀ u,RA w w0.heap.size aj ρ (.view q s i j) u -> ∀ B',RV w B' (λ_=>none) [] z u:=by
 obtain⟨y,O,E⟩:=rP q _ h;clear h;split at E
 ·rename_i z C;unfold aae at C;split at C
  ·rename_i t g T l;cases I:Nat.beq s (aG t)with
   |false=>simp_all
   | true=>
    rw[I,aq]at C;obtain rfl:=cB I;injection C with C;subst C
    refine⟨_,E,rfl,λw0 N aj ρ a w hR u U B'=>?_⟩
    obtain⟨A,n,c,Y,Z,h3,rfl⟩:=U;obtain⟨v,D,hr⟩:=O.ok hR.root;rw[Y]at D;injection D with D;subst D;have L:RV w B' (λ_=>none) [] (.sl t 0 T l) (.slice A n c):=hr.gG;have hn:n=l.length:=by cases L<;>rfl
    exact(L.part (by omega) Z (by omega)).1
  ·cases C
 ·cases E
def vK{X:Type}(x:A)(k:V->ah X):ah X:=
 match x with
 |.lf (.v y)=>k y
 |_=>none
def SW{x:A}{k:V -> ah X}(h:vK x k=some r):∃ y,x = .lf (.v y)/\k y=some r:=by
 unfold vK at h
 grind
def RV.gU{q:aa Nat}{k:IntKind}{n:Int}{u:Value}(h:RV w B aj q (.int k n) u):u = .int k n:=by cases h;rfl
def RV.yJ{q:aa Nat}{n:Bool}{u:Value}(h:RV w B aj q (.bool n) u):u = .bool n:=by cases h;rfl
def RV.wz{q:aa Nat}{n:ByteArray}{u:Value}(h:RV w B aj q (.str n) u):u = .string n:=by cases h;rfl
/-! Arithmetic and comparison. -/
def bF(n:Nat):Bool:=decide (n<1073741824)
def Gc{X:Type}(P:Program)(ty:TypeId)(op:BinOp)(x y:V)(k:V->ah X):ah X:=
 match x,y with
 | .int C a,.int D b=>match op with
  |.shl=>if b<0 then none else k (.int C (C.wrap (a*2 ^ (min b.toNat C.bits))))
  |.shr=>if b<0 then none else k (.int C (a.fdiv (2 ^ (min b.toNat C.bits))))
  | op=>if C=D then (match op with
   |.add=>k (.int C (C.wrap (a+b)))
   |.sub=>k (.int C (C.wrap (a-b)))
   |.mul=>k (.int C (C.wrap (a*b)))
   |.quo=>if b=0 then none else k (.int C (C.wrap (a.tdiv b)))
   |.rem=>if b=0 then none else k (.int C (a.tmod b))
   |.and=>k (.int C (bits .and C a b))
   |.or=>k (.int C (bits .or C a b))
   |.xor=>k (.int C (bits .xor C a b))
   |.andNot=>k (.int C (bits .andNot C a b))
   |.eql=>k (.bool (a==b))
   |.neq=>k (.bool (a != b))
   |.lss=>k (.bool (decide (a<b)))
   |.leq=>k (.bool (decide (a<=b)))
   |.gtr=>k (.bool (decide (a > b)))
   |.geq=>k (.bool (decide (a >= b)))
   |_=>none)else none
 | .bool a,.bool b=>match P.underlying ty with
  | some .bool=>(match op with
   |.eql=>k (.bool (a==b))
   |.neq=>k (.bool (!(a==b)))
   |_=>none)
  |_=>none
 | .str a,.str b=>match op with
  |.add=>bif bF (a.size+b.size)then k (.str (a++b))else none
  |.eql=>k (.bool (a.toList==b.toList))
  |.neq=>k (.bool (!(a.toList==b.toList)))
  |_=>none
 |_,_=>none
def amW{ty:TypeId}{O:BinOp}{x y:V}{k:V -> ah X}(h:Gc P ty O x y k=some r):∃ z,k z=some r/\z.plain=true /\ ∀ (w:World) (B:Nat) (aj:bI) (E I:Operand) (q L:aa Nat) (u v:Value),RV w B aj q x u -> RV w B aj L y v ->
  ∃t,(do eqGuard O ty E I u v;binOp O ty u v:Sem Value).run P w = .ok t w/\RV w B aj [] z t:=by
 unfold Gc at h;split at h
 ·rename_i kx a ky b;split at h
  ·split at h
   ·cases h
   ·rename_i hb
    refine⟨_,h,rfl,λw B aj E I q L u v C D=>?_⟩
    obtain rfl:=C.gU;obtain rfl:=D.gU;exact⟨_,by simp[eqGuard,binOp,Op.shift,hb],.int _ _ _⟩
  ·split at h
   ·cases h
   ·rename_i hb
    refine⟨_,h,rfl,λw B aj E I q L u v C D=>?_⟩
    obtain rfl:=C.gU;obtain rfl:=D.gU;exact⟨_,by simp[eqGuard,binOp,Op.shift,hb],.int _ _ _⟩
  ·rename_i Y Z;split at h
   ·rename_i hk;subst hk;cases O
    case shl=>exact absurd rfl Y
    case shr=>exact absurd rfl Z
    case quo=>
     by_cases hb:b=0
     ·simp only[hb,if_true]at h;cases h
     ·simp[hb]at h
      refine⟨_,h,rfl,λw B aj E I q L u v C D=>?_⟩
      obtain rfl:=C.gU;obtain rfl:=D.gU;exact⟨_,by simp[eqGuard,binOp,Op.intDiv,hb],.int _ _ _⟩
    case rem=>
     by_cases hb:b=0
     ·simp only[hb,if_true]at h;cases h
     ·simp[hb]at h
      refine⟨_,h,rfl,λw B aj E I q L u v C D=>?_⟩
      obtain rfl:=C.gU;obtain rfl:=D.gU;exact⟨_,by simp[eqGuard,binOp,Op.intDiv,hb],.int _ _ _⟩
    all_goals first
     | (refine⟨_,h,rfl,λw B aj E I q L u v C D=>?_⟩
        obtain rfl:=C.gU;obtain rfl:=D.gU
        first
         |(refine⟨_,?_,.int _ _ _⟩;simp[eqGuard,binOp,Op.intArith];done)
         |(refine⟨_,?_,.int _ _ _⟩;simp[eqGuard,binOp,intBits_and,intBits_or,intBits_xor,intBits_andNot];done)
         |(refine⟨_,?_,.bool _ _⟩;simp[eqGuard,binOp,Op.intCmp];done))
     |cases h
   ·cases h
 ·rename_i a b;split at h
  ·rename_i U;split at h
   ·refine⟨_,h,rfl,λw B aj E I q L u v C D=>?_⟩
    obtain rfl:=C.yJ;obtain rfl:=D.yJ;have e:binOp .eql ty (.bool a) (.bool b)=(do pure (.bool (<- Op.equal ty (.bool a) (.bool b)))):=rfl;have g:eqGuard .eql ty E I (.bool a) (.bool b)=pure ():=rfl;exact⟨_,by rw[e,g,gk,Sem.run_pure,mz,gk,run_equal_bool _ _ _ _ U];rfl,.bool _ _⟩
   ·refine⟨_,h,rfl,λw B aj E I q L u v C D=>?_⟩
    obtain rfl:=C.yJ;obtain rfl:=D.yJ;have e:binOp .neq ty (.bool a) (.bool b)=(do pure (.bool (!(<- Op.equal ty (.bool a) (.bool b))))):=rfl;have g:eqGuard .neq ty E I (.bool a) (.bool b)=pure ():=rfl;exact⟨_,by rw[e,g,gk,Sem.run_pure,mz,gk,run_equal_bool _ _ _ _ U];rfl,.bool _ _⟩
   ·cases h
  ·cases h
 ·rename_i a b;split at h
  ·cases T:bF (a.size+b.size)with
   |false=>rw[T]at h;cases h
   | true=>
    rw[T]at h
    refine⟨_,h,rfl,λw B aj E I q L u v C D=>?_⟩
    obtain rfl:=C.wz;obtain rfl:=D.wz;have hL':a.size+b.size<1073741824:=by simpa [bF]using T
    refine⟨_,?_,.str _ _⟩;have h9:IntKind.i64.max=9223372036854775807:=rfl;simp only[eqGuard,binOp,Op.stringOp,h9];simp;omega
  ·refine⟨_,h,rfl,λw B aj E I q L u v C D=>?_⟩
   obtain rfl:=C.wz;obtain rfl:=D.wz;exact⟨_,by simp[eqGuard,binOp,Op.stringOp],.bool _ _⟩
  ·refine⟨_,h,rfl,λw B aj E I q L u v C D=>?_⟩
   obtain rfl:=C.wz;obtain rfl:=D.wz;exact⟨_,by simp[eqGuard,binOp,Op.stringOp],.bool _ _⟩
  ·cases h
 ·cases h
def Gd{X:Type}(D:UnOp)(x:V)(k:V->ah X):ah X:=
 match D,x with
 |.not,.bool b=>k (.bool (!b))
 |.neg,.int C n=>k (.int C (C.wrap (0-n)))
 |_,_=>none
def amX{D:UnOp}{x:V}{k:V->ah X}(h:Gd D x k=some r):∃ z,k z=some r/\z.plain=true/\∀ (w:World) (B:Nat) (aj:bI) (q:aa Nat) (u:Value),RV w B aj q x u->∃ t,(Op.unary D u).run P w = .ok t w/\RV w B aj [] z t:=by
 unfold Gd at h;split at h
 ·refine⟨_,h,rfl,λw B aj q u C=>?_⟩
  obtain rfl:=C.yJ;exact⟨_,by simp[Op.unary],.bool _ _⟩
 ·refine⟨_,h,rfl,λw B aj q u C=>?_⟩
  obtain rfl:=C.gU;exact⟨_,by simp[Op.unary,Op.intArith],.int _ _ _⟩
 ·cases h
def V.Ge{x:V}(h:x.plain=true):x.aI=true:=by cases x<;>first|rfl|cases h
end
def jA(P:Program)(t:TypeId):ah Nat:=(P.info? t).map (·.size)
def Dg(P:Program)(t:TypeId):ah Bool:=
 match P.underlying t with
 |some (.struct _)|some (.array _ _)=>some true
 |some _=>some false
 |none=>none
def pF(P:Program)(t:TypeId):ah TypeId:=
 match P.underlying t with
 |some (.slice e)=>some e
 |_=>none
def Gf(P:Program)(s:TypeId)(f:Nat):ah Field:=
 match P.underlying s with
 |some (.struct C)=>C[f]?
 |_=>none
def wA{X:Type}(P:Program)(t:TypeId)(cs:aa Lf)(k:A->ah X):ah X:=
 match jA P t with
 | some n=>if cs.length=n then (match Dg P t with
  |some true=>k (.agg cs)
  | some false=>(match cs with
   |[y]=>k (.lf y)
   |_=>none)
  |none=>none)else none
 |none=>none
def leaves(key:Nat->aa Nat):Nat->aa V->aa Lf
 |_,[]=>[]
 |j,z::C=>(bif z.aI then .v z else .own (key j))::leaves key (j+1) C
def nP{X:Type}(P:Program)(σ:S)(t:TypeId)(x:A)(k:A->ah X):ah X:=
 match jA P t with
 |none=>none
 | some n=>match x with
  | .aO r j=>(match σ.m r with
   |some (.aC cs)=>wA P t ((cs.drop j).take n) k
   |_=>none)
  |.jo cs=>wA P t ((cs.take n).map .v) k
  | .ptr (j :: i :: s :: q)=>jr σ.m q λy=>(match y with
   |.sl C (o+2) _ l=>if s=aG C then (if h:i<l.length then wA P t (leaves (λD=>D::i::s::q) j (((enc C o l[i]).drop j).take n)) k else none)else none
   |_=>none)
  |_=>none
section
variable {P:Program} {w:World} {w0:Wd} {B N:Nat} {aj:bI} {ρ:Nat->Loc} {σ:S} {a:Act} {X:Type} {r:X} {o:Oper}
def aag(key:Nat -> aa Nat):∀ (j:Nat) (C:aa V) (n:Nat),(leaves key j C)[n]?=(C[n]?).map λz=>bif z.aI then .v z else .own (key (j+n))
 |_,[],n=>by simp[leaves]
 |j,z::C,0=>by simp[leaves]
 | j,z :: C,n+1=>by
  simp[leaves,List.getElem?_cons_succ,aag]
  grind
def SX{t:TypeId}{cs:aa Lf}{k:A -> ah X}(h:wA P t cs k=some r):∃ x,k x=some r /\ ∀ (w:World) (B:Nat) (aj:bI) (ρ:Nat -> Loc) (b o:Nat) (D:aa Value),eK w B aj ρ cs D.toArray -> w.rangeAt b o D ->
  ∃v,(Instr.loadAt t (.pointer (some ⟨b,o,none⟩))).run P w = .ok v w/\RA w B aj ρ x v:=by
 unfold wA at h;split at h
 ·rename_i n O;split at h
  ·rename_i hlen;split at h
   ·rename_i C
    refine⟨_,h,λw B aj ρ b o D hl I=>?_⟩
    have L:D.length=n:=by have:=hl.1;simpa [hlen]using this
    unfold Dg at C;split at C
    next Y E=>exact⟨_,run_loadAt_mid w b o t D _ I E rfl (by rw[L];exact O),_,rfl,hl⟩
    next c e E=>exact⟨_,run_loadAt_mid w b o t D _ I E rfl (by rw[L];exact O),_,rfl,hl⟩
    ·cases C
    ·cases C
   ·rename_i C;split at h
    ·rename_i y
     refine⟨_,h,λw B aj ρ b o D hl I=>?_⟩
     have L:D.length=1:=by have:=hl.1;simpa using this
     obtain⟨v,rfl⟩:=List.length_eq_one_iff.1 L;have T:w.cell? ⟨b,o,none⟩=some v:=I 0 v rfl;obtain⟨u,E,hR⟩:=hl.2 0 y rfl;have:v=u:=by simpa using E
     subst this;refine⟨v,?_,hR⟩;unfold Dg at C;split at C
     ·cases C
     ·cases C
     ·rename_i d Z ha E;have U:(isAgg t).run P w = .ok false w:=by
       unfold isAgg;rw[gk,gY E];simp_all
      simp[Instr.loadAt,Instr.sureAddr,loadVar,gk,U,load,Sem.run,T]
     ·cases C
    ·cases h
   ·cases h
  ·cases h
 ·cases h
def Mm{α:Type}(l:aa α)(j n i:Nat)(x:α)(h:((l.drop j).take n)[i]?=some x):i<n/\l[j+i]?=some x:=by grind
def aah{t:TypeId}{x:A}{k:A -> ah X}(h:nP P σ t x k=some r):∃ y,k y=some r /\ ∀ aj ρ a w,Rl w0 N aj ρ σ a w -> ∀ u,RA w w0.heap.size aj ρ x u ->
  ∃v,(Instr.loadAt t u).run P w = .ok v w/\RA w w0.heap.size aj ρ y v:=by
 unfold nP at h;split at h
 ·cases h
 ·rename_i n hn;split at h
  ·rename_i r' j;split at h
   ·rename_i cs jB;obtain⟨y,U,Y⟩:=SX h
    refine⟨y,U,λaj ρ a w hR u Z=>?_⟩
    obtain⟨b,off,cO,rfl⟩:=Z;have L:=hR.root r' _ jB;generalize T:aV.aC cs=x at L;cases L with
    |sl=>cases T
    |mp=>cases T
    |gh=>cases T
    | aC b' A0 cells e eV us jd hl hh hs hc=>
     injection T with T;subst T;rw[cO]at jd;injection jd with e1 e2;subst e1 e2
     refine Y w _ aj ρ b (off+j) (((cs.drop j).take n).mapIdx λi _=>us (j+i)) ⟨by simp,λi x C=>?_⟩ (λi v D=>?_)
     ·obtain⟨hi,l5⟩:=Mm _ _ _ _ _ C;simp_all
     ·rw[List.getElem?_mapIdx]at D;cases C:((cs.drop j).take n)[i]? with
      |none=>rw[C]at D;cases D
      | some x=>
       rw[C]at D;injection D with D;subst D;obtain⟨hi,l5⟩:=Mm _ _ _ _ _ C;rw[cell_of_row w b _ cells _ _ hh,Nat.add_assoc];simp_all
   ·cases h
  ·rename_i cs;obtain⟨y,U,Y⟩:=SX h
   refine⟨y,U,λaj ρ a w hR u Z=>?_⟩
   obtain⟨b,off,rfl,hb,hl,hc⟩:=Z;have qB:∀ (i:Nat) (x:Lf),((cs.take n).map Lf.v)[i]?=some x -> ∃ z v,x = .v z/\z.aI=true/\w.cell? ⟨b,off+i,none⟩=some v/\RV w w0.heap.size aj [] z v:=by
    intro i x C;rw[eJ]at C;cases I:(cs.take n)[i]? with
    |none=>rw[I]at C;cases C
    | some z=>
     rw[I]at C;injection C with C;rw[List.getElem?_take]at I;split at I
     ·obtain⟨rR,v,D,L⟩:=hc i z I
      grind
     ·cases I
   refine Y w _ aj ρ b off (((cs.take n).map Lf.v).mapIdx λi _=>(w.cell? ⟨b,off+i,none⟩).getD undef) ⟨by simp,λi x C=>?_⟩ (λi v D=>?_)
   ·obtain⟨z,v,rfl,rR,D,L⟩:=qB i x C;refine⟨v,?_,rR,L⟩;simp_all
   ·rw[List.getElem?_mapIdx]at D;cases C:((cs.take n).map Lf.v)[i]? with
    |none=>rw[C]at D;cases D
    |some x =>grind
  ·rename_i j i s q;obtain⟨y0,hg,O⟩:=rP _ _ h;clear h;split at O
   ·rename_i E o' qn l;split at O
    ·rename_i hs;subst hs;split at O
     ·rename_i hi;obtain⟨y,U,Y⟩:=SX O
      refine⟨y,U,λaj ρ a w hR u Z=>?_⟩
      obtain⟨ad,rfl,rO⟩:=Z;obtain⟨D,lC,kj⟩:=hg.ok hR.root;cases kj with
      |eE=>simp at hi
      |fI=>simp at hi
      |fV=>simp at hi
      |aI _ _ _ _ _ _ _ _ _ ho=>omega
      | own _ _ _ _ _ b cap cs us pG hh hs hn rN hc L=>
       rw[AS j i (aG E) lC pG]at rO;injection rO with rO;subst rO;have qB:∀ (m:Nat) (x:Lf),(leaves (λj'=>j' :: i :: aG E :: q) j (((enc E o' l[i]).drop j).take n))[m]?=some x -> cs[i*aG E+(j+m)]?=some (us i (j+m))/\dR w w0.heap.size aj ρ x (us i (j+m)):=by
        intro m x C;rw[aag]at C;cases I:(((enc E o' l[i]).drop j).take n)[m]? with
        |none=>rw[I]at C;cases C
        | some z=>
         rw[I]at C;injection C with C;have C:(bif z.aI then Lf.v z else Lf.own ((j+m)::i::aG E::q))=x:=C;obtain⟨_,Dh⟩:=Mm _ _ _ _ _ I;have h3:=hc i hi _ z Dh;have h4:=L i hi _ z Dh;refine⟨h3,?_⟩;cases Di:z.aI with
         | true=>
          rw[Di]at C;subst C;exact⟨Di,h4.key Di⟩
         | false=>
          rw[Di]at C;have C:Lf.own ((j+m)::i::aG E::q)=x:=C;subst C;refine⟨?_,?_⟩
          ·exact h4.SM Di
          ·rw[Mg,AS _ i _ lC pG];show w.cell? _=_;rw[cell_of_row w b _ cs _ _ hh];exact h3
       refine Y w _ aj ρ b (i*aG E+j) ((leaves (λj'=>j'::i::aG E::q) j (((enc E o' l[i]).drop j).take n)).mapIdx λm _=>us i (j+m)) ⟨by simp,λm x C=>?_⟩ (λm v D=>?_)
       ·simp[*]
       ·rw[List.getElem?_mapIdx]at D;cases C:(leaves (λj'=>j' :: i :: aG E :: q) j (((enc E o' l[i]).drop j).take n))[m]? with
        |none=>rw[C]at D;cases D
        | some x=>
         rw[C]at D;injection D with D;subst D;rw[cell_of_row w b _ cs _ _ hh,Nat.add_assoc];simp_all
     ·cases O
    ·cases O
   ·cases O
  ·cases h
end
def A.yK:A->ah (aa Lf)
 |.lf x=>some [x]
 |.agg xs=>some xs
 |_=>none
def Lf.live:Lf->Bool
 |.dead=>false
 |_=>true
def Lf.pl:Lf->ah V
 |.v x=>bif x.plain then some x else none
 |_=>none
def qC:aa Lf->ah (aa V)
 |[]=>some []
 | x :: xs=>match x.pl,qC xs with
  |some y,some ys=>some (y::ys)
  |_,_=>none
def wB{X:Type}(m:Nat->ah aV):aa Nat->V->((Nat->ah aV)->ah X)->ah X
 | [r],y,k=>match m r with
  |some (.sl _)=>k (bW m r (some (.sl y)))
  |_=>none
 | j :: i :: s :: q,y,k=>jr m q λz=>match z with
  | .sl t (o+2) C l=>if s=aG t then (if h:i<l.length then (if j<aG t then (match dec t o (splice (enc t o l[i]) j [y])with
   |some e=>wB m q (.sl t (o+2) C (l.set i e)) k
   |none=>none)else none)else none)else none
  |_=>none
 |_,_,_=>none
def pH{X:Type}(P:Program)(σ:S)(t:TypeId)(x y:A)(k:S->ah X):ah X:=
 match jA P t,y.yK with
 | some n,some xs=>if xs.length=n then (match x with
  | .aO r j=>(match σ.m r with
   |some (.aC cs)=>if j+n<=cs.length then (bif xs.all Lf.live then k ⟨σ.t,bW σ.m r (some (.aC (splice cs j xs)))⟩else none)else none
   |_=>none)
  | .ptr (j :: i :: s :: q)=>(match qC xs with
   |none=>none
   | some D=>jr σ.m q λy=>(match y with
    | .sl C (o+2) E l=>if s=aG C then (if h:i<l.length then (if j+D.length<=aG C then (bif (((enc C o l[i]).drop j).take D.length).all V.plain then (match dec C o (splice (enc C o l[i]) j D)with
     |some e=>wB σ.m q (.sl C (o+2) E (l.set i e)) λm=>k ⟨σ.t,m⟩
     |none=>none)else none)else none)else none)else none
    |_=>none))
  |_=>none)else none
 |_,_=>none
section
variable {P:Program} {w:World} {w0:Wd} {B N:Nat} {aj:bI} {ρ:Nat->Loc} {σ:S} {a:Act} {X:Type} {r:X} {o:Oper}
def aai{m:Nat -> ah aV}:∀ (q:aa Nat) (y:V) (k:(Nat -> ah aV) -> ah X),wB m q y k=some r -> ∃ m',yH m q y m'/\k m'=some r
 |[],_,_,h=>by simp[wB]at h
 | [x],y,k,h=>by
  simp only[wB]at h;split at h
  next D E=>exact⟨_,.root x D y E,h⟩
  ·cases h
 | j :: i :: s :: q,y,k,h=>by
  simp only[wB]at h;obtain⟨z,I,C⟩:=rP q _ h;clear h;split at C
  ·split at C
   ·rename_i L;subst L;split at C
    ·rename_i hi;split at C
     ·rename_i O;split at C
      next e T=>obtain⟨m',U,Y⟩:=aai q _ k C;exact⟨m',.elem j i q _ _ _ _ y e m' I hi O T U,Y⟩
      ·cases C
     ·cases C
    ·cases C
   ·cases C
  ·cases C
def Mn:∀ (xs:aa Lf) (C:aa V),qC xs=some C -> xs=C.map .v /\ ∀ v∈C,v.plain=true
 | [],C,h=>by
  simp[qC]at h;subst h;exact⟨rfl,by simp⟩
 | x :: xs,C,h=>by
  unfold qC at h;split at h
  ·rename_i y ys D E;injection h with h;subst h;obtain⟨I,L⟩:=Mn xs ys E;have:x = .v y/\y.plain=true:=by
    cases x with
    | v z=>
     unfold Lf.pl at D
     grind
    |own q=>cases D
    |dead=>cases D
   simp_all
  ·cases h
def amY{u:Value}(h:u.oneCell'=true):u.cells = #[u]:=by cases u<;>first|rfl|cases h
def dR.one{x:Lf}{u:Value}(h:dR w B aj ρ x u)(C:x.live=true):u.oneCell'=true:=by
 cases x with
 |v z=>exact h.2.one
 | own k=>
  have:=h.1;cases u<;>first|rfl|cases this
 |dead=>cases C
def Gg{y:A}{xs:aa Lf}(h:y.yK=some xs)(D:xs.all Lf.live=true){u:Value}(C:RA w B aj ρ y u):eK w B aj ρ xs u.cells/\u.cells.all (·.oneCell')=true:=by
 have key:∀ us:Array Value,eK w B aj ρ xs us -> us.all (·.oneCell')=true:=by
  intro us E;rw[Array.all_eq_true];intro i hi;have L:=bS (by rw[<- E.1];exact hi);obtain⟨v,I,O⟩:=E.2 i _ L;have:us[i]=v:=by rw[Array.getElem?_eq_getElem hi]at I;injection I
  rw[this];exact O.one (cv.1 D _ (cS _))
 cases y with
 | lf x=>
  injection h with h;subst h;have C:dR w B aj ρ x u:=C;have T:=C.one (by simpa using D);have:eK w B aj ρ [x] u.cells:=by
   rw[amY T]
   refine⟨rfl,λj y U=>?_⟩
   grind
  simp_all
 | agg Y=>
  injection h with h;subst h;obtain⟨us,rfl,h⟩:=C;exact⟨h,key _ h⟩
 |_=>cases h
def SY(w:World)(b o:Nat)(ty:TypeId)(v:Value)(D:w.there b o v.cells.size)(hi:(P.info? ty).map (·.size)=some v.cells.size)(I:v.cells.all (·.oneCell')=true):
  (Instr.storeAt ty (.pointer (some ⟨b,o,none⟩)) v).run P w = .ok () (w.setCells b o v.cells.toList):=by
 have:=run_storeCells_cells (P:=P) b o v.cells.toList 0 w (λj C=>by simpa using (D j (by simpa using C)).1) (λj C=>by simpa using (D j (by simpa using C)).2)
  (λv L=>(Array.all_eq_true_iff_forall_mem.1 I) v (by simpa using L))
 cases E:P.info? ty with
 |none=>simp_all
 | some i=>
  have O:v.cells.size=i.size:=by simp[E]at hi;omega
  simp[Instr.storeAt,Instr.sureAddr,storeVar,sizeOf,typeInfo,E,O,this]
def aaj{t:TypeId}{x y:A}{k:S -> ah X}(h:pH P σ t x y k=some r):∃ cY,k cY=some r /\ ∀ aj ρ a w,Rl w0 N aj ρ σ a w -> ∀ u v,RA w w0.heap.size aj ρ x u -> RA w w0.heap.size aj ρ y v ->
  ∃w',(Instr.storeAt t u v).run P w = .ok () w'/\Rl w0 N aj ρ cY a w':=by
 unfold pH at h;split at h
 ·rename_i n xs hn oI;split at h
  ·rename_i hlen;split at h
   ·rename_i r' j;split at h
    ·rename_i cs jB;split at h
     ·rename_i T;cases I:xs.all Lf.live with
      |false=>grind
      | true=>
       rw[I]at h
       refine⟨_,h,λaj ρ a w hR u v U Y=>?_⟩
       obtain⟨b,off,cO,rfl⟩:=U;obtain⟨hl,Z⟩:=Gg oI I Y;obtain⟨b',A0,jd,Gh,dX⟩:=hR.Ga jB hl (by rw[hlen];exact T);rw[cO]at jd;injection jd with e1 e2;subst e1 e2;exact⟨_,SY w b (off+j) t v Gh (by rw[hl.1,hlen];exact hn) Z,dX⟩
     ·cases h
    ·cases h
   ·rename_i j i s q;split at h
    ·cases h
    ·rename_i E l6;obtain⟨y0,hg,C⟩:=rP _ _ h;clear h;split at C
     ·rename_i t' o' qn l;split at C
      ·rename_i hs;subst hs;split at C
       ·rename_i hi;split at C
        ·rename_i T;cases hold:(((enc t' o' l[i]).drop j).take E.length).all V.plain with
         |false=>grind
         | true=>
          rw[hold,aq]at C;split at C
          ·rename_i e he;obtain⟨m',rS,h3⟩:=aai q _ _ C
           refine⟨_,h3,λaj ρ a w hR u v U Y=>?_⟩
           obtain⟨ad,rfl,rO⟩:=U;obtain⟨L,Gi⟩:=Mn xs E l6;have I:xs.all Lf.live=true:=by rw[L];simp[Lf.live]
           obtain⟨hl,Z⟩:=Gg oI I Y;have A1:E.length=n:=by rw[<- hlen,L,eM]
           have q1:∀ (D:Nat) x,D<E.length -> (enc t' o' l[i])[j+D]?=some x -> x.plain=true:=by
            intro D x yI hx;refine cv.1 hold x (gX (i:=D) ?_);simp_all
           have q2:∀ (D:Nat) x,E[D]?=some x -> ∃ O,v.cells[D]?=some O/\RV w w0.heap.size aj [] x O:=by
            intro D x hx;obtain⟨O,uI,fJ⟩:=hl.2 D (.v x) (by rw[L,eJ,hx];rfl);exact⟨O,uI,fJ.2⟩
           obtain⟨b,hb,Gh,dX⟩:=hR.amT (xs:=E) (us:=v.cells) hg hi T he q1 Gi (by rw[hl.1,L,eM]) q2 rS;rw[rO]at hb;injection hb with hb;subst hb;exact⟨_,SY w b _ t v Gh (by rw[hl.1,hlen];exact hn) Z,dX⟩
          ·cases C
        ·cases C
       ·cases C
      ·cases C
     ·cases C
   ·cases h
  ·cases h
 ·cases h
end
def Dj{X:Type}(P:Program)(s:TypeId)(x:A)(f:Nat)(k:A->ah X):ah X:=
 match Gf P s f with
 |none=>none
 | some C=>match jA P C.type with
  | some (_+1)=>(match x with
   |.aO r j=>k (.aO r (j+C.offset))
   |.jo cs=>k (.jo (cs.drop C.offset))
   |.ptr (j::i::s::q)=>k (.ptr ((j+C.offset)::i::s::q))
   |_=>none)
  |_=>none
def yL{X:Type}(P:Program)(σ:S)(t:TypeId)(x i:A)(k:A->ah X):ah X:=
 match pF P t with
 |none=>none
 | some e=>match jA P e,i with
  | some n,.lf (.v (.int _ iv))=>(match x with
   |.lf (.v (.sl C g _ l))=>if n=aG C then (bif Nat.blt g 2 then (if h:0<=iv/\iv.toNat<l.length then k (.jo (enc C g (l[iv.toNat]'h.2)))else none)else none)else none
   | .lf (.own q)=>jr σ.m q λy=>(match y with
    |.sl C g _ l=>if n=aG C then (if h:0<=iv/\iv.toNat<l.length then (bif Nat.blt g 2 then k (.jo (enc C g (l[iv.toNat]'h.2)))else k (.ptr (0::iv.toNat::aG C::q)))else none)else none
    |_=>none)
   |_=>none)
  |_,_=>none
def A3{X:Type}(P:Program)(σ:S)(t:TypeId)(x:A)(k:A->ah X):ah X:=
 match x with
 | .lf y=>oH σ y λz=>(match z with
  |.sl _ _ _ l=>(match P.underlying t with|some (.slice _)=>k (.lf (.v (.int .i64 (l.length:Int))))|_=>none)
  |.nil=>(match P.underlying t with|some (.slice _)=>k (.lf (.v (.int .i64 0)))|_=>none)
  |.str s=>(match P.underlying t with|some .string=>k (.lf (.v (.int .i64 (s.size:Int))))|_=>none)
  |_=>none)
 |.view _ _ i j=>(match P.underlying t with|some (.slice _)=>k (.lf (.v (.int .i64 ((j-i:Nat):Int))))|_=>none)
 |_=>none
def yM:Bool×aa Lf->ah A
 |(true,cs)=>some (.agg cs)
 |(false,[y])=>some (.lf y)
 |_=>none
def A4{X:Type}(x:A)(i:Nat)(k:A->ah X):ah X:=
 match x with
 | .eX xs=>match (xs[i]?).bind yM with
  |some y=>k y
  |none=>none
 |_=>none
section
variable {P:Program} {w:World} {w0:Wd} {B N:Nat} {aj:bI} {ρ:Nat->Loc} {σ:S} {a:Act} {X:Type} {r:X} {o:Oper} {w':World} {aD:bI} {ρ':Nat->Loc} {d:Nat}
def amZ(n:Nat){j i s:Nat}{q:aa Nat}{ad:Addr}(h:addrAt w aj ρ (j :: i :: s :: q)=some ad):addrAt w aj ρ ((j+n) :: i :: s :: q)=some ⟨ad.block,ad.off+n,none⟩:=by
 match q,h with
 | [r],h=>
  simp[addrAt]at h ⊢;split at h
  ·grind
  ·cases h
 | x :: y :: q,h=>
  simp[addrAt]at h ⊢;split at h
  ·grind
  ·cases h
def SZ(w:World)(s:TypeId)(f:Nat)(C:Field)(n b off:Nat)(D:Gf P s f=some C)(E:jA P C.type=some (n+1)):
  (Instr.fieldAt s (.pointer (some ⟨b,off,none⟩)) f).run P w = .ok (.pointer (some ⟨b,off+C.offset,none⟩)) w:=by
 unfold Gf at D;split at D
 ·rename_i O L;unfold jA at E;cases I:P.info? C.type with
  |none=>simp_all
  | some i=>
   have hi:i.size=n+1:=by simpa [I]using E
   simp[Instr.fieldAt,gY L,D,Instr.sureAddr,fieldPlace,sizeOf,typeInfo,I,hi,Addr.add_mid]
 ·cases D
def am0{s:TypeId}{x:A}{f:Nat}{k:A -> ah X}(h:Dj P s x f k=some r):∃ y,k y=some r /\ ∀ (w:World) (B:Nat) (aj:bI) (ρ:Nat -> Loc) (u:Value),RA w B aj ρ x u ->
  ∃v,(Instr.fieldAt s u f).run P w = .ok v w/\RA w B aj ρ y v:=by
 unfold Dj at h;split at h
 ·cases h
 ·rename_i D E;split at h
  ·rename_i n I;split at h
   ·rename_i Y j
    refine⟨_,h,λw B aj ρ u C=>?_⟩
    obtain⟨b,off,T,rfl⟩:=C;exact⟨_,SZ w s f D n b _ E I,b,off,T,by rw[Nat.add_assoc]⟩
   ·rename_i cs
    refine⟨_,h,λw B aj ρ u C=>?_⟩
    obtain⟨b,off,rfl,hb,hl,Z⟩:=C
    refine⟨_,SZ w s f D n b _ E I,b,_,rfl,hb,hl,λj x hx=>?_⟩
    grind
   ·rename_i j i s' q
    refine⟨_,h,λw B aj ρ u C=>?_⟩
    obtain⟨ad,rfl,L⟩:=C;have U:=amZ D.offset L;obtain⟨_,_,_,_,_,_,_,O,_⟩:=AT _ _ L;obtain⟨b,off,sp⟩:=ad;simp only at O;subst O;exact⟨_,SZ w s f D n b off E I,_,rfl,U⟩
   ·cases h
  ·cases h
def S0(w:World)(t e:TypeId)(n b off len cap:Nat)(I:IntKind)(iv:Int)(C:pF P t=some e)(D:jA P e=some n)(L:0 <= iv)(Y:iv.toNat<len):
  (Instr.indexAt t (.slice (some ⟨b,off,none⟩) len cap) (.int I iv)).run P w = .ok (.pointer (some ⟨b,off+iv.toNat*n,none⟩)) w:=by
 unfold pF at C;split at C
 ·rename_i O T;injection C with C;subst C;unfold jA at D;cases E:P.info? O with
  |none=>simp_all
  | some i=>
   have hi:i.size=n:=by simpa [E]using D
   have U:iv<len:=by omega
   simp[Instr.indexAt,gY T,asIntOf,L,U,sizeOf,typeInfo,E,hi,Addr.add_mid]
 ·cases C
def am1{t:TypeId}{x i:A}{k:A -> ah X}(h:yL P σ t x i k=some r):∃ y,k y=some r /\ ∀ aj ρ a w,Rl w0 N aj ρ σ a w -> ∀ u v,RA w w0.heap.size aj ρ x u -> RA w w0.heap.size aj ρ i v ->
  ∃p,(Instr.indexAt t u v).run P w = .ok p w/\RA w w0.heap.size aj ρ y p:=by
 unfold yL at h;split at h
 ·cases h
 ·rename_i e Y;split at h
  ·rename_i n Z iv hn;split at h
   ·rename_i t' g qn l;split at h
    ·rename_i A5;subst A5;cases D:Nat.blt g 2 with
     |false=>grind
     | true=>
      rw[D,aq]at h;split at h
      ·rename_i hb
       refine⟨_,h,λaj ρ a w hR u v E I=>?_⟩
       obtain rfl:=I.2.gU;have yN:g<2:=by have:=cK D;omega
       cases E.2 with
       |eE=>simp at hb
       |fI=>simp at hb
       |fV=>simp at hb
       |own=>grind
       | aI _ _ _ _ _ b off cap us ho hl Mo h1 lX hc U=>
        refine⟨_,S0 w t e _ b off _ cap Z iv Y hn hb.1 hb.2,b,_,rfl,Mo,hl,λj x L=>⟨pE t' g _ yN j x L,us _ j,?_,U _ hb.2 j x L⟩⟩
        grind
      ·cases h
    ·cases h
   ·rename_i q;obtain⟨y0,D,C⟩:=rP _ _ h;clear h;split at C
    ·rename_i t' O qn l;split at C
     ·rename_i A5;subst A5;split at C
      ·rename_i hb;cases T:Nat.blt O 2 with
       | true=>
        rw[T,aq]at C;have ho2:O<2:=cK T
        refine⟨_,C,λaj ρ a w hR u v E I=>?_⟩
        obtain rfl:=I.2.gU;obtain⟨wq,lC,kj⟩:=D.ok hR.root;have:wq=u:=by
         have h3:=E.2;simp_all
        subst this;cases kj with
        |eE=>simp at hb
        |fI=>simp at hb
        |fV=>simp at hb
        |own=>grind
        | aI _ _ _ _ _ b off cap us ho hl Mo h1 lX hc U=>
         refine⟨_,S0 w t e _ b off _ cap Z iv Y hn hb.1 hb.2,b,_,rfl,Mo,hl,λj x L=>⟨pE t' O _ ho2 j x L,us _ j,?_,U _ hb.2 j x L⟩⟩
         grind
       | false=>
        rw[T,au]at C;have ho2:¬ O<2:=λdW=>by have h9:Nat.blt O 2=true:=ja dW;rw[h9]at T;cases T
        refine⟨_,C,λaj ρ a w hR u v E I=>?_⟩
        obtain rfl:=I.2.gU;obtain⟨wq,lC,kj⟩:=D.ok hR.root;have:wq=u:=by
         have h3:=E.2;simp_all
        subst this;cases kj with
        |eE=>simp at hb
        |fI=>simp at hb
        |fV=>simp at hb
        |aI _ _ _ _ _ _ _ _ _ ho=>omega
        | own _ _ _ _ _ b cap cs us pG hh hs yI rN hc U=>
         refine⟨_,S0 w t e _ b 0 _ cap Z iv Y hn hb.1 hb.2,_,rfl,?_⟩;rw[AS 0 _ _ lC pG];simp
      ·cases C
     ·cases C
    ·cases C
   ·cases h
  ·cases h
def am2{t ty:TypeId}{x:A}{k:A->ah X}(h:A3 P σ t x k=some r):∃ y,k y=some r/\∀ aj ρ a w,Rl w0 N aj ρ σ a w->∀ u,RA w w0.heap.size aj ρ x u->
  ∃v,(Builtin.len_ #[t] ty #[u]).run P w = .ok v w/\RA w w0.heap.size aj ρ y v:=by
 unfold A3 at h;split at h
 ·rename_i y;have key:∃ z,(∀ aj ρ a w,Rl w0 N aj ρ σ a w->∀ u,dR w w0.heap.size aj ρ y u->∃ q,RV w w0.heap.size aj q z u)/\(match z with
    |.sl _ _ _ l=>(match P.underlying t with|some (.slice _)=>k (.lf (.v (.int .i64 (l.length:Int))))|_=>none)
    |.nil=>(match P.underlying t with|some (.slice _)=>k (.lf (.v (.int .i64 0)))|_=>none)
    |.str s=>(match P.underlying t with|some .string=>k (.lf (.v (.int .i64 (s.size:Int))))|_=>none)
    |_=>none)=some r:=by
   cases y with
   |v z=>exact⟨z,λaj ρ a w _ u D=>⟨[],D.2⟩,h⟩
   |dead=>cases h
   | own q=>
    obtain⟨z,L,h⟩:=rP q _ h
    refine⟨z,λaj ρ a w hR u D=>?_,h⟩
    obtain⟨v,T,I⟩:=L.ok hR.root;have O:=D.2;rw[T]at O;injection O with O;subst O;exact⟨q,I⟩
  obtain⟨z,L,C⟩:=key;clear h;split at C
  ·rename_i U g Y l;split at C
   ·rename_i e E
    refine⟨_,C,λaj ρ a w hR u D=>?_⟩
    obtain⟨q,I⟩:=L aj ρ a w hR u D;cases I with
    |eE=>exact⟨_,by simp[Builtin.len_,gY E,goInt],rfl,.int _ _ _⟩
    |fI=>exact⟨_,by simp[Builtin.len_,gY E,goInt],rfl,.int _ _ _⟩
    |fV=>exact⟨_,by simp[Builtin.len_,gY E,goInt],rfl,.int _ _ _⟩
    |aI=>exact⟨_,by simp[Builtin.len_,gY E,goInt],rfl,.int _ _ _⟩
    |own=>exact⟨_,by simp[Builtin.len_,gY E,goInt],rfl,.int _ _ _⟩
   ·cases C
  ·split at C
   ·rename_i e E
    refine⟨_,C,λaj ρ a w hR u D=>?_⟩
    obtain⟨q,I⟩:=L aj ρ a w hR u D;cases I;exact⟨_,by simp[Builtin.len_,gY E,goInt],rfl,.int _ _ _⟩
   ·cases C
  ·split at C
   ·rename_i E
    refine⟨_,C,λaj ρ a w hR u D=>?_⟩
    obtain⟨q,I⟩:=L aj ρ a w hR u D;obtain rfl:=I.wz;exact⟨_,by simp[Builtin.len_,gY E,goInt],rfl,.int _ _ _⟩
   ·cases C
  ·cases C
 ·split at h
  ·rename_i e E
   refine⟨_,h,λaj ρ a w hR u D=>?_⟩
   obtain⟨A,n,c,T,Z,C,rfl⟩:=D;exact⟨_,by cases A<;>simp[sliced,Builtin.len_,gY E,goInt],rfl,.int _ _ _⟩
  ·cases h
 ·cases h
def S1{p:Bool×aa Lf}{y:A}(h:yM p=some y){u:Value}(C:RP w B aj ρ p u):RA w B aj ρ y u:=by
 unfold yM at h;split at h
 ·injection h with h;subst h;exact C
 ·rename_i z;injection h with h;subst h;obtain⟨D,E,I⟩:=C.2 0 z rfl;have:u=D:=by simpa using E
  subst this;exact I
 ·cases h
def am3{x:A}{i:Nat}{k:A -> ah X}(h:A4 x i k=some r):∃ y,k y=some r /\ ∀ (w:World) (B:Nat) (aj:bI) (ρ:Nat -> Loc) (u:Value),RA w B aj ρ x u ->
  ∃v,(Instr.extract u i).run P w = .ok v w/\RA w B aj ρ y v:=by
 unfold A4 at h;split at h
 ·rename_i xs;split at h
  ·rename_i y C
   refine⟨y,h,λw B aj ρ u E=>?_⟩
   obtain⟨us,rfl,T,I⟩:=E;cases D:xs[i]? with
   |none=>simp_all
   | some p=>
    rw[D]at C;obtain⟨v,L,O⟩:=I i p D;exact⟨v,by simp[Instr.extract,L],S1 C O⟩
  ·cases h
 ·cases h
def aak{k:aa Nat}(h:cR d k=true):[d] <:+ k:=by
 have h:k.getLast?=some d:=by simpa [cR]using h
 obtain⟨y,C⟩:=List.getLast?_eq_some_iff.1 h;simp_all
def Mp{j i s:Nat}{q:aa Nat}(C:q≠[]):cR d (j :: i :: s :: q)=cR d q:=by
 cases q with
 |nil=>simp_all
 |cons x q=>simp[cR]
structure Dk (w w':World) (aj aD:bI) (d:Nat):Prop where
 size:w.heap.size<=w'.heap.size
 block:∀b,b<w.heap.size->aj b≠some [d]->w'.heap[b]?=w.heap[b]?
 S2:∀b,b<w.heap.size->aD b=aj b
 ne:∀b,aj b≠some []
def Dk.tr(C:Dk w w' aj aD d)(D:∀ b k,aj b=some k->b<w.heap.size)(E:∀ r,r≠d->ρ' r=ρ r):Tr w w' aj aD ρ ρ' (cR d) (λr=>Nat.beq r d):=by
 refine⟨C.size,λb hb hl=>⟨C.block b hb (by rw[hl];simp),(C.S2 b hb).trans hl⟩,λb k hl I=>⟨C.block b (D b k hl) ?_,(C.S2 b (D b k hl)).trans hl⟩,λr L=>E r (by rintro rfl;simp at L),λj i s x q=>Mp (by simp),λb hb=>absurd hb (C.ne b)⟩
 rw[hl];intro e;injection e with e;subst e;simp[cR]at I
def RA.S3{x:A}{u:Value}(h:RA w B aj ρ x u)(C:Dk w w' aj aD d)(D:∀b k,aj b=some k->b<w.heap.size)(E:∀r,r≠d->ρ' r=ρ r):RA w' B aD ρ' (x.drop d) u:=h.tr (C.tr D E) (uD (λ_ h=>h) λ_=>oE)
def ei.S3{r:Nat}(C:r≠d){x:aV}(h:ei w B aj ρ r x)(D:Dk w w' aj aD d)(E:∀b k,aj b=some k->b<w.heap.size)(I:∀r,r≠d->ρ' r=ρ r):ei w' B aD ρ' r (x.drop d):=h.tr (D.tr E I) (uD (λ_ h=>h) λ_=>oE) (by simpa [cR]using C) (oE C)
def Rl.yO{x:aV}(h:Rl w0 N aj ρ σ a w)(T:w0.F d=none)(hb:jq w0 w w')(E:Dk w w' aj aD d)(U:∀ b k,w.heap.size <= b -> aD b=some k -> b<w'.heap.size/\k≠[])(I:∀ r,r≠d -> ρ' r=ρ r)(hx:ei w' w0.heap.size aD ρ' d x):
  Rl w0 N aD ρ' ((σ.drop d).root d x) a w':=by
 have O:=λb k hb=>(h.cV b k hb).2.1
 refine⟨h.below.trans hb,λb k L=>?_,λr y C=>?_,λk=>(h.tmp k).S3 E O I,h.size,h.defers,λr Y D=>(I r (by rintro rfl;rw[T]at D;cases D)).trans (h.fix r Y D),h.dm⟩
 ·rcases Nat.lt_or_ge b w.heap.size with Z | oF
  ·rw[E.S2 b Z]at L;have:=h.cV b k L;exact⟨this.1,Nat.lt_of_lt_of_le this.2.1 E.size,this.2.2⟩
  ·have:=U b k oF L;exact⟨.inl (Nat.le_trans h.below.size oF),this.1,this.2⟩
 ·by_cases D:r=d
  ·subst D;have C:(bW (σ.drop r).m r _) r=some y:=C;rw[bZ]at C;simp_all
  ·have C:(bW (σ.drop d).m d (some x)) r=some y:=C;rw[cH _ _ _ D]at C;have hb:Nat.beq r d=false:=by
    cases hb:Nat.beq r d with
    |false=>rfl
    |true=>simp_all
   simp only[S.drop,hb,au]at C;cases hm:σ.m r with
   |none=>simp_all
   | some z=>
    rw[hm]at C;injection C with C;subst C;exact(h.root r z hm).S3 D E O I
end
def hJ(q:Nat)(nk k:aa Nat):aa Nat:=bif cR q k then k.dropLast++nk else k
def bI.hJ(aj:bI)(q:Nat)(nk:aa Nat):bI:=λb=>(aj b).map (Proofs.YtglnbhiaknohlaaGreat.hJ q nk)
section
variable {P:Program} {w w':World} {w0:Wd} {B N:Nat} {aj aD:bI} {ρ ρ':Nat->Loc} {σ:S} {a:Act} {X:Type} {d q:Nat} {nk:aa Nat}
def aal:hJ q nk [q]=nk:=by simp[hJ,cR]
def am4{k:aa Nat}(h:cR q k=false):hJ q nk k=k:=by simp[hJ,h]
def am5{j i s:Nat}{k:aa Nat}(C:k≠[]):hJ q nk (j :: i :: s :: k)=j :: i :: s :: hJ q nk k:=by
 unfold hJ;rw[Mp C];cases cR q k with
 |false=>rfl
 | true=>
  cases k with
  |nil=>simp_all
  |cons x k=>simp
def aam{k:aa Nat}(C:nk≠[])(D:k≠[]):hJ q nk k≠[]:=by
 unfold hJ;cases cR q k with
 |false=>simp_all
 |true=>simp[C]
def bI.S4{b:Nat}(h:aj b=none):aj.hJ q nk b=none:=by simp[bI.hJ,h]
def bI.aan{b:Nat}{k:aa Nat}(h:aj b=some k):aj.hJ q nk b=some (Proofs.YtglnbhiaknohlaaGreat.hJ q nk k):=by simp[bI.hJ,h]
def bI.aao{b:Nat}{k:aa Nat}(h:aj b=some k)(C:cR q k=false):aj.hJ q nk b=some k:=by rw[bI.aan h,am4 C]
def RV.hJ{k:aa Nat}{x:V}{v:Value}(h:RV w B aj k x v)(D:∀ b,aj b≠some []):RV w B (aj.hJ q nk) (Proofs.YtglnbhiaknohlaaGreat.hJ q nk k) x v:=
 h.map (Q:=λk C=>C=Proofs.YtglnbhiaknohlaaGreat.hJ q nk k) (dJ _) (λb _ h=>⟨rfl,bI.S4 h⟩) (λb k C _ hl e=>by
  subst e;exact⟨rfl,bI.aan hl,λj i s=>(am5 λe=>D b (e ▸ hl)).symm⟩) (.inr rfl)
structure Rel (q:Nat) (aj aD:bI):Prop where
 ne:∀b,aj b≠some []
 none:∀b,aj b=none->aD b=Option.none
 lz:∀b k,aj b=some k->cR q k=false->aD b=some k
def Gj(C:∀b,aj b≠some []):Rel q aj (aj.hJ q nk):=⟨C,λ_ h=>bI.S4 h,λ_ _ h D=>bI.aao h D⟩
def Rel.tr(C:Rel q aj aD):Tr w w aj aD ρ ρ (cR q) (λ_=>false):=
 ⟨dJ _,λb _ hl=>⟨rfl,C.none b hl⟩,λb k hl D=>⟨rfl,C.lz b k hl D⟩,λ_ _=>rfl,λj i s x q=>Mp (by simp),λb hb=>absurd hb (C.ne b)⟩
def RV.rel(C:Rel q aj aD){k:aa Nat}{x:V}{v:Value}(h:RV w B aj k x v)(D:cR q k=false\/x.aI=true):RV w B aD k x v:=h.tr (ρ:=λ_=>.dH undef) C.tr D.symm
def am6(C:Rel q aj aD)(k:aa Nat)(u:Value)(D:cR q k=false)(h:cU w aj ρ k=some u):cU w aD ρ k=some u:=SQ C.tr k u (.inr D) (SR k) h
def eK.rel(C:Rel q aj aD){cs:aa Lf}{us:Array Value}(h:eK w B aj ρ cs us):eK w B aD ρ (cs.map (Lf.drop q)) us:=h.tr C.tr (uD (λ_ h=>h) λ_ _=>rfl)
def RA.rel(C:Rel q aj aD){x:A}{u:Value}(h:RA w B aj ρ x u):RA w B aD ρ (x.drop q) u:=h.tr C.tr (uD (λ_ h=>h) λ_ _=>rfl)
def ei.rel(C:Rel q aj aD){r:Nat}(D:r≠q){x:aV}(h:ei w B aj ρ r x):ei w B aD ρ r (x.drop q):=h.tr C.tr (uD (λ_ h=>h) λ_ _=>rfl) (by simpa [cR]using D) rfl
def Rl.wC(h:Rl w0 N aj ρ σ a w):∀b,aj b≠some []:=λb hb=>(h.cV b [] hb).2.2 rfl
def Rl.rel(h:Rl w0 N aj ρ σ a w)(E:Rel q aj aD)(L:∀ b k,aD b=some k -> (∃ D,aj b=some D)/\k≠[]):Rl w0 N aD ρ (σ.drop q) a w:=by
 refine⟨h.below,λb k O=>?_,λr x C=>?_,λk=>(h.tmp k).rel E,h.size,h.defers,h.fix,h.dm⟩
 ·obtain⟨⟨D,hl⟩,U⟩:=L b k O;have:=h.cV b D hl;simp_all
 ·have C:(bif Nat.beq r q then none else (σ.m r).map _)=some x:=C;cases hb:Nat.beq r q with
  |true=>simp_all
  | false=>
   rw[hb]at C;have T:r≠q:=by rintro rfl;simp at hb
   cases I:σ.m r with
   |none=>simp_all
   | some y=>
    rw[I]at C;injection C with C;subst C;exact(h.root r y I).rel E T
def Rl.am7{z:V}(h:Rl w0 N aj ρ σ a w)(L:σ.m q=some (.sl z))(O:nk≠[]):∃ u,ρ q = .dH u/\Rl w0 N (aj.hJ q nk) ρ (σ.drop q) a w/\RV w w0.heap.size (aj.hJ q nk) nk z u:=by
 have E:=h.wC;have I:=h.root q _ L;generalize C:aV.sl z=x at I;cases I with
 |aC=>cases C
 |mp=>cases C
 |gh=>cases C
 | sl u y T U=>
  injection C with C;subst C
  refine⟨u,T,h.rel (Gj E) λb k D=>?_,?_⟩
  ·unfold bI.hJ at D;cases hl:aj b with
   |none=>simp_all
   | some Y=>
    rw[hl]at D;injection D with D;subst D;exact⟨⟨Y,rfl⟩,aam O (λe=>E b (by rw[hl,e]))⟩
  ·have:=U.hJ (q:=q) (nk:=nk) E
   rwa [aal]at this
def iu(r:Nat)(key:Nat->aa Nat):Nat->Nat->aa Lf->S->ah (aa V×S)
 |_,_,[],σ=>some ([],σ)
 |f+1,j,.v x::xs,σ=>(iu r key f (j+1) xs σ).map λp=>(x::p.1,p.2)
 | f+1,j,.own [q] :: xs,σ=>match σ.m q with
  |some (.sl z)=>bif Nat.beq q r then none else (iu r key f (j+1) (xs.map (Lf.drop q)) (σ.drop q)).map λp=>(z::p.1,p.2)
  |_=>none
 |_,_,_,_=>none
def Mq{r:Nat}{key:Nat->aa Nat}(U:∀ j,cR r (key j)=true):∀ (f j:Nat) (xs:aa Lf) (σ E:S) (I:aa V),iu r key f j xs σ=some (I,E)->∀ aj ρ a w,Rl w0 N aj ρ σ a w->∀ us:aa Value,eK w w0.heap.size aj ρ xs us.toArray->
  ∃ aD,Rl w0 N aD ρ E a w/\I.length=xs.length/\(∀ (n:Nat) x,I[n]?=some x->∃ u,us[n]?=some u/\RV w w0.heap.size aD (key (j+n)) x u)/\(∀ k x v,cR r k=true->RV w w0.heap.size aj k x v->RV w w0.heap.size aD k x v)/\
   (∀x,σ.m r=some (.sl x)->E.m r=some (.sl x))/\(∀k u,cR r k=true->cU w aj ρ k=some u->cU w aD ρ k=some u)/\(∀b,aj b=some [r]->aD b=some [r])/\(∀b,aj b=none->aD b=none)
 | 0,j,[],σ,E,I,h,aj,ρ,a,w,hR,us,L=>by
  simp only[iu,iQ,Prod.mk.injEq]at h;obtain⟨rfl,rfl⟩:=h;exact⟨aj,hR,rfl,by simp,λ_ _ _ _ h=>h,λ_ h=>h,λ_ _ _ h=>h,λ_ h=>h,λ_ h=>h⟩
 | f+1,j,[],σ,E,I,h,aj,ρ,a,w,hR,us,L=>by
  simp only[iu,iQ,Prod.mk.injEq]at h;obtain⟨rfl,rfl⟩:=h;exact⟨aj,hR,rfl,by simp,λ_ _ _ _ h=>h,λ_ h=>h,λ_ _ _ h=>h,λ_ h=>h,λ_ h=>h⟩
 |0,j,x::xs,σ,E,I,h,aj,ρ,a,w,hR,us,L=>by simp[iu]at h
 | f+1,j,x :: xs,σ,E,I,h,aj,ρ,a,w,hR,us,L=>by
  obtain⟨T,us,rfl⟩:∃ T Mr,us=T :: Mr:=by
   cases us with
   |nil=>have:=L.1;simp at this
   |cons T us=>exact⟨_,_,rfl⟩
  have Y:dR w w0.heap.size aj ρ x T:=by
   obtain⟨u,e,h⟩:=L.2 0 x rfl;simp at e;subst e;exact h
  have mE:eK w w0.heap.size aj ρ xs us.toArray:=⟨by have:=L.1;simpa using this,λn y C=>by
   obtain⟨u,e,h⟩:=L.2 (n+1) y C;exact⟨u,by simpa using e,h⟩⟩
  cases x with
  | v x=>
   simp only[iu,Option.map_eq_some_iff]at h;obtain⟨⟨S5,rT⟩,h,e⟩:=h;simp only[Prod.mk.injEq]at e;obtain⟨rfl,rfl⟩:=e;obtain⟨aD,Z,h2,h3,D,h5⟩:=Mq U f (j+1) xs σ rT S5 h aj ρ a w hR us mE
   refine⟨aD,Z,by simp[h2],λn y C=>?_,D,h5⟩
   cases n with
   | zero=>
    simp at C;subst C;refine⟨T,rfl,D _ _ _ (U _) (Y.2.key Y.1)⟩
   | succ n=>
    obtain⟨u,e,h⟩:=h3 n y (by simpa using C);exact⟨u,by simpa using e,by rw[show j+(n+1)=j+1+n by omega];exact h⟩
  |dead=>simp[iu]at h
  | own k=>
   match k,Y,h with
   |[],_,h=>simp[iu]at h
   |_::_::_,_,h=>simp[iu]at h
   | [q],Y,h=>
    simp only[iu]at h;split at h
    ·rename_i z hz;cases S6:Nat.beq q r with
     |true=>rw[S6]at h;cases h
     | false=>
      rw[S6,au,Option.map_eq_some_iff]at h;obtain⟨⟨S5,rT⟩,am8,e⟩:=h;simp only[Prod.mk.injEq]at e;obtain⟨rfl,rfl⟩:=e;have cL:q≠r:=by rintro rfl;simp at S6
      have hkj:key j≠[]:=by intro e;have:=U j;rw[e]at this;simp[cR]at this
      obtain⟨u,cO,dX,kj⟩:=hR.am7 hz hkj;have Gk:u=T:=by
       have D:=Y.2;simp only[cU,cO]at D;injection D
      subst Gk;have nQ:∀ k,cR r k=true->cR q k=false:=by
       intro k O;cases hq:cR q k with
       |false=>rfl
       | true=>
        exfalso;have Z:=aak O;have h2:=aak hq;exact cL (aac Z h2)
      obtain⟨aD,Z,h2,h3,D,h5,h6,h7,h8⟩:=Mq U f (j+1) (xs.map (Lf.drop q)) (σ.drop q) rT S5 am8 _ ρ a w dX us (mE.rel (Gj hR.wC))
      refine⟨aD,Z,by simp[h2],λn y C=>?_,λk x v O hv=>D _ _ _ O (hv.rel (Gj hR.wC) (.inl (nQ k O))),λx hx=>h5 x ?_,λk v O hv=>h6 k v O (am6 (Gj hR.wC) k v (nQ k O) hv),λb hb=>h7 b (bI.aao hb (by simpa [cR]using λe=>cL e.symm)),λb hb=>h8 b (bI.S4 hb)⟩
      ·cases n with
       | zero=>
        simp at C;subst C;exact⟨u,rfl,D _ _ _ (U _) kj⟩
       | succ n=>
        obtain⟨u,e,h⟩:=h3 n y (by simpa using C);exact⟨u,by simpa using e,by rw[show j+(n+1)=j+1+n by omega];exact h⟩
      ·have hb:Nat.beq r q=false:=by
        cases hb:Nat.beq r q with
        |false=>rfl
        |true=>exact absurd (cB hb).symm cL
       show (bif Nat.beq r q then none else (σ.m r).map (aV.drop q))=_;rw[hb,hx];rfl
    ·cases h
end
def nR:Value->Lf
 |.int k n=>.v (.int k n)
 |.bool b=>.v (.bool b)
 |.string s=>.v (.str s)
 |.slice none 0 0=>.v .nil
 |_=>.dead
def zeroV:Value->ah V
 |.int k n=>some (.int k n)
 |.bool b=>some (.bool b)
 |.string s=>some (.str s)
 |.slice none 0 0=>some .nil
 |_=>none
def Gl:aa Value->ah (aa V)
 |[]=>some []
 | v :: C=>match zeroV v,Gl C with
  |some x,some xs=>some (x::xs)
  |_,_=>none
def zeroOf(P:Program)(e:TypeId):ah Value:=(P.info? e).bind (·.zero)
def bytesOf(P:Program)(e:TypeId):ah Nat:=(P.info? e).map (·.bytes)
def iw{X:Type}(N:Nat)(σ:S)(d:Nat)(x:aV)(y:A)(k:S->ah X):ah X:=
 bif Nat.blt d N then k (((σ.drop d).root d x).set d y)else none
def qD{X:Type}(P:Program)(N:Nat)(σ:S)(d:Nat)(e:TypeId)(k:S->ah X):ah X:=
 match zeroOf P e with
 |some z=>iw N σ d (.aC (z.cells.toList.map nR)) (.aO d 0) k
 |none=>none
def uJ(P:Program)(t:TypeId):ah (TypeId×TC):=
 match pF P t with
 |none=>none
 | some e=>match Z5 e,jA P e,bytesOf P e with
  |some C,some n,some b=>bif Nat.beq n (aG C)&&Nat.ble b 65536 then some (e,C)else none
  |_,_,_=>none
def Ms(P:Program)(e:TypeId)(C:TC):ah (T C):=
 match zeroOf P e with
 |none=>none
 | some z=>match Gl z.cells.toList with
  |none=>none
  |some D=>dec C (full C) D
def yP{X:Type}(P:Program)(N:Nat)(σ:S)(d:Nat)(t:TypeId)(l c:A)(k:S->ah X):ah X:=
 match uJ P t,l,c with
 | some (e,C),.lf (.v (.int _ n)),.lf (.v (.int _ c))=>match Ms P e C with
  |none=>none
  |some z=>if 0<=n/\n<=c/\c<1073741824 then iw N σ d (.sl (.sl C (full C+2) false (List.replicate n.toNat z))) (.lf (.own [d])) k else none
 |_,_,_=>none
def V.Mt(t:TC):V->ah (aa (T t))
 |.sl C _ _ l=>if h:C=t then some (h ▸ l)else none
 |.nil=>some []
 |_=>none
def sV{X:Type}(P:Program)(N:Nat)(σ:S)(d:Nat)(t:TypeId)(x y:A)(k:S->ah X):ah X:=
 match uJ P t with
 | some (e,C)=>bif Nat.beq (full C) 0&&(zeroOf P e).any (λz=>Nat.beq z.cells.size (aG C))then rQ σ y λD=>(match D.Mt C with
  |none=>none
  | some l2=>match x with
   |.lf (.v .nil)=>bif bF l2.length then iw N σ d (.sl (.sl C 2 false l2)) (.lf (.own [d])) k else none
   | .lf (.own [r])=>(match σ.m r with
    |some (.sl (.sl E (o+2) q l))=>if h:E=C then (bif Nat.blt d N&&(Nat.blt r N ||Nat.ble 60000 r)&&bF (l.length+l2.length)then k (((σ.drop r).root r (.sl (.sl C (o+2) false ((h ▸ l)++l2)))).set d (.lf (.own [r])))else none)else none
    |_=>none)
   |_=>none)else none
 |none=>none
section
variable {P:Program} {w w':World} {w0:Wd} {B N:Nat} {aj aD:bI} {ρ ρ':Nat->Loc} {σ:S} {a:Act} {X:Type} {d:Nat} {r:X} {q:Nat} {o:Oper}
def Mv(v:Value):dR w B aj ρ (nR v) v:=by
 unfold nR;split
 ·exact⟨rfl,.int _ _ _⟩
 ·exact⟨rfl,.bool _ _⟩
 ·exact⟨rfl,.str _ _⟩
 ·exact⟨rfl,.nil _⟩
 ·trivial
def aap{v:Value}{x:V}(h:zeroV v=some x)(q:aa Nat):RV w B aj q x v:=by
 unfold zeroV at h;split at h<;>first|(injection h with h;subst h;first|exact .int _ _ _|exact .bool _ _|exact .str _ _|exact .nil _)|cases h
def S7:∀ (C:aa Value) (xs:aa V),Gl C=some xs -> xs.length=C.length /\ ∀ (j:Nat) x,xs[j]?=some x -> ∃ v,C[j]?=some v/\zeroV v=some x
 | [],xs,h=>by
  simp[Gl]at h;simp_all
 | v :: C,xs,h=>by
  unfold Gl at h;split at h
  ·rename_i y ys E D;injection h with h;subst h;obtain⟨I,L⟩:=S7 C ys D
   grind
  ·cases h
def jq.aaq(w0:Wd)(w:World)(o:Obj)(h:w0.heap.size<=w.heap.size):jq w0 w (w.alloc o):=.of ((Below.refl w0.heap.size w).alloc h o) (dJ _)
def Rl.Dl{c:Array Value}{e:TypeId}{x:aV}{ρ':Nat -> Loc}(h:Rl w0 N aj ρ σ a w)(D:w0.F d=none)(E:∀ r,r≠d -> ρ' r=ρ r)
  (I:ei (w.alloc (.cells c e)) w0.heap.size (bW aj w.heap.size (some [d])) ρ' d x):Rl w0 N (bW aj w.heap.size (some [d])) ρ' ((σ.drop d).root d x) a (w.alloc (.cells c e)):=by
 refine h.yO D (jq.aaq w0 w _ h.below.size) ⟨by simp,λb hb _=>Below.heap_alloc w _ b hb,λb hb=>cH _ _ _ (by omega),λb hb=>(h.cV b [] hb).2.2 rfl⟩ (λb k hb C=>?_) E I
 by_cases e:b=w.heap.size
 ·subst e;rw[bZ]at C;injection C with C;subst C;simp_all
 ·rw[cH _ _ _ e]at C;have:=(h.cV b k C).2.1;omega
def oJ{x:aV}{y:A}{k:S -> ah X}(h:iw N σ d x y k=some r):d<N/\k (((σ.drop d).root d x).set d y)=some r:=by
 unfold iw at h;cases C:Nat.blt d N with
 |false=>simp_all
 |true=>simp_all
def am9{e:TypeId}{k:S -> ah X}(h:qD P N σ d e k=some r):∃ E,k E=some r /\ ∀ aj ρ a w,Rl w0 N aj ρ σ a w -> ∃ w' aD ρ' v,(Instr.alloc e true (.tuple #[])).run P w = .ok v w'/\Rl w0 N aD ρ' E (a.put (some d) v) w':=by
 unfold qD at h;split at h
 ·rename_i z D;obtain⟨I,h⟩:=oJ h
  refine⟨_,h,λaj ρ a w hR=>?_⟩
  have T:(Instr.alloc e true (.tuple #[])).run P w = .ok (.pointer (some ⟨w.heap.size,0,none⟩)) (w.alloc (.cells z.cells e)):=by
   unfold zeroOf at D;cases hi:P.info? e with
   |none=>simp_all
   | some i=>
    have D:i.zero=some z:=by simpa [hi]using D
    simp[Instr.alloc,zeroValue,typeInfo,hi,D,newVar,newRow]
  refine⟨_,bW aj w.heap.size (some [d]),bW ρ d (.aC w.heap.size 0),_,T,(hR.Dl (hR.dm d (.inl I)) (λr U=>cH _ _ _ U) ?_).set ⟨w.heap.size,0,bZ _ _ _,rfl⟩ I⟩
  refine .aC w.heap.size 0 z.cells e _ (λj=>z.cells.getD j undef) (bZ _ _ _) (bZ _ _ _) (heap_alloc_new w _) (by simp) λj x C=>?_
  rw[eJ]at C;cases L:z.cells.toList[j]? with
  |none=>simp_all
  | some v=>
   rw[L]at C;injection C with C;subst C;have O:z.cells[j]?=some v:=by simpa using L
   have Y:z.cells.getD j undef=v:=by rw[iE,O];rfl
   rw[Y,fh];exact⟨O,Mv v⟩
 ·cases h
def yQ{t e:TypeId}{C:TC}(h:uJ P t=some (e,C)):P.underlying t=some (.slice e)/\tid C=e /\ ∃ i,P.info? e=some i/\i.size=aG C/\i.bytes <= 65536:=by
 unfold uJ at h;split at h
 ·cases h
 ·rename_i I D;split at h
  ·rename_i L n b O T hb;cases E:(Nat.beq n (aG L)&&Nat.ble b 65536)with
   |false=>simp_all
   | true=>
    rw[E,aq]at h;injection h with h;injection h with U Y;subst U Y;rw[aQ]at E;refine⟨?_,amN O,?_⟩
    ·unfold pF at D;split at D
     ·simp_all
     ·cases D
    ·unfold jA at T;unfold bytesOf at hb;cases hi:P.info? I with
     |none=>simp_all
     |some i =>simp_all
  ·cases h
def aar(z:Array Value)(n i j:Nat)(C:j<z.size)(h:i*z.size+j<n):(madeCells z n)[i*z.size+j]?=some z[j]:=by
 have D:(i*z.size+j) % z.size=j:=by rw[Nat.add_comm,Nat.add_mul_mod_self_right,Nat.mod_eq_of_lt C]
 simp[madeCells,Array.getElem?_map,Array.getElem?_range,h,if_true,Option.map_some,D];simp[C]
def ana{t:TypeId}{l c:A}{k:S -> ah X}(h:yP P N σ d t l c k=some r):∃ cY,k cY=some r /\ ∀ aj ρ a w,Rl w0 N aj ρ σ a w -> ∀ u v,RA w w0.heap.size aj ρ l u -> RA w w0.heap.size aj ρ c v ->
  ∃w' aD ρ' x,(Instr.makeSlice t u v).run P w = .ok x w'/\Rl w0 N aD ρ' cY (a.put (some d) x) w':=by
 unfold yP at h;split at h
 ·rename_i e D kl n kc c oK;split at h
  ·cases h
  ·rename_i z E;split at h
   ·rename_i hb;obtain⟨hd,h⟩:=oJ h
    refine⟨_,h,λaj ρ a w hR u v hu T=>?_⟩
    obtain rfl:=hu.2.gU;obtain rfl:=T.2.gU;obtain⟨gy,ht,i,hi,iN,jZ⟩:=yQ oK;unfold Ms at E;split at E
    ·cases E
    ·rename_i C Dm;split at E
     ·cases E
     ·rename_i vs l6;have oL:i.zero=some C:=by unfold zeroOf at Dm;simpa [hi]using Dm
      obtain⟨pI,kM⟩:=S7 _ _ l6;have U:=lW D (full D) vs z E;have O:C.cells.size=aG D:=by rw[<- kL D (full D) z,<- U.1,pI];simp
      have SA:(i.bytes:Int)*c <= 281474976710656:=by
       have h1:(i.bytes:Int) <= 65536:=by omega
       have h2:i.bytes*c <= 65536*c:=Int.mul_le_mul_of_nonneg_right h1 (by omega);omega
      have eO:=run_make (P:=P) w t e i C gy hi oL kl kc n c hb.1 hb.2.1 SA (by omega);rw[iN,<- O]at eO
      refine⟨_,bW aj w.heap.size (some [d]),bW ρ d (.dH (.slice (some ⟨w.heap.size,0,none⟩) n.toNat c.toNat)),_,eO,(hR.Dl (hR.dm d (.inl hd)) (λr hr=>cH _ _ _ hr) ?_).set ⟨rfl,?_⟩ hd⟩
      ·refine .sl _ _ (bZ _ _ _) ?_;have hlen:(List.replicate n.toNat z).length=n.toNat:=by simp
       have:=RV.own (w:=w.alloc (.cells (madeCells C.cells (c.toNat*C.cells.size)) e)) (B:=w0.heap.size) (aj:=bW aj w.heap.size (some [d])) [d] D (full D) false (List.replicate n.toNat z) w.heap.size c.toNat (madeCells C.cells (c.toNat*C.cells.size)) (λ_ j=>C.cells.getD j undef)
        (bZ _ _ _) (by rw[ht];exact heap_alloc_new w _) (by rw[size_madeCells,O]) (by rw[hlen];omega) ⟨by unfold maxLen;omega,λh=>by cases h⟩ (λY h' j x I=>?_) (λY h' j x I=>?_)
       ·rw[hlen]at this;exact this
       ·rw[List.getElem_replicate]at I;have L:j<aG D:=by have:=(dQ.1 I).1;rwa [kL]at this
        rw[hlen]at h';rw[<- O]at L;rw[<- O,aar C.cells _ Y j L (by
         have:(Y+1)*C.cells.size <= c.toNat*C.cells.size:=iZ _ (by omega);rw[iP]at this;omega)]
        simp[iE,L]
       ·rw[List.getElem_replicate]at I;have L:j<(enc D (full D) z).length:=(dQ.1 I).1;rw[<- U.1]at L;have Z:=bS L;generalize vs[j]=y at Z;obtain⟨v,T,S8⟩:=kM j y Z;have wq:C.cells[j]?=some v:=by simpa using T
        have hg:C.cells.getD j undef=v:=by rw[iE,wq];rfl
        rw[hg];exact(aap S8 _).wk (U.2 j y x Z I)
      ·simp[cU,bZ]
   ·cases h
 ·cases h
def Dn(t:TC)(h:full t=0)(o C:Nat)(x:T t):enc t o x=enc t C x:=by
 have key:∀ o,enc t o x=enc t 0 x:=by
  intro o;rw[Z6 t o x];have:=yF t o x h
  conv=>lhs;rw[<- List.map_id (enc t o x)]
  apply List.map_congr_left;intro y D;have E:=this y D;cases y<;>first|rfl|cases E
 simp_all
def wD(u:Nat->Nat->Value)(n s:Nat):aa Value:=(List.range (n*s)).map λk=>u (k / s) (k % s)
def aas(u:Nat -> Nat -> Value)(n s i j:Nat)(hi:i<n)(C:j<s):(wD u n s)[i*s+j]?=some (u i j):=by
 have D:i*s+j<n*s:=by
  have:(i+1)*s <= n*s:=iZ _ hi
  grind
 have E:(i*s+j) / s=i:=by rw[Nat.add_comm,Nat.add_mul_div_right _ _ (by omega),Nat.div_eq_of_lt C,fh]
 have I:(i*s+j) % s=j:=by rw[Nat.add_comm,Nat.add_mul_mod_self_right,Nat.mod_eq_of_lt C]
 simp[wD,D,E,I]
def Mw(u:Nat -> Nat -> Value)(n s k:Nat)(v:Value)(D:0<s)(h:(wD u n s)[k]?=some v):∃ i j,k=i*s+j/\i<n/\j<s/\v=u i j:=by
 have C:k<n*s:=by
  have:=(dQ.1 h).1
  simpa [wD]using this
 refine⟨k / s,k % s,by rw[Nat.mul_comm];exact(Nat.div_add_mod k s).symm,Nat.div_lt_of_lt_mul (by rw[Nat.mul_comm];exact C),Nat.mod_lt _ D,?_⟩;simp[wD,eJ,List.getElem?_range C,Option.map_some,iQ]at h;simp_all
def A6(t:TC)(o:Nat)(x:T t)(j:Nat)(C:j<aG t):∃y,(enc t o x)[j]?=some y:=⟨_,bS (by rw[kL];exact C)⟩
def wE(t:TC)(l:aa (T t))(C:aa Value):Prop:=
 ∀i (hi:i<l.length) (o j:Nat) x,(enc t o l[i])[j]?=some x->∃v,C[i*aG t+j]?=some v/\v.oneCell'=true/\∀(w':World) (B':Nat) (aD:bI) (D:aa Nat),RV w' B' aD D x v
def RV.reads{q:aa Nat}{t:TC}{g:Nat}{qn:Bool}{l:aa (T t)}{u:Value}(h:RV w B aj q (.sl t g qn l) u)(U:full t=0):
  ∃A c news,u = .slice A l.length c/\Reads w w.heap.size (aG t) A l.length news/\(∀v∈news,v.oneCell'=true)/\wE t l news:=by
 cases h with
 |eE=>exact⟨none,0,[],rfl,Reads.none_,by simp,λi hi=>by simp at hi⟩
 |fI=>exact⟨_,_,[],rfl,⟨by simp,λh=>by simp at h⟩,by simp,λi hi=>by simp at hi⟩
 |fV=>exact⟨_,_,[],rfl,⟨by simp,λh=>by simp at h⟩,by simp,λi hi=>by simp at hi⟩
 | aI _ _ _ _ _ b off cap us ho hl hb h1 lX Z L=>
  have O:∀ i (hi:i<l.length) j,j<aG t -> (us i j).oneCell'=true:=by
   intro i hi j C;obtain⟨y,I⟩:=A6 t g l[i] j C;exact(L i hi j y I).one
  refine⟨_,cap,wD us l.length (aG t),rfl,⟨by simp[wD],λhn=>⟨b,off,rfl,hb,λk v E=>?_⟩⟩,λv E=>?_,λi hi o j x D=>?_⟩
  ·obtain⟨i,j,rfl,hi,C,rfl⟩:=Mw us _ _ k v (oB t) E;obtain⟨y,I⟩:=A6 t g l[i] j C;exact Z i hi j y I
  ·obtain⟨k,Y⟩:=List.mem_iff_getElem?.1 E;obtain⟨i,j,rfl,hi,C,rfl⟩:=Mw us _ _ k v (oB t) Y;exact O i hi j C
  ·have C:j<aG t:=by have:=(dQ.1 D).1;rwa [kL]at this
   rw[Dn t U o g]at D
   refine⟨us i j,aas us _ _ i j hi C,O i hi j C,λw' B' aD q'=>(L i hi j x D).sS (yF t g l[i] U x (gX D))⟩
 | own _ _ o _ _ b cap cs us hl hh hs hn hm Z L=>
  have O:∀ i (hi:i<l.length) j,j<aG t -> (us i j).oneCell'=true:=by
   intro i hi j C;obtain⟨y,I⟩:=A6 t o l[i] j C;exact(L i hi j y I).one
  refine⟨_,cap,wD us l.length (aG t),rfl,⟨by simp[wD],λhn=>⟨b,0,rfl,(iO.1 hh).1,λk v E=>?_⟩⟩,λv E=>?_,λi hi o' j x D=>?_⟩
  ·obtain⟨i,j,rfl,hi,C,rfl⟩:=Mw us _ _ k v (oB t) E;obtain⟨y,I⟩:=A6 t o l[i] j C;rw[fh,cell_of_row w b _ cs _ _ hh];simp_all
  ·obtain⟨k,Y⟩:=List.mem_iff_getElem?.1 E;obtain⟨i,j,rfl,hi,C,rfl⟩:=Mw us _ _ k v (oB t) Y;exact O i hi j C
  ·have C:j<aG t:=by have:=(dQ.1 D).1;rwa [kL]at this
   rw[Dn t U o' o]at D
   refine⟨us i j,aas us _ _ i j hi C,O i hi j C,λw' B' aD q'=>(L i hi j x D).sS (yF t o l[i] U x (gX D))⟩
def RV.aat{q:aa Nat}{t:TC}{o:Nat}{D:Bool}{l:aa (T t)}{u:Value}(h:RV w B aj q (.sl t (o+2) D l) u)(E:full t=0){B':Nat}(hB:∀ b,aj b=some q -> B' <= b):
  ∃xs,w.ownsRow B' (tid t) (aG t) u l.length xs/\(∀b,u.ownBlock=some b -> aj b=some q)/\(D=true -> u.ownBlock≠none)/\wE t l xs:=by
 cases h with
 |fI=>omega
 |fV=>omega
 |eE=>exact⟨[],⟨by simp,.inl ⟨rfl,rfl⟩⟩,by simp[Value.ownBlock],by simp,λi hi=>by simp at hi⟩
 |aI _ _ _ _ _ _ _ _ _ ho=>omega
 | own _ _ _ _ _ b cap cs us hl L O U Y hc I=>
  refine⟨cs.toList.take _,⟨?_,.inr ⟨b,cap,cs,rfl,hB b hl,L,U,Y.1,O,rfl⟩⟩,λZ A7=>?_,λ_=>by simp[Value.ownBlock],λi hi o' j x C=>?_⟩
  ·simp_all
  ·have:b=Z:=by simpa [Value.ownBlock]using A7
   simp_all
  ·have hj:j<aG t:=by have:=(dQ.1 C).1;rwa [kL]at this
   have dW:i*aG t+j<l.length*aG t:=by
    have:(i+1)*aG t <= l.length*aG t:=iZ _ hi;rw[iP]at this;omega
   rw[Dn t E o' o]at C
   refine⟨us i j,?_,(I i hi j x C).one,λw' B' aD q'=>(I i hi j x C).sS (yF t o l[i] E x (gX C))⟩
   grind
def wE.append{t:TC}{l l2:aa (T t)}{xs ys:aa Value}(h:wE t l xs)(E:wE t l2 ys)(hl:xs.length=l.length*aG t):wE t (l++l2) (xs++ys):=by
 intro i hi o j x C;by_cases D:i<l.length
 ·rw[List.getElem_append_left D]at C;obtain⟨v,I,r⟩:=h i D o j x C
  grind
 ·rw[List.getElem_append_right (by omega)]at C;have L:i-l.length<l2.length:=by rw[ox]at hi;omega
  obtain⟨v,I,r⟩:=E _ L o j x C;refine⟨v,?_,r⟩;have e:i*aG t+j=xs.length+((i-l.length)*aG t+j):=by
   rw[hl,Nat.sub_mul];have:l.length*aG t <= i*aG t:=iZ _ (by omega);omega
  grind
def S9{q:aa Nat}{t:TC}{o:Nat}{l:aa (T t)}{u:Value}{xs:aa Value}{B':Nat}(h:w.ownsRow B' (tid t) (aG t) u l.length xs)(D:wE t l xs)(hl:∀ b,u.ownBlock=some b -> aj b=some q):
  RV w B aj q (.sl t (o+2) false l) u:=by
 rcases h.2 with ⟨rfl,E⟩|⟨b,cap,cs,rfl,hB,I,L,O,U,Z⟩
 ·have:=List.eq_nil_of_length_eq_zero E;subst this;exact .eE _ _ _
 ·have qB:∀ i _ j x,(enc t o l[i])[j]?=some x -> ∃ v,cs[i*aG t+j]?=some v /\ ∀ w' B' aD Y,RV w' B' aD Y x v:=by
   intro i hi j x C;obtain⟨v,hv,_,r⟩:=D i hi o j x C
   grind
  refine .own q t o false l b cap cs (λi j=>(cs[i*aG t+j]?).getD undef) (hl b rfl) I U L ⟨O,λh=>by cases h⟩ (λi hi j x C=>?_) (λi hi j x C=>?_)
  ·grind
  ·grind
def Rl.append{t e ty:TypeId}{C:TC}{i:TypeInfo}{z:Value}{rr o g:Nat}{q qn:Bool}{l l2:aa (T C)}{u v:Value}{q':aa Nat}{Bx:Nat}{Ta:bI}(h:Rl w0 N aj ρ σ a w)(hF:w0.F rr=none)(gy:P.underlying t=some (.slice e))(ht:tid C=e)(hi:P.info? e=some i)(hz:i.zero=some z)
  (iN:i.size=aG C) (jZ:i.bytes <= 65536) (m6:z.cells.size=aG C) (hf:full C=0) (hd:RV w w0.heap.size aj [rr] (.sl C (o+2) q l) u) (hs:RV w Bx Ta q' (.sl C g qn l2) v) (hlen:l.length+l2.length<1073741824):
  ∃D w' aD,(Builtin.append_ #[t,t] ty #[u,v]).run P w = .ok D w'/\Rl w0 N aD (bW ρ rr (.dH D)) ((σ.drop rr).root rr (.sl (.sl C (o+2) false (l++l2)))) a w'/\mD D=true:=by
 subst ht;obtain⟨xs,yR,U,Gm,iT⟩:=hd.aat hf (B':=0) (λb _=>Nat.zero_le b);obtain⟨A,c,news,rfl,wF,oM,Gn⟩:=hs.reads hf;have gT:(l.length+l2.length)*i.bytes <= 140737488355328:=by
  have h1:(l.length+l2.length)*i.bytes <= 1073741824*65536:=Nat.mul_le_mul (by omega) jZ;omega
 obtain⟨D,w',eO,L,I,lD⟩:=Sz (P:=P) w 0 t ty (tid C) i z (aG C) i.bytes gy hi hz iN rfl m6 (oB C) u l.length xs yR _ A l2.length c news wF oM (by unfold maxLen;omega) gT (Nat.zero_le _);have Gq:(l++l2).length=l.length+l2.length:=ox;rw[<- Gq]at L;have A8:=iT.append Gn yR.1;have gx:mD D=true:=by rcases L.2 with ⟨rfl,_⟩|⟨_,_,_,rfl,_⟩<;>rfl
 have Y:Below 0 w w':=(Below.refl 0 w).grown I (Nat.zero_le _) (λ_ _=>Nat.zero_le _);have rU:jq w0 w w':=⟨Y.os,Y.tape,Y.output,Y.size,λk E hL=>I.block k (Nat.lt_of_lt_of_le E h.below.size) (λO=>by
  rcases(h.cV k _ (U k O.symm)).1 with h1|h1
  ·exact absurd E (Nat.not_lt.2 h1)
  ·exact h1 hL)⟩
 by_cases Z:D.ownBlock=some w.heap.size
 ·have dW:w.heap.size<w'.heap.size:=by
   rcases L.2 with ⟨rfl,_⟩|⟨b,cap,cs,rfl,_,hh,_⟩
   ·cases Z
   ·have:b=w.heap.size:=by simpa [Value.ownBlock]using Z
    grind
  refine⟨D,w',bW aj w.heap.size (some [rr]),eO,h.yO hF rU ⟨I.size,λb hb cL=>I.block b hb (λO=>cL (U b O.symm)),λb hb=>cH _ _ _ (by omega),λb hb=>(h.cV b [] hb).2.2 rfl⟩ (λb k hb E=>?_) (λr hr=>cH _ _ _ hr) (.sl D _ (bZ _ _ _) (S9 L A8 (λb hb=>?_))),gx⟩
  ·by_cases e:b=w.heap.size
   ·subst e;rw[bZ]at E
    grind
   ·rw[cH _ _ _ e]at E;have:=(h.cV b k E).2.1;omega
  ·rw[Z]at hb;injection hb with hb;subst hb;exact bZ _ _ _
 ·have Tb:D.ownBlock=u.ownBlock:=by
   rcases lD with lD|lD
   ·exact lD
   ·exact absurd lD Z
  refine⟨D,w',aj,eO,h.yO hF rU ⟨I.size,λb hb cL=>I.block b hb (λO=>cL (U b O.symm)),λ_ _=>rfl,λb hb=>(h.cV b [] hb).2.2 rfl⟩ (λb k hb E=>?_) (λr hr=>cH _ _ _ hr) (.sl D _ (bZ _ _ _) (S9 L A8 (λb hb=>U b (by rw[<- Tb];exact hb)))),gx⟩
  have:=(h.cV b k E).2.1;omega
def Tc{t:TC}{x:V}{l:aa (T t)}(h:x.Mt t=some l){q:aa Nat}{u:Value}(C:RV w B aj q x u):∃ g D,RV w B aj q (.sl t g D l) u:=by
 unfold V.Mt at h;split at h
 ·grind
 ·injection h with h;subst h;cases C;exact⟨0,false,.eE _ _ _⟩
 ·cases h
def Td{x:Lf}{k:V -> ah X}(h:oH σ x k=some r):∃ y,(∀ aj ρ a w,Rl w0 N aj ρ σ a w -> ∀ u,dR w w0.heap.size aj ρ x u -> ∃ q,RV w w0.heap.size aj q y u)/\k y=some r:=by
 cases x with
 |v z=>exact⟨z,λaj ρ a w _ u C=>⟨[],C.2⟩,h⟩
 |dead=>cases h
 | own q=>
  obtain⟨z,D,h⟩:=rP q _ h
  refine⟨z,λaj ρ a w hR u C=>?_,h⟩
  obtain⟨v,E,I⟩:=D.ok hR.root;have L:=C.2
  grind
def aau{y:A}{k:V -> ah X}(h:rQ σ y k=some r):∃ z,(∀ aj ρ a w,Rl w0 N aj ρ σ a w -> ∀ u,RA w w0.heap.size aj ρ y u -> ∃ q B' aD,RV w B' aD q z u)/\k z=some r:=by
 unfold rQ at h;split at h
 ·obtain⟨z,C,D⟩:=Td h;exact⟨z,λaj ρ a w hR u E=>let ⟨q,I⟩:=C aj ρ a w hR u E;⟨q,_,_,I⟩,D⟩
 ·obtain⟨z,D,_,C⟩:=aaf h;exact⟨z,λaj ρ a w hR u E=>⟨[],0,_,C _ _ _ _ _ _ hR u E 0⟩,D⟩
 ·cases h
def anb{t ty:TypeId}{x y:A}{k:S -> ah X}(h:sV P N σ d t x y k=some r):∃ cY,k cY=some r /\ ∀ aj ρ a w,Rl w0 N aj ρ σ a w -> ∀ u v,RA w w0.heap.size aj ρ x u -> RA w w0.heap.size aj ρ y v ->
  ∃w' aD ρ' z,(Builtin.append_ #[t,t] ty #[u,v]).run P w = .ok z w'/\Rl w0 N aD ρ' cY (a.put (some d) z) w':=by
 unfold sV at h;split at h
 ·rename_i e tc oK;obtain⟨gy,ht,i,hi,iN,jZ⟩:=yQ oK;cases O:(Nat.beq (full tc) 0&&(zeroOf P e).any (λz=>Nat.beq z.cells.size (aG tc)))with
  |false=>grind
  | true=>
   rw[O,aq]at h;rw[aQ]at O;have hf:=cB O.1;obtain⟨z,hz,T⟩:=(Option.any_eq_true _ _).1 O.2;have T:=cB T;have oL:i.zero=some z:=by unfold zeroOf at hz;simpa [hi]using hz
   obtain⟨yv,Mx,C⟩:=aau (w0:=w0) (N:=N) h;clear h;split at C
   ·cases C
   ·rename_i l2 kM;split at C
    ·cases D:bF l2.length with
     |false=>grind
     | true=>
      rw[D,aq]at C;have D:l2.length<1073741824:=by simpa [bF]using D
      obtain⟨U,h3⟩:=oJ C
      refine⟨_,h3,λaj ρ a w hR u v L Y=>?_⟩
      have L:u = .slice none 0 0:=by cases L.2;rfl
      subst L;obtain⟨q',_,_,E⟩:=Mx aj ρ a w hR v Y;obtain⟨g,qn,E⟩:=Tc kM E;obtain⟨Z,w',aD,eO,dX,gx⟩:=hR.append (ty:=ty) (rr:=d) (o:=0) (q:=false) (l:=[]) (hR.dm d (.inl U)) gy ht hi oL iN jZ T hf (.eE _ _ _) E (by simpa using D);exact⟨w',aD,_,Z,eO,dX.set ⟨gx,by simp[cU,bZ]⟩ U⟩
    ·rename_i rr;split at C
     ·rename_i t' o q l hm;split at C
      ·rename_i nj;subst nj;cases D:(Nat.blt d N&&(Nat.blt rr N || Nat.ble 60000 rr)&&bF (l.length+l2.length))with
       |false=>grind
       | true=>
        rw[D,aq]at C;rw[aQ,aQ,eA]at D;have Gr:l.length+l2.length<1073741824:=by simpa [bF]using D.2
        have U:d<N:=by have:=cK D.1.1;omega
        have qE:rr<N \/ 60000 <= rr:=D.1.2.imp (λh=>by have:=cK h;omega) (λh=>cK h)
        refine⟨_,C,λaj ρ a w hR u v L Y=>?_⟩
        obtain⟨q',_,_,E⟩:=Mx aj ρ a w hR v Y;obtain⟨g,qn,E⟩:=Tc kM E;have fF:=hR.root rr _ hm;generalize I:aV.sl (.sl t' (o+2) q l)=x at fF;cases fF with
        |aC=>cases I
        |mp=>cases I
        |gh=>cases I
        | sl uu y cO hr=>
         injection I with I;subst I;have Gk:uu=u:=by
          have h4:=L.2;simp only[cU,cO]at h4;simp_all
         subst Gk;obtain⟨Z,w',aD,eO,dX,gx⟩:=hR.append (ty:=ty) (hR.dm rr qE) gy ht hi oL iN jZ T hf hr E Gr;exact⟨w',aD,_,Z,eO,dX.set ⟨gx,by simp[cU,bZ]⟩ U⟩
      ·cases C
     ·cases C
    ·cases C
 ·cases h
def Rl.aav{t:TC}{g p:Nat}{Z:Bool}{l ys:aa (T t)}{news:aa Value}(h:Rl w0 N aj ρ σ a w)(hm:σ.m q=some (.sl (.sl t (g+2) Z l)))(hf:full t=0)(hp:p+ys.length <= l.length)(nQ:0<l.length)(iT:wE t ys news)(qF:news.length=ys.length*aG t):
  ∃ b cap,ρ q = .dH (.slice (some ⟨b,0,none⟩) l.length cap)/\l.length <= cap/\(∀ n,n<news.length -> (w.cell? ⟨b,p*aG t+n,none⟩).isSome=true/\w.frozen? ⟨b,p*aG t+n,none⟩=false) /\
   Rl w0 N aj ρ ⟨σ.t,bW σ.m q (some (.sl (.sl t (g+2) Z (splice l p ys))))⟩ a (w.setCells b (p*aG t) news):=by
 have fF:=h.root q _ hm;generalize O:aV.sl (.sl t (g+2) Z l)=x at fF;cases fF with
 |aC=>cases O
 |mp=>cases O
 |gh=>cases O
 | sl v y cO iU=>
  injection O with O;subst O;cases iU with
  |eE=>exact absurd nQ (Nat.lt_irrefl 0)
  |fI=>exact absurd nQ (Nat.lt_irrefl 0)
  |fV=>exact absurd nQ (Nat.lt_irrefl 0)
  |aI _ _ _ _ _ _ _ _ _ ho=>omega
  | own _ _ _ _ _ b cap cs u pG hh hs hn rN hc hr=>
   have AX:(p+ys.length)*aG t <= cap*aG t:=iZ _ (by omega);rw[Nat.add_mul]at AX;have lY:p*aG t+news.length <= cs.size:=by rw[qF,hs];exact AX
   have hW:=Mj w b (p*aG t) news;obtain⟨I,gT,ni⟩:=F0 b (tid t) news (p*aG t) w cs hh lY;have sU:∀ n,I[n]?=if n<p*aG t then cs[n]? else if n<p*aG t+news.length then news[n-p*aG t]? else cs[n]?:=by
    intro n;have e2:I[n]?=(splice cs.toList (p*aG t) news)[n]?:=by
     rw[show I[n]?=I.toList[n]? by simp,ni];rfl
    rw[e2,wo _ _ _ (by simpa using lY)];simp
   have Gb:I.size=cs.size:=by
    rw[<- lS,ni];have:=sR cs.toList (p*aG t) news (by simpa using lY);simp only[splice]at this;simp_all
   have sW:=oB t;have hC:qA w (w.setCells b (p*aG t) news) aj ρ:=by
    intro k ad v ha E gx;by_cases cL:ad.block=b
    ·obtain⟨D,C,s',q',rfl,AU,amU,uF,_⟩:=AT k ad ha;have rO:ad=⟨b,ad.off,none⟩:=by cases ad;simp_all
     rw[rO,cell_of_row w b _ cs _ _ hh]at E;rw[rO,cell_of_row _ b _ I _ _ gT,sU];by_cases U:ad.off<p*aG t
     ·rw[bN U];exact E
     ·by_cases h2:ad.off<p*aG t+news.length
      ·exfalso;have hk:ad.off=(ad.off / aG t)*aG t+ad.off % aG t:=by rw[Nat.mul_comm];exact(Nat.div_add_mod _ _).symm
       have dW:ad.off<l.length*aG t:=by
        have:(p+ys.length)*aG t <= l.length*aG t:=iZ _ hp;rw[Nat.add_mul]at this;omega
       have hi:ad.off / aG t<l.length:=Nat.div_lt_of_lt_mul (by rw[Nat.mul_comm];exact dW);obtain⟨y,hy⟩:=A6 t g l[ad.off / aG t] (ad.off % aG t) (Nat.mod_lt _ sW);have h3:=hc _ hi _ y hy;rw[<- hk,E]at h3;injection h3 with h3;have:=(hr _ hi _ y hy).aad (yF t g _ hf y (gX hy));rw[<- h3,gx]at this;cases this
      ·rw[bO U,bO h2];exact E
    ·exact(World.cell?_of_block (hW.block _ cL)).trans E
   have AV:cU w aj ρ [q]=some (.slice (some ⟨b,0,none⟩) l.length cap):=by simp only[cU,cO]
   refine⟨b,cap,cO,hn,λn yI=>⟨?_,frozen_of_row w b _ cs _ hh⟩,h.wrote hW pG hC ((yH.root q _ _ hm).ok h.root hW pG (List.suffix_refl _) hC AV ?_)⟩
   ·rw[cell_of_row w b _ cs _ _ hh];simp;omega
   ·have hlen:(splice l p ys).length=l.length:=sR l p ys hp;have key:∀ C (h:C<(splice l p ys).length) (D:Nat) x,(enc t g (splice l p ys)[C])[D]?=some x -> ∃ v,I[C*aG t+D]?=some v/\RV (w.setCells b (p*aG t) news) w0.heap.size aj (D :: C :: aG t :: [q]) x v:=by
     intro C h' D x Y;have rM:D<aG t:=by have:=(dQ.1 Y).1;rwa [kL]at this
     have L:=bS h';generalize (splice l p ys)[C]=e at L Y;rw[wo l p ys hp]at L;have uG:=yF t g e hf x (gX Y);have old:l[C]?=some e -> ∃ v,cs[C*aG t+D]?=some v/\RV (w.setCells b (p*aG t) news) w0.heap.size aj (D :: C :: aG t :: [q]) x v:=λhle=>by
      obtain⟨hi,rfl⟩:=dQ.1 hle;exact⟨_,hc C hi D x Y,(hr C hi D x Y).sS uG⟩
     by_cases U:C<p
     ·rw[bN U]at L;have dW:(C+1)*aG t <= p*aG t:=iZ _ U;rw[iP]at dW;rw[sU,bN];exact old L
     ·rw[bO U]at L;by_cases h2:C<p+ys.length
      ·rw[bN h2]at L;obtain⟨hi,rfl⟩:=dQ.1 L;obtain⟨v,E,_,kj⟩:=iT (C-p) hi g D x Y;have aFL:(C-p)*aG t=C*aG t-p*aG t:=Nat.sub_mul _ _ _;have hle:p*aG t <= C*aG t:=iZ _ (by omega);have dW:=(dQ.1 E).1;refine⟨v,?_,kj _ _ _ _⟩;rw[sU,bO,bN,<- E];congr 1;omega
      ·rw[bO h2]at L;have oF:(p+ys.length)*aG t <= C*aG t:=iZ _ (by omega);rw[Nat.add_mul]at oF;rw[sU,bO,bO (by rw[qF];omega)];exact old L
    rw[<- hlen]
    refine .own [q] t g Z (splice l p ys) b cap I (λC D=>(I[C*aG t+D]?).getD undef) pG gT (Gb.trans hs) (by rw[hlen];exact hn) ⟨rN.1,λh=>by rw[hlen];exact rN.2 h⟩ (λC h D x l5=>?_) (λC h D x l5=>?_)
    ·obtain⟨v,E,_⟩:=key C h D x l5;rw[E];rfl
    ·obtain⟨v,E,hr⟩:=key C h D x l5;rw[E];exact hr
def aaw(b i c s:Nat):sliced (some ⟨b,0,none⟩) 0 i c s = .slice (some ⟨b,0,none⟩) i c:=by
 unfold sliced;split
 ·rfl
 ·rw[Option.map_some,Addr.add_lit];simp
def Gs{X:Type}(P:Program)(N:Nat)(σ:S)(d:Nat)(t:TypeId)(x y:A)(k:S->ah X):ah X:=
 match x,y with
 | .view [q] s 0 i,.view [E] I j m=>(match uJ P t with
  | some (e,C)=>bif Nat.beq E q&&Nat.beq s (aG C)&&Nat.beq I (aG C)&&Nat.beq (full C) 0&&Nat.blt d N then (match σ.m q with
   |some (.sl (.sl D (o+2) L l))=>bif Nat.beq (full D) 0&&Nat.beq (aG D) (aG C)then (if i<=j/\j<=m/\m<=l.length/\0<l.length then k ((σ.root q (.sl (.sl D (o+2) L (splice l i ((l.take m).drop j))))).set d (.view [q] s 0 (i+(m-j))))else none)else none
   |_=>none)else none
  |none=>none)
 |_,_=>none
def anc{t ty:TypeId}{x y:A}{k:S -> ah X}(h:Gs P N σ d t x y k=some r):∃ cY,k cY=some r /\ ∀ aj ρ a w,Rl w0 N aj ρ σ a w -> ∀ u v,RA w w0.heap.size aj ρ x u -> RA w w0.heap.size aj ρ y v ->
  ∃w' aD ρ' z,(Builtin.append_ #[t,t] ty #[u,v]).run P w = .ok z w'/\Rl w0 N aD ρ' cY (a.put (some d) z) w':=by
 unfold Gs at h;split at h
 ·rename_i q s i q' s' j m;split at h
  ·rename_i e D oK;obtain⟨gy,ht,inf,hi,L,jZ⟩:=yQ oK;cases hc:(Nat.beq q' q&&Nat.beq s (aG D)&&Nat.beq s' (aG D)&&Nat.beq (full D) 0&&Nat.blt d N)with
   |false=>grind
   | true=>
    rw[hc,aq]at h;simp only[aQ]at hc;obtain⟨⟨⟨⟨c1,c2⟩,c3⟩,c4⟩,c5⟩:=hc;obtain rfl:=cB c1;obtain rfl:=cB c2;obtain rfl:=cB c3;have hd:d<N:=by have:=cK c5;omega
    split at h
    ·rename_i O g qn l hm;cases T:(Nat.beq (full O) 0&&Nat.beq (aG O) (aG D))with
     |false=>grind
     | true=>
      rw[T,aq]at h;rw[aQ]at T;have hf:=cB T.1;have U:=cB T.2;split at h
      ·rename_i hb;obtain⟨b1,b2,b3,b4⟩:=hb
       refine⟨_,h,λaj ρ a w hR u v hu hv=>?_⟩
       obtain⟨A,n,c,hva,a1,a2,rfl⟩:=hu;obtain⟨A',n',c',Y,a1',a2',rfl⟩:=hv;rw[hva]at Y;injection Y with Y;injection Y with C e2 e3;subst C e2 e3
       -- what is moved
       have fF:=hR.root q' _ hm;generalize E:aV.sl (.sl O (g+2) qn l)=x at fF;cases fF with
       |aC=>cases E
       |mp=>cases E
       |gh=>cases E
       | sl wG y cO iU=>
        injection E with E;subst E;have My:wG = .slice A n c:=by
         simp only[cU,cO]at hva;simp_all
        subst My;have Mz:RV w 0 (λ_=>none) [] (.sl O 0 qn l) (.slice A n c):=iU.gG;have hn:n=l.length:=by cases Mz<;>rfl
        obtain⟨hp,Dp,A9⟩:=Mz.part (a:=j) (h:=m) (by omega) b2 (by omega);obtain⟨A2,c2,news,gx,wF,oM,iT⟩:=hp.reads hf;have hlen:((l.take m).drop j).length=m-j:=by rw[List.length_drop,gF];omega
        obtain⟨b,cap,Z,lX,nq,dX⟩:=hR.aav hm hf (p:=i) (ys:=(l.take m).drop j) (news:=news) (by rw[hlen];omega) b4 iT (by rw[hlen];exact hlen ▸ wF.1);rw[cO]at Z;injection Z with Z;injection Z with C e2 e3;subst C e2 e3;rw[hlen]at gx;have Ba:sliced (some ⟨b,0,none⟩) 0 i c (aG D) = .slice (some ⟨b,0,none⟩) i c:=aaw b i c _;obtain⟨ad,wG⟩:∃ ad,sliced (some ⟨b,0,none⟩) j m c (aG D) = .slice (some ad) (m-j) (c-j):=by
         unfold sliced;by_cases hcj:c=j
         ·grind
         ·grind
        have Te:A2=some ad:=by
         grind
        subst Te;have qF:news.length=(m-j)*inf.size:=by rw[wF.1,hlen,L,U]
        have eO:=run_append_room_cells (P:=P) w t ty e inf gy hi b 0 i c ad (m-j) (c-j) news qF (λk u I=>by
         have oN:=(dQ.1 I).1;have sW:0<((l.take m).drop j).length:=by
          rcases Nat.eq_zero_or_pos ((l.take m).drop j).length with h0|h0
          ·grind
          ·exact h0
         obtain⟨b',A0,C,_,wH⟩:=wF.2 sW;injection C with C;subst C;rw[Addr.add_lit];exact wH k u I) oM (by omega) (λk I=>by rw[fh,L,<- U];exact(nq k I).1) (λk I=>by rw[fh,L,<- U];exact(nq k I).2)
        refine⟨_,aj,ρ,_,by rw[Ba,wG];exact eO,?_⟩;rw[fh,L,<- U];exact dX.set ⟨some ⟨b,0,none⟩,l.length,c,by simp only[cU,cO],Nat.zero_le _,by omega,(aaw b _ c _).symm⟩ hd
      ·cases h
    ·cases h
  ·cases h
 ·cases h
def ane{t:TypeId}{x y:A}:cI λX k=>Gs (X:=X) P N σ d t x y k:=λX Y k g=>by
 unfold Gs
 repeat' first|rfl|refine dc ?_ ?_|split
def Gt{X:Type}(P:Program)(σ:S)(t:TypeId)(x:A)(k:S->ah X):ah X:=
 match x with
 | .view [q] s i j=>(match uJ P t with
  | some (e,C)=>(match Ms P e C with
   | some z=>(match σ.m q with
    |some (.sl (.sl D (o+2) E l))=>if h:C=D then (bif Nat.beq s (aG C)&&Nat.beq (full C) 0 then (if i<=j/\j<=l.length then k (σ.root q (.sl (.sl D (o+2) E (splice l i (List.replicate (j-i) (h ▸ z))))))else none)else none)else none
    |_=>none)
   |none=>none)
  |none=>none)
 |_=>none
def anf{t ty:TypeId}{x:A}{k:S->ah X}(h:Gt P σ t x k=some r):∃ cY,k cY=some r/\∀ aj ρ a w,Rl w0 N aj ρ σ a w->∀ u,RA w w0.heap.size aj ρ x u->
  ∃w',(Builtin.clear_ #[t] ty #[u]).run P w = .ok (.tuple #[]) w'/\Rl w0 N aj ρ cY a w':=by
 unfold Gt at h;split at h
 ·rename_i q s i j;split at h
  ·rename_i e C oK;obtain⟨gy,ht,inf,hi,iN,jZ⟩:=yQ oK;split at h
   ·rename_i z T;split at h
    ·rename_i t' g qn l hm;split at h
     ·rename_i nj;subst nj;cases U:(Nat.beq s (aG C)&&Nat.beq (full C) 0)with
      |false=>rw[U]at h;cases h
      | true=>
       rw[U,aq]at h;rw[aQ]at U;obtain rfl:=cB U.1;have hf:=cB U.2;split at h
       ·rename_i hb
        refine⟨_,h,λaj ρ a w hR u hu=>?_⟩
        obtain⟨A,n,c,Y,a1,a2,rfl⟩:=hu;unfold Ms at T;split at T
        ·cases T
        ·rename_i D Dm;split at T
         ·cases T
         ·rename_i vs l6;have oL:inf.zero=some D:=by unfold zeroOf at Dm;simpa [hi]using Dm
          obtain⟨pI,kM⟩:=S7 _ _ l6;have E:=lW C (full C) vs z T;have m6:D.cells.size=aG C:=by rw[<-kL C (full C) z,<-E.1,pI];simp
          have hzr:∀w:World,(zeroValue e).run P w = .ok D w:=λw=>by simp[zeroValue,typeInfo,hi,oL]
          rcases Nat.eq_zero_or_pos (j-i)with h0|h0
          ·have uF:splice l i (List.replicate (j-i) z)=l:=by rw[h0];simp[splice]
           refine⟨w,?_,?_⟩
           ·unfold sliced;rw[h0];cases (if c=i then A else A.map (·.add (i*aG C)))<;>simp[Builtin.clear_,gY gy]
           ·show Rl w0 N aj ρ (σ.root q (.sl (.sl C (g+2) qn (splice l i (List.replicate (j-i) z))))) a w;rw[uF];have:σ.root q (.sl (.sl C (g+2) qn l))=σ:=by
             unfold S.root;have:bW σ.m q (some (.sl (.sl C (g+2) qn l)))=σ.m:=by
              funext k;by_cases E:k=q
              ·subst E;rw[bZ,hm]
              ·rw[cH _ _ _ E]
             rw[this]
            rw[this];exact hR
          ·have oO:(Builtin.zeroCells D.cells (j-i))=madeCells D.cells ((j-i)*D.cells.size):=rfl;have iT:wE C (List.replicate (j-i) z) (Builtin.zeroCells D.cells (j-i)).toList:=by
            intro i' h' o' I x L;rw[List.getElem_replicate]at L;have hj:I<aG C:=by have:=(dQ.1 L).1;rwa [kL]at this
            rw[m7]at h';have rM:=hj;rw[<-m6]at rM;have Z:(Builtin.zeroCells D.cells (j-i)).toList[i'*aG C+I]?=some D.cells[I]:=by
             rw[oO,Array.getElem?_toList,<-m6];exact aar D.cells _ i' I rM (by
              have:(i'+1)*D.cells.size<=(j-i)*D.cells.size:=iZ _ (by omega);rw[iP]at this;omega)
            rw[Dn C hf o' (full C)]at L;have Gu:I<(enc C (full C) z).length:=(dQ.1 L).1;rw[<-E.1]at Gu;have hy:=bS Gu;generalize vs[I]=y at hy;obtain⟨v,hv,S8⟩:=kM I y hy;have O:D.cells[I]=v:=by
             have e1:D.cells.toList[I]?=some D.cells[I]:=by simp[rM]
             rw[e1]at hv;injection hv
            have kj:∀(w':World) (B':Nat) (aD:bI) (q':aa Nat),RV w' B' aD q' x v:=λw' B' aD q'=>(aap S8 _).wk (E.2 I y x hy L)
            exact⟨_,Z,by rw[O];exact(kj w 0 (λ_=>none) []).one,λw' B' aD q'=>by rw[O];exact kj _ _ _ _⟩
           have qF:(Builtin.zeroCells D.cells (j-i)).toList.length=(List.replicate (j-i) z).length*aG C:=by rw[oO,m7,lS,size_madeCells,m6]
           obtain⟨b,cap,cO,lX,Z,dX⟩:=hR.aav hm hf (p:=i) (ys:=List.replicate (j-i) z) (by rw[m7];omega) (by omega) iT qF;simp only[cU,cO]at Y;injection Y with Y;injection Y with e1 e2 e3;subst e1 e2 e3;refine⟨_,?_,dX⟩;have gx:sliced (some ⟨b,0,none⟩) i j cap (aG C) = .slice (some ⟨b,i*aG C,none⟩) (j-i) (cap-i):=by
            unfold sliced;rw[bO,Option.map_some,Addr.add_lit,fh]
           have ko:=run_storeCells_cells (P:=P) b (i*aG C) (Builtin.zeroCells D.cells (j-i)).toList 0 w (λk E=>(Z k E).1) (λk E=>(Z k E).2) (λv hv=>by
            obtain⟨k,E⟩:=List.mem_iff_getElem?.1 hv;have oN:=(dQ.1 E).1;rw[qF,m7]at oN;have sW:=oB C;obtain⟨x,L⟩:=A6 C 0 z (k % aG C) (Nat.mod_lt _ sW);have dW:k / aG C<(List.replicate (j-i) z).length:=by rw[m7];exact Nat.div_lt_of_lt_mul (by rw[Nat.mul_comm];exact oN)
            obtain⟨v',O,oM,_⟩:=iT (k / aG C) dW 0 (k % aG C) x (by rw[List.getElem_replicate];exact L);rw[Nat.mul_comm,Nat.div_add_mod,E]at O;injection O with O;rw[O];exact oM)
           simp only[Nat.add_zero]at ko;rw[gx];obtain⟨n',yI⟩:∃n',j-i=n'+1:=⟨j-i-1,by omega⟩
           rw[yI]at ko ⊢;simp[Builtin.clear_,gY gy,hzr,ko]
       ·cases h
     ·cases h
    ·cases h
   ·cases h
  ·cases h
 ·cases h
def ang{t:TypeId}{x:A}:cI λX k=>Gt (X:=X) P σ t x k:=λX Y k g=>by
 unfold Gt
 repeat' first|rfl|refine dc ?_ ?_|split
end
def yS(place:Nat->ah (Nat×Nat))(cells:aa Lf):aa (Nat×A)->ah (aa Lf)
 |[]=>some cells
 | (i,x) :: rest=>match place i,x.yK with
  |some (off,n),some xs=>if xs.length=n/\off+n<=cells.length then (bif xs.all Lf.live then yS place (splice cells off xs) rest else none)else none
  |_,_=>none
def aax(P:Program)(t:TypeId):ah (Nat->ah (Nat×Nat)):=
 match P.underlying t with
 |some (.array _ e)=>(P.info? e).map λC=>λi=>some (i*C.size,C.size)
 |some (.struct fields)=>(fields.toList.mapM (λf=>(P.info? f.type).map λi=>(f.offset,i.size))).map λps=>(ps.toArray[·]?)
 |_=>none
def Dq{X:Type}(P:Program)(σ:S)(t:TypeId)(parts:aa (Nat×Operand))(k:A->ah X):ah X:=
 match zeroOf P t,aax P t with
 | some z,some pl=>match yS pl (z.cells.toList.map nR) (parts.map λp=>(p.1,aK σ p.2))with
  |some cs=>k (.agg cs)
  |none=>none
 |_,_=>none
def Lf.asV:Lf->ah V
 |.v x=>some x
 |_=>none
def uK:aa Lf->ah (aa V)
 |[]=>some []
 | x :: xs=>match x.asV,uK xs with
  |some y,some ys=>some (y::ys)
  |_,_=>none
def Gw(t:TC)(g:Nat):Nat->aa V->ah (aa (T t))
 |0,[]=>some []
 |0,_=>none
 | n+1,C=>match dec t g (C.take (aG t)),Gw t g n (C.drop (aG t))with
  |some x,some xs=>some (x::xs)
  |_,_=>none
def yT{X:Type}(P:Program)(N:Nat)(σ:S)(d:Nat)(t:TypeId)(len:Nat)(parts:aa (Nat×Operand))(k:S->ah X):ah X:=
 match uJ P t with
 | some (e,C)=>match zeroOf P e with
  | some z=>bif Nat.beq (full C) 0&&Nat.beq z.cells.size (aG C)&&Nat.blt (len*aG C) 16777217 then (match yS (λi=>some (i*aG C,aG C)) (List.replicate len (z.cells.toList.map nR)).flatten (parts.map λp=>(p.1,aK σ p.2))with
   | some cs=>(match uK cs with
    | some D=>(match Gw C 0 len D with
     |some l=>iw N σ d (.sl (.sl C 2 true l)) (.lf (.own [d])) k
     |none=>none)
    |none=>none)
   |none=>none)else none
  |none=>none
 |none=>none
section
variable {P:Program} {w w':World} {w0:Wd} {B N:Nat} {aj aD:bI} {ρ ρ':Nat->Loc} {σ:S} {a:Act} {X:Type} {d:Nat} {r:X}
def aay(off:Nat):∀ (l:aa Value) (n:Nat) (cs:Array Value),off+n+l.length <= cs.size ->
  ((l.zipIdx n).foldl (λ(cs:Array Value) (p:Value×Nat)=>cs.setIfInBounds (off+p.2) p.1) cs).toList=splice cs.toList (off+n) l
 |[],n,cs,_=>by simp[splice]
 | v :: l,n,cs,h=>by
  simp at h;rw[List.zipIdx_cons,List.foldl_cons,aay off l (n+1) _ (by simp;omega)];have C:off+n<cs.toList.length:=by simp;omega
  simp only[splice,Array.toList_setIfInBounds,List.length_cons];have D:(cs.toList.set (off+n) v).take (off+(n+1))=cs.toList.take (off+n)++[v]:=by
   rw[show off+(n+1)=off+n+1 by omega,List.take_succ_eq_append_getElem (by simpa using C),List.getElem_set_self,List.take_set_of_le (dJ _)]
  have E:(cs.toList.set (off+n) v).drop (off+(n+1)+l.length)=cs.toList.drop (off+(n+1)+l.length):=by
   rw[List.drop_set_of_lt (by omega)]
  grind
def eK.splice{cs xs:aa Lf}{D E:Array Value}(h:eK w B aj ρ cs D)(I:eK w B aj ρ xs E){off:Nat}(L:off+xs.length <= cs.length){O:Array Value}(U:O.toList=Proofs.YtglnbhiaknohlaaGreat.splice D.toList off E.toList):eK w B aj ρ (Proofs.YtglnbhiaknohlaaGreat.splice cs off xs) O:=by
 have Y:off+E.toList.length <= D.toList.length:=by rw[lS,lS,I.1,h.1];exact L
 refine⟨?_,λj x C=>?_⟩
 ·rw[sR _ _ _ L,<- lS,U,sR _ _ _ Y,lS,h.1]
 ·have e:O[j]?=(Proofs.YtglnbhiaknohlaaGreat.splice D.toList off E.toList)[j]?:=by rw[<- U,Array.getElem?_toList]
  rw[e,wo _ _ _ Y,lS,I.1];rw[wo _ _ _ L]at C;by_cases T:j<off
  ·simp[T,Array.getElem?_toList]at C ⊢;exact h.2 j x C
  ·by_cases Z:j<off+xs.length
   ·simp[T,Z,Array.getElem?_toList]at C ⊢;exact I.2 _ x C
   ·simp[T,Z,Array.getElem?_toList]at C ⊢;exact h.2 j x C
def MA{place:Nat -> ah (Nat×Nat)}:∀ (parts:aa (Nat×A)) (cells:aa Lf) (C:Array Value) (D:aa (Nat×Value)) (out:aa Lf),yS place cells parts=some out -> eK w B aj ρ cells C -> D.length=parts.length ->
  (∀(j:Nat) p q,parts[j]?=some p -> D[j]?=some q -> p.1=q.1/\RA w B aj ρ p.2 q.2) -> ∃E,Instr.fill place C D=some E/\eK w B aj ρ out E
 | [],cells,C,D,out,h,hR,hl,I=>by
  have:D=[]:=List.eq_nil_of_length_eq_zero hl;subst this;injection h with h;subst h;exact⟨C,rfl,hR⟩
 | (i,x) :: rest,cells,C,D,out,h,hR,hl,I=>by
  cases D with
  |nil=>simp at hl
  | cons v D=>
   obtain⟨i',v⟩:=v;obtain⟨e,L⟩:=I 0 _ _ rfl rfl;simp only at e L;subst e;unfold yS at h;split at h
   ·rename_i off n xs U Y;split at h
    ·rename_i hb;cases O:xs.all Lf.live with
     |false=>grind
     | true=>
      rw[O,aq]at h;obtain⟨T,_⟩:=Gg Y O L;have Z:v.cells.size=n:=by rw[T.1];exact hb.1
      have lY:¬ (off+v.cells.size > C.size):=by rw[Z,hR.1];omega
      have anh:(v.cells.zipIdx.foldl (λ(cs:Array Value) (p:Value×Nat)=>cs.setIfInBounds (off+p.2) p.1) C).toList=Proofs.YtglnbhiaknohlaaGreat.splice C.toList off v.cells.toList:=by
       have:=aay off v.cells.toList 0 C (by rw[lS];omega);rw[<- Array.foldl_toList,Array.toList_zipIdx];exact this
      have uF:=hR.splice T (off:=off) (by rw[hb.1];exact hb.2) anh;obtain⟨E,rR,dX⟩:=MA rest _ _ D out h uF (by simpa using hl) (λj p q hp' AU=>I (j+1) p q (by simpa using hp') (by simpa using AU));refine⟨E,?_,dX⟩;have cL:(v.cells.size≠n || off+v.cells.size > C.size)=false:=by
       grind
      simp only[Instr.fill,U];rw[bO (by rw[cL];simp)];exact rR
    ·cases h
   ·cases h
def ani(z:Value):eK w B aj ρ (z.cells.toList.map nR) z.cells:=by
 refine⟨by simp,λj x C=>?_⟩
 rw[eJ]at C;cases D:z.cells.toList[j]? with
 |none=>simp_all
 | some v=>
  rw[D]at C;injection C with C;subst C;exact⟨v,by simpa using D,Mv v⟩
def anj{t:TypeId}{parts:Array (Nat×Operand)}{k:A -> ah X}(h:Dq P σ t parts.toList k=some r):∃ y,k y=some r /\ ∀ aj ρ a w,Rl w0 N aj ρ σ a w ->
  ∃v,(Instr.build t (parts.map λ(i,x)=>(i,a.eval x))).run P w = .ok v w/\RA w w0.heap.size aj ρ y v:=by
 unfold Dq at h;split at h
 ·rename_i z pl E C;split at h
  ·rename_i cs Z
   refine⟨_,h,λaj ρ a w hR=>?_⟩
   obtain⟨T,U,dX⟩:=MA (w:=w) (B:=w0.heap.size) (aj:=aj) (ρ:=ρ) _ _ z.cells (parts.toList.map λp=>(p.1,a.eval p.2)) cs Z (ani z) (by simp) (λj p q D I=>by
    rw[eJ]at D I;cases Y:parts.toList[j]? with
    |none=>rw[Y]at D;cases D
    | some x=>
     rw[Y]at D I;injection D with D;injection I with I;subst D I;exact⟨rfl,hR.aK x.2⟩)
   refine⟨_,run_build (P:=P) w t _ T ?_,T,rfl,dX⟩;have Gx:(parts.map λ(i,x)=>(i,a.eval x)).toList=parts.toList.map λp=>(p.1,a.eval p.2):=by simp
   rw[Gx];unfold zeroOf at E;unfold Program.built;cases hi:P.info? t with
   |none=>simp[hi]at E
   | some i=>
    have E:i.zero=some z:=by simpa [hi]using E
    unfold aax at C;split at C
    ·rename_i n e L;cases O:P.info? e with
     |none=>simp[O]at C
     | some ie=>
      rw[O]at C;injection C with C;subst C;simp[L,E,O];exact U
    ·rename_i fields L;cases D:fields.toList.mapM (λf=>(P.info? f.type).map λi=>(f.offset,i.size))with
     |none=>rw[D]at C;cases C
     | some ps=>
      rw[D]at C;injection C with C;subst C;simp only[L,E,D];exact U
    ·cases C
  ·cases h
 ·cases h
def MB:∀ (cs:aa Lf) (C:aa V),uK cs=some C->cs=C.map .v
 |[],C,h=>by injection h with h;subst h;rfl
 | x :: xs,C,h=>by
  unfold uK at h;split at h
  next y ys D E=>injection h with h;subst h;rw[MB xs ys E,List.map_cons];cases x<;>first|(injection D with D;rw[D])|cases D
  ·cases h
def Tf(t:TC)(g:Nat):∀ (n:Nat) (C:aa V) (l:aa (T t)),Gw t g n C=some l -> l.length=n/\C.length=n*aG t /\ ∀ i (hi:i<l.length) (j:Nat) x,(enc t g l[i])[j]?=some x -> ∃ y,C[i*aG t+j]?=some y/\Wk y x
 | 0,[],l,h=>by
  injection h with h;subst h;exact⟨rfl,by simp,λi hi=>by simp at hi⟩
 |0,_::_,l,h=>by cases h
 | n+1,C,l,h=>by
  unfold Gw at h;split at h
  ·rename_i x xs I L;injection h with h;subst h;obtain⟨O,Z,h3⟩:=Tf t g n _ xs L;have D:=lW t g _ x I;have hlen:(C.take (aG t)).length=aG t:=by rw[D.1,kL]
   have oF:aG t <= C.length:=by rw[gF]at hlen;omega
   refine⟨by simp[O],?_,λi hi j y E=>?_⟩
   ·grind
   ·cases i with
    | zero=>
     have U:j<aG t:=by have:=(dQ.1 E).1;rwa [kL]at this
     have Y:=bS (by rw[hlen];exact U);refine⟨_,?_,D.2 j _ y Y E⟩;simp_all
    |succ i =>grind
  ·cases h
def RV.under{k:aa Nat}{x:V}{v:Value}{n:Nat}(h:RV w B aj k x v)(E:1<k.length\/x.aI=true)(I:w.heap.size<=w'.heap.size)(hb:∀ b,b<w.heap.size->aj b≠some [n]->w'.heap[b]?=w.heap[b]?)(hl:∀ b,b<w.heap.size->aD b=aj b):RV w' B aD k x v:=
 h.map (Q:=λk D=>k=D/\1<k.length) I (λb C h=>⟨hb b C (by rw[h];simp),(hl b C).trans h⟩) (λb k D C h e=>by
  obtain⟨rfl,e⟩:=e;exact⟨hb b C (by rw[h];rintro⟨⟩;simp at e),(hl b C).trans h,λ_ _ _=>⟨rfl,by simp⟩⟩) (E.symm.imp_right λh=>⟨rfl,h⟩)
def sX(w:World)(B:Nat)(aj:bI)(n C:Nat)(t:TC)(o:Nat)(l:aa (T t))(D:aa Value):Prop:=
 ∀i (hi:i<l.length) j x,(enc t o l[i])[j]?=some x->∃v,D[i*aG t+j]?=some v/\RV w B aj (j::(C+i)::aG t::[n]) x v
def RV.ank{n:Nat}{t:TC}{o:Nat}{C:Bool}{l:aa (T t)}{u:Value}(h:RV w B aj [n] (.sl t (o+2) C l) u){B':Nat}(hB:∀ b,aj b=some [n] -> B' <= b):
  ∃xs,w.ownsRow B' (tid t) (aG t) u l.length xs/\(∀b,u.ownBlock=some b -> aj b=some [n])/\(C=true -> u.ownBlock≠none)/\sX w B aj n 0 t o l xs:=by
 cases h with
 |fI=>omega
 |fV=>omega
 |eE=>exact⟨[],⟨by simp,.inl ⟨rfl,rfl⟩⟩,by simp[Value.ownBlock],by simp,λi hi=>by simp at hi⟩
 |aI _ _ _ _ _ _ _ _ _ Z=>omega
 | own _ _ _ _ _ b cap cs us hl D E I L hc hr=>
  refine⟨cs.toList.take _,⟨?_,.inr ⟨b,cap,cs,rfl,hB b hl,D,I,L.1,E,rfl⟩⟩,λO U=>?_,λ_=>by simp[Value.ownBlock],λi hi j x Y=>?_⟩
  ·simp_all
  ·have:b=O:=by simpa [Value.ownBlock]using U
   simp_all
  ·have hj:j<aG t:=by have:=(dQ.1 Y).1;rwa [kL]at this
   have dW:i*aG t+j<l.length*aG t:=by
    have:(i+1)*aG t <= l.length*aG t:=iZ _ hi;rw[iP]at this;omega
   grind
def sX.append{n:Nat}{t:TC}{o:Nat}{l l2:aa (T t)}{xs ys:aa Value}(h:sX w B aj n 0 t o l xs)(E:sX w B aj n l.length t o l2 ys)(hl:xs.length=l.length*aG t):sX w B aj n 0 t o (l++l2) (xs++ys):=by
 intro i hi j x C;by_cases D:i<l.length
 ·rw[List.getElem_append_left D]at C;obtain⟨v,I,r⟩:=h i D j x C
  grind
 ·rw[List.getElem_append_right (by omega)]at C;have L:i-l.length<l2.length:=by rw[ox]at hi;omega
  obtain⟨v,I,r⟩:=E _ L j x C;refine⟨v,?_,?_⟩
  ·have e:i*aG t+j=xs.length+((i-l.length)*aG t+j):=by
    rw[ Nat.sub_mul];have:l.length*aG t <= i*aG t:=iZ _ (by omega);omega
   grind
  ·grind
def sX.under{n C:Nat}{t:TC}{o:Nat}{l:aa (T t)}{D:aa Value}(h:sX w B aj n C t o l D)(E:w.heap.size<=w'.heap.size)(hb:∀ b,b<w.heap.size->aj b≠some [n]->w'.heap[b]?=w.heap[b]?)(hl:∀ b,b<w.heap.size->aD b=aj b):sX w' B aD n C t o l D:=
 λi hi j x I=>let ⟨v,L,r⟩:=h i hi j x I;⟨v,L,r.under (.inl (by simp)) E hb hl⟩
def aaz{n:Nat}{t:TC}{o:Nat}{l:aa (T t)}{u:Value}{xs:aa Value}{B':Nat}(h:w.ownsRow B' (tid t) (aG t) u l.length xs)(D:sX w B aj n 0 t o l xs)(hl:∀ b,u.ownBlock=some b -> aj b=some [n]):
  RV w B aj [n] (.sl t (o+2) false l) u:=by
 rcases h.2 with ⟨rfl,E⟩|⟨b,cap,cs,rfl,hB,I,L,O,U,Y⟩
 ·have:=List.eq_nil_of_length_eq_zero E;subst this;exact .eE _ _ _
 ·have Z:∀ i _ j x,(enc t o l[i])[j]?=some x -> ∃ v,cs[i*aG t+j]?=some v/\RV w B aj (j :: i :: aG t :: [n]) x v:=by
   intro i hi j x C;obtain⟨v,hv,r⟩:=D i hi j x C
   grind
  refine .own [n] t o false l b cap cs (λi j=>(cs[i*aG t+j]?).getD undef) (hl b rfl) I U L ⟨O,λh=>by cases h⟩ (λi hi j x C=>?_) (λi hi j x C=>?_)
  ·grind
  ·grind
def Rl.anl{t e ty:TypeId}{C:TC}{i:TypeInfo}{z:Value}{rr o m c:Nat}{q:Bool}{l l2:aa (T C)}{u:Value}{ad:ah Addr}{news:aa Value}(h:Rl w0 N aj ρ σ a w)(hF:w0.F rr=none)(gy:P.underlying t=some (.slice e))(ht:tid C=e)(hi:P.info? e=some i)(hz:i.zero=some z)
  (iN:i.size=aG C) (jZ:i.bytes <= 65536) (m6:z.cells.size=aG C) (hd:RV w w0.heap.size aj [rr] (.sl C (o+2) q l) u) (wF:Reads w w.heap.size (aG C) ad m news) (oM:∀v∈news,v.oneCell'=true) (hm:m=l2.length)
  (Gn:sX w w0.heap.size aj rr l.length C o l2 news) (hlen:l.length+l2.length<1073741824):
  ∃D w' aD,(Builtin.append_ #[t,t] ty #[u,.slice ad m c]).run P w = .ok D w'/\Rl w0 N aD (bW ρ rr (.dH D)) ((σ.drop rr).root rr (.sl (.sl C (o+2) false (l++l2)))) a w'/\mD D=true:=by
 subst ht hm;obtain⟨xs,yR,Z,Gm,iT⟩:=hd.ank (B':=0) (λb _=>Nat.zero_le b);have gT:(l.length+l2.length)*i.bytes <= 140737488355328:=by
  have h1:(l.length+l2.length)*i.bytes <= 1073741824*65536:=Nat.mul_le_mul (by omega) jZ;omega
 obtain⟨D,w',eO,L,I,lD⟩:=Sz (P:=P) w 0 t ty (tid C) i z (aG C) i.bytes gy hi hz iN rfl m6 (oB C) u l.length xs yR _ ad l2.length c news wF oM (by unfold maxLen;omega) gT (Nat.zero_le _);have Gq:(l++l2).length=l.length+l2.length:=ox;rw[<- Gq]at L;have A8:=iT.append Gn yR.1;have gx:mD D=true:=by rcases L.2 with ⟨rfl,_⟩|⟨_,_,_,rfl,_⟩<;>rfl
 have O:Below 0 w w':=(Below.refl 0 w).grown I (Nat.zero_le _) (λ_ _=>Nat.zero_le _);have rU:jq w0 w w':=⟨O.os,O.tape,O.output,O.size,λk E hL=>I.block k (Nat.lt_of_lt_of_le E h.below.size) (λe'=>by
  rcases(h.cV k _ (Z k e'.symm)).1 with h1|h1
  ·exact absurd E (Nat.not_lt.2 h1)
  ·exact h1 hL)⟩
 have U:∀b,b<w.heap.size -> aj b≠some [rr] -> w'.heap[b]?=w.heap[b]?:=λb hb cL=>I.block b hb (λe'=>cL (Z b e'.symm))
 by_cases Y:D.ownBlock=some w.heap.size
 ·have dW:w.heap.size<w'.heap.size:=by
   rcases L.2 with ⟨rfl,_⟩|⟨b,cap,cs,rfl,_,hh,_⟩
   ·cases Y
   ·have:b=w.heap.size:=by simpa [Value.ownBlock]using Y
    grind
  have Bb:∀b,b<w.heap.size -> bW aj w.heap.size (some [rr]) b=aj b:=λb hb=>cH _ _ _ (by omega)
  refine⟨D,w',bW aj w.heap.size (some [rr]),eO,h.yO hF rU ⟨I.size,U,Bb,λb hb=>(h.cV b [] hb).2.2 rfl⟩ (λb k hb E=>?_) (λr hr=>cH _ _ _ hr) (.sl D _ (bZ _ _ _) (aaz L (A8.under I.size U Bb) (λb hb=>?_))),gx⟩
  ·by_cases e:b=w.heap.size
   ·subst e;rw[bZ]at E
    grind
   ·rw[cH _ _ _ e]at E;have:=(h.cV b k E).2.1;omega
  ·rw[Y]at hb;injection hb with hb;subst hb;exact bZ _ _ _
 ·have Tb:D.ownBlock=u.ownBlock:=by
   rcases lD with lD|lD
   ·exact lD
   ·exact absurd lD Y
  refine⟨D,w',aj,eO,h.yO hF rU ⟨I.size,U,λ_ _=>rfl,λb hb=>(h.cV b [] hb).2.2 rfl⟩ (λb k hb E=>?_) (λr hr=>cH _ _ _ hr) (.sl D _ (bZ _ _ _) (aaz L (A8.under I.size U (λ_ _=>rfl)) (λb hb=>Z b (by rw[<- Tb];exact hb)))),gx⟩
  have:=(h.cV b k E).2.1;omega
end
end Go.Proofs.YtglnbhiaknohlaaGreat
