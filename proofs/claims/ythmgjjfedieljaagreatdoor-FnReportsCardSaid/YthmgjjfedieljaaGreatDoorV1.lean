/-
  Running the program over pure contents, and that it follows (part 1). Nothing here is a claim.
-/
import Derived.Test.YthmgjjfedieljaaGreatDoorAppend
import Derived.Test.YthmgjjfedieljaaGreatDoorLaws
import Derived.Handy
import Derived.Great.BuildSlice
import Derived.ArgAppend
set_option linter.unusedSimpArgs false
namespace Go.Proofs.YthmgjjfedieljaaGreatDoor
open Go.RowKit
set_option linter.defProp false
abbrev aa:=List
abbrev ah:=Option
abbrev af:=Unit
def aj:=@cond_true
def dA:=@Bool.or_eq_true
def aH:=@Bool.and_eq_true
def cv:=@Nat.eq_of_beq_eq_true
def cr:=@Nat.le_of_ble_eq_true
def fP:=@List.mem_of_getElem?
def dI:=@List.getElem?_map
def gD:=@Array.getElem?_eq_some_iff
def c9:=@Nat.le_refl
def eS:=@Nat.zero_add
def au:=@cond_false
def nc:=@List.map_congr_left
def bW:=@List.all_eq_true
def bu:=@congrArg
theorem bJ.{u}{c:Prop}{h:Decidable c}(k:c:=by omega){α:Sort u}{t e:α}:ite c t e=t:=if_pos k
def eE:=@List.length_map
def gw:=@Array.getD_eq_getD_getElem?
def jr:=@Array.length_toList
theorem bx.{u}{c:Prop}{h:Decidable c}(k:¬c:=by omega){α:Sort u}{t e:α}:ite c t e=e:=if_neg k
def js:=@List.length_set
def de:=@List.getElem?_eq_some_iff
def bQ:=@List.getElem?_eq_getElem
def gO:=@Nat.mul_le_mul_right
def gE:=@Nat.succ_mul
def gF:=@Nat.zero_le
def fA:=@Sem.run_bind
def jO:=@Result.andThen_ok
def fW:=@run_underlying
def cR:=@List.getElem_mem
def gP:=@Nat.ble_eq_true_of_le
def gG:=@Option.some.injEq
def iH:=@List.length_append
def fX:=@List.length_take
def lI:=@List.length_replicate
def kB:=@List.length_cons
def fQ:=@List.getD_eq_getElem?_getD
def oe:=@Bool.or_eq_false_iff
def gi:=@Bool.not_eq_true'
def fH:=@List.mem_cons
def cM:=@Bool.true_and
def jP:=@List.map_append
def ng:=@List.mem_singleton
theorem aD.{u}{c:Prop}{h:Decidable c}(k:c:=by omega){α:Sort u}{t:c->α}{e:¬c->α}:dite c t e=t k:=dif_pos k
def eJ:=@List.mem_range
def jt:=@List.getElem_range
theorem aV{p:Prop}[Decidable p](k:p:=by omega):decide p=true:=decide_eq_true k
def fY:=@decide_eq_true_eq
def bR:=@Bool.not_true
def oS:=@Int.tmod_eq_emod_of_nonneg
def bH:=@Int.toNat_natCast
theorem bh{p:Prop}[Decidable p](k:¬p:=by omega):decide p=false:=decide_eq_false k
def eR:=@Sum.elim_inl
def cH:=@Int.natCast_zero
def ff:=@Int.eq_ofNat_of_zero_le
def oT:=@Int.tdiv_eq_ediv_of_nonneg
def hU:=@List.length_singleton
def kC:=@List.take_length
def lJ:=@beq_self_eq_true
def iI:=@List.mem_iff_getElem
def nh:=@List.findIdx?_eq_some_iff_getElem
def dm:=@List.length_range
def ju:=@Bool.not_false
def oU:=@decide_eq_false_iff_not
def fI:=@beq_iff_eq
set_option linter.unusedVariables false
set_option linter.unusedSimpArgs false
structure aL where
 bX:Int
 aB:Int
 rows:Int
 aK:Int
structure aG where
 az:Int
 row:Int
 bL:Int
structure lK where
 order:Int
 hash:Bool
structure aC where
 kind:Int
 az:Int
 row:Int
 bL:Int
structure cV where
 jv:Int
 rp:Int
 fZ:Int
 ni:Int
 jw:Int
 mb:Int
 nj:Int
 nq:Int
 iJ:Int
 wr:Int
 nt:Int
 nu:Int
 qc:Int
 ny:Int
 og:Int
 xp:Int
 xs:Int
structure ep where
 open_:Bool
 row:Int
structure cB where
 aB:List ep
 aS:Int
structure fR where
 at_:Int
 cmd:aC
structure dJ where
 last:List Int
 bf:List Int
structure bV where
 symbols:List Int
 ia:Bool
structure dh where
 cells:List bV
 bD:List Int
 bz:List Int
structure lM where
 bD:Int
 bz:Int
structure cg where
 rows:List Int
 counts:List Int
 ef:Int
structure dc where
 bC:Int
 map:List Int
structure cW where
 aO:List Int
 wait:Int
 ei:Bool
structure aP where
 id:Int
 dB:Int
 line:Int
 write:Bool
 data:Int
 at_:Int
structure ct where
 weight:Int
 eT:Int
structure iA where
 on:Bool
 low:Int
 high:Int
structure eU where
 state:Int
 since:Int
 idle:Int
structure qd where
 down:Int
 sleep:Int
structure bT where
 line:Int
 code:Int
 times:Int
structure nA where
 next:Int
 every:Int
 wait:Int
structure dy where
 eV:Int
 cap:Int
 eK:Int
 low:Int
 high:Int
 weights:List Int
 dQ:qd
structure gH where
 bU:dy
 next:dy
 waits:Bool
structure eH where
 av:aL
 bN:cV
 mapping:lK
 bC:Int
 interval:Int
 ic:Int
 ew:lM
structure fm where
 id:Int
 at_:Int
 data:Int
 code:Int
structure ak where
 config:eH
 box:gH
 now:Int
 aU:cB
 ready:dJ
 array:dh
 spare:dc
 aX:cW
 bI:List cg
 guard:List Int
 pending:List aG
 queue:List aP
 shares:List ct
 drain:iA
 aS:eU
 cJ:nA
 errors:List bT
 trace:List fR
 bY:List fm
structure iK where
 kind:Int
 request:aP
 n:Int
 wL:Int
 addr:aG
 mc:dy
structure bA where
 b:List Int
 i:Int
 h:Int
inductive TC where
 |int|u8|bool|str
 |gj
 |Addr
 |rq
 |Command
 |kD
 |me
 |jQ
 |Event
 |nB
 |Cell
 |Array
 |ru
 |jR
 |nD
 |kE
 |eI
 |gx
 |qf
 |Power
 |sU
 |ig
 |sV
 |kF
 |qg
 |Config
 |sW
 |cX
 |Act
 |qh
 |sl (t:TC)
 |jS
 |Ei (g:Nat)
 |Ej (g:Nat)
 |El (g:Nat)
 |fnCommand (g:Nat)
deriving DecidableEq
def T:TC->Type
 |.int=>Int
 |.u8=>Int
 |.bool=>Bool
 |.str=>ByteArray
 |.gj=>aL
 |.Addr=>aG
 |.rq=>lK
 |.Command=>aC
 |.kD=>cV
 |.me=>ep
 |.jQ=>cB
 |.Event=>fR
 |.nB=>dJ
 |.Cell=>bV
 |.Array=>dh
 |.ru=>lM
 |.jR=>cg
 |.nD=>dc
 |.kE=>cW
 |.eI=>aP
 |.gx=>ct
 |.qf=>iA
 |.Power=>eU
 |.sU=>qd
 |.ig=>bT
 |.sV=>nA
 |.kF=>dy
 |.qg=>gH
 |.Config=>eH
 |.sW=>fm
 |.cX=>ak
 |.Act=>iK
 |.qh=>bA
 |.sl t=>aa (T t)
 |.jS=>ak
 |.Ei _=>Int
 |.Ej _=>aP
 |.El _=>aG
 |.fnCommand _=>aC
def aA:TC->Nat
 |.jS=>76
 |.Ei _=>3
 |.Ej _=>8
 |.El _=>5
 |.fnCommand _=>6
 |.gj=>4
 |.Addr=>3
 |.rq=>2
 |.Command=>4
 |.kD=>17
 |.me=>2
 |.jQ=>2
 |.Event=>5
 |.nB=>2
 |.Cell=>2
 |.Array=>3
 |.ru=>2
 |.jR=>3
 |.nD=>2
 |.kE=>3
 |.eI=>6
 |.gx=>2
 |.qf=>3
 |.Power=>3
 |.sU=>2
 |.ig=>3
 |.sV=>3
 |.kF=>8
 |.qg=>17
 |.Config=>28
 |.sW=>4
 |.cX=>75
 |.Act=>20
 |.qh=>3
 |_=>1
def full:TC->Nat
 |.int|.u8|.bool|.str=>0
 |.gj=>0
 |.Addr=>0
 |.rq=>0
 |.Command=>0
 |.kD=>0
 |.me=>0
 |.jQ=>2
 |.Event=>0
 |.nB=>2
 |.Cell=>2
 |.Array=>4
 |.ru=>0
 |.jR=>2
 |.nD=>2
 |.kE=>2
 |.eI=>0
 |.gx=>0
 |.qf=>0
 |.Power=>0
 |.sU=>0
 |.ig=>0
 |.sV=>0
 |.kF=>2
 |.qg=>2
 |.Config=>0
 |.sW=>0
 |.cX=>4
 |.Act=>2
 |.qh=>2
 |.sl t=>full t+2
 |.jS=>4
 |.Ei _=>0
 |.Ej _=>0
 |.El _=>0
 |.fnCommand _=>0
def tid:TC->TypeId
 |.int=>3
 |.u8=>5
 |.bool=>4
 |.str=>9
 |.gj=>29
 |.Addr=>135
 |.rq=>33
 |.Command=>146
 |.kD=>31
 |.me=>89
 |.jQ=>47
 |.Event=>252
 |.nB=>49
 |.Cell=>150
 |.Array=>52
 |.ru=>35
 |.jR=>159
 |.nD=>54
 |.kE=>56
 |.eI=>133
 |.gx=>165
 |.qf=>62
 |.Power=>64
 |.sU=>40
 |.ig=>92
 |.sV=>66
 |.kF=>42
 |.qg=>44
 |.Config=>37
 |.sW=>207
 |.cX=>71
 |.Act=>137
 |.qh=>96
 |.sl .int=>38
 |.sl .bool=>280
 |.sl .str=>73
 |_=>0
inductive V where
 |int (k:IntKind) (n:Int)
 |bool (b:Bool)
 |str (s:ByteArray)
 |nil
 |sl (t:TC) (o:Nat) (q:Bool) (l:List (T t))
def V.aN:V->ah Int|.int .i64 n=>some n|_=>none
def V.OH:V->ah Int|.int .u8 n=>some n|_=>none
def V.mg:V->ah Bool|.bool b=>some b|_=>none
def V.OI:V->ah ByteArray|.str s=>some s|_=>none
def V.eF(t:TC)(o:Nat):V->ah (aa (T t))
 |.sl D C _ l=>bif Nat.beq C o ||(Nat.ble (full t+2) C&&Nat.ble (full t+2) o)then (if h:D=t then some (h ▸ l)else none)else none
 |.nil=>some []
 |_=>none
inductive Wk:V->V->Prop
 |same (x:V):Wk x x
 |nil (t:TC) (o:Nat):Wk .nil (.sl t o false [])
 |q (t:TC) (o:Nat) (l:List (T t)):Wk (.sl t o true l) (.sl t o false l)
 |gr (t:TC) (o o':Nat) (qn:Bool) (l:List (T t)) (h:full t+2<=o) (h':full t+2<=o'):Wk (.sl t o' qn l) (.sl t o false l)
def jx(xs ys:aa V):Prop:=xs.length=ys.length/\∀(j:Nat) (x y:V),xs[j]?=some x->ys[j]?=some y->Wk x y
def jx.nil:jx [] []:=⟨rfl,by simp⟩
def jx.cons{x y:V}{xs ys:aa V}(h:Wk x y)(k:jx xs ys):jx (x :: xs) (y :: ys):=by
 refine⟨by simp[k.1],λj a b C hb=>?_⟩
 cases j with
 |zero=>simp_all
 |succ j=>simp at C hb;exact k.2 j a b C hb
def V.agv{x:V}{n:Int}(h:x.aN=some n):Wk x (.int .i64 n):=by
 unfold V.aN at h;split at h<;>first|(injection h with h;subst h;exact .same _)|cases h
def V.agw{x:V}{n:Int}(h:x.OH=some n):Wk x (.int .u8 n):=by
 unfold V.OH at h;split at h<;>first|(injection h with h;subst h;exact .same _)|cases h
def V.agx{x:V}{n:Bool}(h:x.mg=some n):Wk x (.bool n):=by
 unfold V.mg at h;split at h<;>first|(injection h with h;subst h;exact .same _)|cases h
def V.agy{x:V}{n:ByteArray}(h:x.OI=some n):Wk x (.str n):=by
 unfold V.OI at h;split at h<;>first|(injection h with h;subst h;exact .same _)|cases h
def V.Em{x:V}{t:TC}{o:Nat}{l:aa (T t)}(h:x.eF t o=some l):Wk x (.sl t o false l):=by
 unfold V.eF at h;split at h
 ·rename_i E C q F;cases hc:(Nat.beq C o || (Nat.ble (full t+2) C&&Nat.ble (full t+2) o))with
  |false=>simp_all
  | true=>
   rw[hc,aj]at h;split at h
   ·rename_i D;subst D;injection h with h;subst h;rw[dA,aH]at hc;rcases hc with hc | hc
    ·obtain rfl:=cv hc;cases q
     ·exact .same _
     ·exact .q _ _ _
    ·exact .gr _ _ _ _ _ (cr hc.2) (cr hc.1)
   ·cases h
 ·injection h with h;subst h;exact .nil _ _
 ·cases h
def BI(x:aG)(o:Nat):aa V:=[.int .i64 x.az,.int .i64 x.row,.int .i64 x.bL]
def BJ(x:aC)(o:Nat):aa V:=[.int .i64 x.kind,.int .i64 x.az,.int .i64 x.row,.int .i64 x.bL]
def BM(x:aP)(o:Nat):aa V:=[.int .i64 x.id,.int .i64 x.dB,.int .i64 x.line,.bool x.write,.int .i64 x.data,.int .i64 x.at_]
def BN(x:ak)(o:Nat):aa V:=[.int .i64 x.config.av.bX,.int .i64 x.config.av.aB,.int .i64 x.config.av.rows,.int .i64 x.config.av.aK,.int .i64 x.config.bN.jv,.int .i64 x.config.bN.rp,.int .i64 x.config.bN.fZ,.int .i64 x.config.bN.ni,.int .i64 x.config.bN.jw,.int .i64 x.config.bN.mb,.int .i64 x.config.bN.nj,.int .i64 x.config.bN.nq,.int .i64 x.config.bN.iJ,.int .i64 x.config.bN.wr,.int .i64 x.config.bN.nt,.int .i64 x.config.bN.nu,.int .i64 x.config.bN.qc,.int .i64 x.config.bN.ny,.int .i64 x.config.bN.og,.int .i64 x.config.bN.xp,.int .i64 x.config.bN.xs,.int .i64 x.config.mapping.order,.bool x.config.mapping.hash,.int .i64 x.config.bC,.int .i64 x.config.interval,.int .i64 x.config.ic,.int .i64 x.config.ew.bD,.int .i64 x.config.ew.bz,.int .i64 x.box.bU.eV,.int .i64 x.box.bU.cap,.int .i64 x.box.bU.eK,.int .i64 x.box.bU.low,.int .i64 x.box.bU.high,.sl .int o false x.box.bU.weights,.int .i64 x.box.bU.dQ.down,.int .i64 x.box.bU.dQ.sleep,.int .i64 x.box.next.eV,.int .i64 x.box.next.cap,.int .i64 x.box.next.eK,.int .i64 x.box.next.low,.int .i64 x.box.next.high,.sl .int o false x.box.next.weights,.int .i64 x.box.next.dQ.down,.int .i64 x.box.next.dQ.sleep,.bool x.box.waits,.int .i64 x.now,.sl .me o false x.aU.aB,.int .i64 x.aU.aS,.sl .int o false x.ready.last,.sl .int o false x.ready.bf,.sl .Cell o false x.array.cells,.sl .int o false x.array.bD,.sl .int o false x.array.bz,.int .i64 x.spare.bC,.sl .int o false x.spare.map,.sl .int o false x.aX.aO,.int .i64 x.aX.wait,.bool x.aX.ei,.sl .jR o false x.bI,.sl .int o false x.guard,.sl .Addr o false x.pending,.sl .eI o false x.queue,.sl .gx o false x.shares,.bool x.drain.on,.int .i64 x.drain.low,.int .i64 x.drain.high,.int .i64 x.aS.state,.int .i64 x.aS.since,.int .i64 x.aS.idle,.int .i64 x.cJ.next,.int .i64 x.cJ.every,.int .i64 x.cJ.wait,.sl .ig o false x.errors,.sl .Event o false x.trace,.sl .sW o false x.bY]
def enc:(t:TC)->(o:Nat)->T t->aa V
 |.int,_,x=>[.int .i64 x]
 |.u8,_,x=>[.int .u8 x]
 |.bool,_,x=>[.bool x]
 |.str,_,x=>[.str x]
 |.gj,o,x=>[.int .i64 x.bX,.int .i64 x.aB,.int .i64 x.rows,.int .i64 x.aK]
 |.Addr,o,x=>BI x o
 |.rq,o,x=>[.int .i64 x.order,.bool x.hash]
 |.Command,o,x=>BJ x o
 |.kD,o,x=>[.int .i64 x.jv,.int .i64 x.rp,.int .i64 x.fZ,.int .i64 x.ni,.int .i64 x.jw,.int .i64 x.mb,.int .i64 x.nj,.int .i64 x.nq,.int .i64 x.iJ,.int .i64 x.wr,.int .i64 x.nt,.int .i64 x.nu,.int .i64 x.qc,.int .i64 x.ny,.int .i64 x.og,.int .i64 x.xp,.int .i64 x.xs]
 |.me,o,x=>[.bool x.open_,.int .i64 x.row]
 |.jQ,o,x=>[.sl .me o false x.aB,.int .i64 x.aS]
 |.Event,o,x=>[.int .i64 x.at_,.int .i64 x.cmd.kind,.int .i64 x.cmd.az,.int .i64 x.cmd.row,.int .i64 x.cmd.bL]
 |.nB,o,x=>[.sl .int o false x.last,.sl .int o false x.bf]
 |.Cell,o,x=>[.sl .int o false x.symbols,.bool x.ia]
 |.Array,o,x=>[.sl .Cell o false x.cells,.sl .int o false x.bD,.sl .int o false x.bz]
 |.ru,o,x=>[.int .i64 x.bD,.int .i64 x.bz]
 |.jR,o,x=>[.sl .int o false x.rows,.sl .int o false x.counts,.int .i64 x.ef]
 |.nD,o,x=>[.int .i64 x.bC,.sl .int o false x.map]
 |.kE,o,x=>[.sl .int o false x.aO,.int .i64 x.wait,.bool x.ei]
 |.eI,o,x=>BM x o
 |.gx,o,x=>[.int .i64 x.weight,.int .i64 x.eT]
 |.qf,o,x=>[.bool x.on,.int .i64 x.low,.int .i64 x.high]
 |.Power,o,x=>[.int .i64 x.state,.int .i64 x.since,.int .i64 x.idle]
 |.sU,o,x=>[.int .i64 x.down,.int .i64 x.sleep]
 |.ig,o,x=>[.int .i64 x.line,.int .i64 x.code,.int .i64 x.times]
 |.sV,o,x=>[.int .i64 x.next,.int .i64 x.every,.int .i64 x.wait]
 |.kF,o,x=>[.int .i64 x.eV,.int .i64 x.cap,.int .i64 x.eK,.int .i64 x.low,.int .i64 x.high,.sl .int o false x.weights,.int .i64 x.dQ.down,.int .i64 x.dQ.sleep]
 |.qg,o,x=>[.int .i64 x.bU.eV,.int .i64 x.bU.cap,.int .i64 x.bU.eK,.int .i64 x.bU.low,.int .i64 x.bU.high,.sl .int o false x.bU.weights,.int .i64 x.bU.dQ.down,.int .i64 x.bU.dQ.sleep,.int .i64 x.next.eV,.int .i64 x.next.cap,.int .i64 x.next.eK,.int .i64 x.next.low,.int .i64 x.next.high,.sl .int o false x.next.weights,.int .i64 x.next.dQ.down,.int .i64 x.next.dQ.sleep,.bool x.waits]
 |.Config,o,x=>[.int .i64 x.av.bX,.int .i64 x.av.aB,.int .i64 x.av.rows,.int .i64 x.av.aK,.int .i64 x.bN.jv,.int .i64 x.bN.rp,.int .i64 x.bN.fZ,.int .i64 x.bN.ni,.int .i64 x.bN.jw,.int .i64 x.bN.mb,.int .i64 x.bN.nj,.int .i64 x.bN.nq,.int .i64 x.bN.iJ,.int .i64 x.bN.wr,.int .i64 x.bN.nt,.int .i64 x.bN.nu,.int .i64 x.bN.qc,.int .i64 x.bN.ny,.int .i64 x.bN.og,.int .i64 x.bN.xp,.int .i64 x.bN.xs,.int .i64 x.mapping.order,.bool x.mapping.hash,.int .i64 x.bC,.int .i64 x.interval,.int .i64 x.ic,.int .i64 x.ew.bD,.int .i64 x.ew.bz]
 |.sW,o,x=>[.int .i64 x.id,.int .i64 x.at_,.int .i64 x.data,.int .i64 x.code]
 |.cX,o,x=>BN x o
 |.Act,o,x=>[.int .i64 x.kind,.int .i64 x.request.id,.int .i64 x.request.dB,.int .i64 x.request.line,.bool x.request.write,.int .i64 x.request.data,.int .i64 x.request.at_,.int .i64 x.n,.int .i64 x.wL,.int .i64 x.addr.az,.int .i64 x.addr.row,.int .i64 x.addr.bL,.int .i64 x.mc.eV,.int .i64 x.mc.cap,.int .i64 x.mc.eK,.int .i64 x.mc.low,.int .i64 x.mc.high,.sl .int o false x.mc.weights,.int .i64 x.mc.dQ.down,.int .i64 x.mc.dQ.sleep]
 |.qh,o,x=>[.sl .u8 o false x.b,.int .i64 x.i,.int .i64 x.h]
 |.sl t,o,x=>[.sl t o false x]
 |.jS,o,x=>.bool true::BN x o
 |.Ei g,o,x=>.bool false::.int .i64 (g:Int)::[.int .i64 x]
 |.Ej g,o,x=>.bool false::.int .i64 (g:Int)::BM x o
 |.El g,o,x=>.bool false::.int .i64 (g:Int)::BI x o
 |.fnCommand g,o,x=>.bool false::.int .i64 (g:Int)::BJ x o
def dF{α β:Type}(g:V->ah β)(f:β->aa V->ah α):aa V->ah α
 |x::cs=>(g x).bind λy=>f y cs
 |[]=>none
def dE{α:Type}(x:α):aa V->ah α
 |[]=>some x
 |_=>none
def V.dM(b:Bool):V->ah Bool|.bool c=>bif c==b then some c else none|_=>none
def V.BO(n:Int):V->ah Int|.int .i64 m=>if m=n then some m else none|_=>none
def DQ{α:Type}(e:α->aa V)(p:aa V->aa V)(d:aa V->ah α):Prop:=∀cs x,d cs=some x->∃L,e x=p L/\jx cs L
def agz{α:Type}{e:α->aa V}{p:aa V->aa V}{x:α}(h:e x=p []):DQ e p (dE x):=λcs y C=>by
 cases cs with
 |nil=>injection C with C;subst C;exact⟨[],h,.nil⟩
 |cons=>cases C
def bind_some{α β:Type}{a:ah α}{f:α -> ah β}{b:β}(h:a.bind f=some b):∃ x,a=some x/\f x=some b:=by
 cases a with
 |none=>cases h
 |some x=>simp_all
def ze{α β:Type}{e:α->aa V}{p:aa V->aa V}{g:V->ah β}{k:β->V}(D:∀ {x y},g x=some y->Wk x (k y)){f:β->aa V->ah α}(E:∀ y,DQ e (λL=>p (k y :: L)) (f y)):DQ e p (dF g f):=λcs x C=>by
 cases cs with
 |nil=>cases C
 | cons c cs=>
  obtain⟨y,F,I⟩:=bind_some C;obtain⟨L,O,T⟩:=E y cs x I;exact⟨k y::L,O,.cons (D F) T⟩
def V.agA{b:Bool}{x:V}{c:Bool}(h:x.dM b=some c):Wk x (.bool b):=by
 unfold V.dM at h;split at h
 next C=>cases C<;>cases b<;>first|exact .same _|cases h
 ·cases h
def V.agB{n:Int}{x:V}{c:Int}(h:x.BO n=some c):Wk x (.int .i64 n):=by
 unfold V.BO at h;split at h
 ·split at h
  next C=>subst C;exact .same _
  ·cases h
 ·cases h
abbrev Vz (o:Nat):aa V->ah aG:=dF V.aN λC=>dF V.aN λD=>dF V.aN λE=>dE ⟨C,D,E⟩
abbrev VA (o:Nat):aa V->ah aC:=dF V.aN λC=>dF V.aN λD=>dF V.aN λE=>dF V.aN λF=>dE ⟨C,D,E,F⟩
abbrev VB (o:Nat):aa V->ah aP:=dF V.aN λC=>dF V.aN λD=>dF V.aN λE=>dF V.mg λF=>dF V.aN λI=>dF V.aN λL=>dE ⟨C,D,E,F,I,L⟩
abbrev VC (o:Nat):aa V->ah ak:=dF V.aN λC=>dF V.aN λD=>dF V.aN λE=>dF V.aN λF=>dF V.aN λI=>dF V.aN λL=>dF V.aN λO=>dF V.aN λT=>dF V.aN λU=>dF V.aN λY=>dF V.aN λZ=>dF V.aN λuA=>dF V.aN λuB=>dF V.aN λuC=>dF V.aN λuD=>dF V.aN λuE=>dF V.aN λuF=>dF V.aN λEn=>dF V.aN λEo=>dF V.aN λEp=>dF V.aN λOJ=>dF V.aN λOL=>dF V.mg λOM=>dF V.aN λON=>dF V.aN λOO=>dF V.aN λOP=>dF V.aN λOQ=>dF V.aN λOR=>dF V.aN λx28=>dF V.aN λx29=>dF V.aN λx30=>dF V.aN λx31=>dF V.aN λx32=>dF (V.eF .int o) λx33=>dF V.aN λx34=>dF V.aN λx35=>dF V.aN λx36=>dF V.aN λx37=>dF V.aN λx38=>dF V.aN λx39=>dF V.aN λx40=>dF (V.eF .int o) λx41=>dF V.aN λx42=>dF V.aN λx43=>dF V.mg λx44=>dF V.aN λx45=>dF (V.eF .me o) λx46=>dF V.aN λx47=>dF (V.eF .int o) λx48=>dF (V.eF .int o) λx49=>dF (V.eF .Cell o) λx50=>dF (V.eF .int o) λx51=>dF (V.eF .int o) λx52=>dF V.aN λx53=>dF (V.eF .int o) λx54=>dF (V.eF .int o) λx55=>dF V.aN λx56=>dF V.mg λx57=>dF (V.eF .jR o) λx58=>dF (V.eF .int o) λx59=>dF (V.eF .Addr o) λx60=>dF (V.eF .eI o) λx61=>dF (V.eF .gx o) λx62=>dF V.mg λx63=>dF V.aN λx64=>dF V.aN λx65=>dF V.aN λx66=>dF V.aN λx67=>dF V.aN λx68=>dF V.aN λx69=>dF V.aN λx70=>dF V.aN λx71=>dF (V.eF .ig o) λx72=>dF (V.eF .Event o) λx73=>dF (V.eF .sW o) λx74=>dE ⟨⟨⟨C,D,E,F⟩,⟨I,L,O,T,U,Y,Z,uA,uB,uC,uD,uE,uF,En,Eo,Ep,OJ⟩,⟨OL,OM⟩,ON,OO,OP,⟨OQ,OR⟩⟩,⟨⟨x28,x29,x30,x31,x32,x33,⟨x34,x35⟩⟩,⟨x36,x37,x38,x39,x40,x41,⟨x42,x43⟩⟩,x44⟩,x45,⟨x46,x47⟩,⟨x48,x49⟩,⟨x50,x51,x52⟩,⟨x53,x54⟩,⟨x55,x56,x57⟩,x58,x59,x60,x61,x62,⟨x63,x64,x65⟩,⟨x66,x67,x68⟩,⟨x69,x70,x71⟩,x72,x73,x74⟩
def dec:(t:TC)->(o:Nat)->aa V->ah (T t)
 |.int,_=>dF V.aN dE
 |.u8,_=>dF V.OH dE
 |.bool,_=>dF V.mg dE
 |.str,_=>dF V.OI dE
 |.gj,o=>dF V.aN λC=>dF V.aN λD=>dF V.aN λE=>dF V.aN λF=>dE ⟨C,D,E,F⟩
 |.Addr,o=>Vz o
 |.rq,o=>dF V.aN λC=>dF V.mg λD=>dE ⟨C,D⟩
 |.Command,o=>VA o
 |.kD,o=>dF V.aN λC=>dF V.aN λD=>dF V.aN λE=>dF V.aN λF=>dF V.aN λI=>dF V.aN λL=>dF V.aN λO=>dF V.aN λU=>dF V.aN λY=>dF V.aN λZ=>dF V.aN λzf=>dF V.aN λuA=>dF V.aN λuB=>dF V.aN λuC=>dF V.aN λuD=>dF V.aN λuE=>dF V.aN λuF=>dE ⟨C,D,E,F,I,L,O,U,Y,Z,zf,uA,uB,uC,uD,uE,uF⟩
 |.me,o=>dF V.mg λC=>dF V.aN λD=>dE ⟨C,D⟩
 |.jQ,o=>dF (V.eF .me o) λC=>dF V.aN λD=>dE ⟨C,D⟩
 |.Event,o=>dF V.aN λC=>dF V.aN λD=>dF V.aN λE=>dF V.aN λF=>dF V.aN λI=>dE ⟨C,⟨D,E,F,I⟩⟩
 |.nB,o=>dF (V.eF .int o) λC=>dF (V.eF .int o) λD=>dE ⟨C,D⟩
 |.Cell,o=>dF (V.eF .int o) λC=>dF V.mg λD=>dE ⟨C,D⟩
 |.Array,o=>dF (V.eF .Cell o) λC=>dF (V.eF .int o) λD=>dF (V.eF .int o) λE=>dE ⟨C,D,E⟩
 |.ru,o=>dF V.aN λC=>dF V.aN λD=>dE ⟨C,D⟩
 |.jR,o=>dF (V.eF .int o) λC=>dF (V.eF .int o) λD=>dF V.aN λE=>dE ⟨C,D,E⟩
 |.nD,o=>dF V.aN λC=>dF (V.eF .int o) λD=>dE ⟨C,D⟩
 |.kE,o=>dF (V.eF .int o) λC=>dF V.aN λD=>dF V.mg λE=>dE ⟨C,D,E⟩
 |.eI,o=>VB o
 |.gx,o=>dF V.aN λC=>dF V.aN λD=>dE ⟨C,D⟩
 |.qf,o=>dF V.mg λC=>dF V.aN λD=>dF V.aN λE=>dE ⟨C,D,E⟩
 |.Power,o=>dF V.aN λC=>dF V.aN λD=>dF V.aN λE=>dE ⟨C,D,E⟩
 |.sU,o=>dF V.aN λC=>dF V.aN λD=>dE ⟨C,D⟩
 |.ig,o=>dF V.aN λC=>dF V.aN λD=>dF V.aN λE=>dE ⟨C,D,E⟩
 |.sV,o=>dF V.aN λC=>dF V.aN λD=>dF V.aN λE=>dE ⟨C,D,E⟩
 |.kF,o=>dF V.aN λC=>dF V.aN λD=>dF V.aN λE=>dF V.aN λF=>dF V.aN λI=>dF (V.eF .int o) λL=>dF V.aN λO=>dF V.aN λU=>dE ⟨C,D,E,F,I,L,⟨O,U⟩⟩
 |.qg,o=>dF V.aN λC=>dF V.aN λD=>dF V.aN λE=>dF V.aN λF=>dF V.aN λI=>dF (V.eF .int o) λL=>dF V.aN λO=>dF V.aN λU=>dF V.aN λY=>dF V.aN λZ=>dF V.aN λzf=>dF V.aN λuA=>dF V.aN λuB=>dF (V.eF .int o) λuC=>dF V.aN λuD=>dF V.aN λuE=>dF V.mg λuF=>dE ⟨⟨C,D,E,F,I,L,⟨O,U⟩⟩,⟨Y,Z,zf,uA,uB,uC,⟨uD,uE⟩⟩,uF⟩
 |.Config,o=>dF V.aN λC=>dF V.aN λD=>dF V.aN λE=>dF V.aN λF=>dF V.aN λI=>dF V.aN λL=>dF V.aN λO=>dF V.aN λU=>dF V.aN λY=>dF V.aN λZ=>dF V.aN λzf=>dF V.aN λuA=>dF V.aN λuB=>dF V.aN λuC=>dF V.aN λuD=>dF V.aN λuE=>dF V.aN λuF=>dF V.aN λEn=>dF V.aN λEo=>dF V.aN λEp=>dF V.aN λOJ=>dF V.aN λOL=>dF V.mg λOM=>dF V.aN λON=>dF V.aN λOO=>dF V.aN λOP=>dF V.aN λOQ=>dF V.aN λOR=>dE ⟨⟨C,D,E,F⟩,⟨I,L,O,U,Y,Z,zf,uA,uB,uC,uD,uE,uF,En,Eo,Ep,OJ⟩,⟨OL,OM⟩,ON,OO,OP,⟨OQ,OR⟩⟩
 |.sW,o=>dF V.aN λC=>dF V.aN λD=>dF V.aN λE=>dF V.aN λF=>dE ⟨C,D,E,F⟩
 |.cX,o=>VC o
 |.Act,o=>dF V.aN λC=>dF V.aN λD=>dF V.aN λE=>dF V.aN λF=>dF V.mg λI=>dF V.aN λL=>dF V.aN λO=>dF V.aN λU=>dF V.aN λY=>dF V.aN λZ=>dF V.aN λzf=>dF V.aN λuA=>dF V.aN λuB=>dF V.aN λuC=>dF V.aN λuD=>dF V.aN λuE=>dF V.aN λuF=>dF (V.eF .int o) λEn=>dF V.aN λEo=>dF V.aN λEp=>dE ⟨C,⟨D,E,F,I,L,O⟩,U,Y,⟨Z,zf,uA⟩,⟨uB,uC,uD,uE,uF,En,⟨Eo,Ep⟩⟩⟩
 |.qh,o=>dF (V.eF .u8 o) λC=>dF V.aN λD=>dF V.aN λE=>dE ⟨C,D,E⟩
 |.sl t,o=>dF (V.eF t o) dE
 |.jS,o=>dF (V.dM true) λ_=>VC o
 |.Ei g,o=>dF (V.dM false) λ_=>dF (V.BO g) λ_=>dF V.aN dE
 |.Ej g,o=>dF (V.dM false) λ_=>dF (V.BO g) λ_=>VB o
 |.El g,o=>dF (V.dM false) λ_=>dF (V.BO g) λ_=>Vz o
 |.fnCommand g,o=>dF (V.dM false) λ_=>dF (V.BO g) λ_=>VA o
def VD:TC->Nat->aa V
 |.cX,o=>BN ⟨⟨⟨0,0,0,0⟩,⟨0,0,0,0,0,0,0,0,0,0,0,0,0,0,0,0,0⟩,⟨0,false⟩,0,0,0,⟨0,0⟩⟩,⟨⟨0,0,0,0,0,[],⟨0,0⟩⟩,⟨0,0,0,0,0,[],⟨0,0⟩⟩,false⟩,0,⟨[],0⟩,⟨[],[]⟩,⟨[],[],[]⟩,⟨0,[]⟩,⟨[],0,false⟩,[],[],[],[],[],⟨false,0,0⟩,⟨0,0,0⟩,⟨0,0,0⟩,[],[],[]⟩ o
 |_,_=>[]
def jT(t:TC)(o:Nat)(x:T t):(enc t o x).length=aA t:=by cases t<;>rfl
def mh(t:TC):0<aA t:=by cases t<;>simp[aA]
def agC(t:TC)(o:Nat):DQ (enc t o) id (dec t o):=by
 cases t<;>dsimp only[dec]<;>(repeat' first|exact agz rfl|refine ze V.agv λ_=>?_|refine ze V.agx λ_=>?_|refine ze V.Em λ_=>?_|refine ze V.agy λ_=>?_|refine ze V.agw λ_=>?_|refine ze V.agA λ_=>?_|refine ze V.agB λ_=>?_)
def jU(t:TC)(o:Nat)(cs:aa V)(x:T t)(h:dec t o cs=some x):jx cs (enc t o x):=by
 obtain⟨L,C,D⟩:=agC t o cs x h;rw[C];exact D
def V.low(n:Nat):V->Bool
 |.sl t _ _ _=>Nat.ble (full t+2) n
 |_=>true
def Jx(t:TC)(o:Nat)(x:T t):∀ y∈enc t o x,y.low (full t)=true:=by
 cases t<;>simp[enc,V.low,full,BI,BJ,BM,BN]
def V.plain:V->Bool
 |.int _ _|.bool _|.str _=>true
 |_=>false
def wM(t:TC)(o:Nat)(x:T t)(h:full t=0):∀ y∈enc t o x,y.plain=true:=by
 cases t<;>first|(simp[full]at h;done)|simp[enc,V.plain,BI,BJ,BM]
def V.iW:V->Bool
 |.nil=>false
 |_=>true
def OS(t:TC)(o:Nat)(x:T t):∀ y∈enc t o x,y.iW=true:=by
 cases t<;>simp[enc,V.iW,BI,BJ,BM,BN]
def tcs:aa TC:=[.int,.u8,.bool,.str,.sl .int,.sl .bool,.sl .str,.gj,.Addr,.rq,.Command,.kD,.me,.jQ,.Event,.nB,.Cell,.Array,.ru,.jR,.nD,.kE,.eI,.gx,.qf,.Power,.sU,.ig,.sV,.kF,.qg,.Config,.sW,.cX,.Act,.qh]
def VE(e:TypeId):ah TC:=tcs.find? λt=>Nat.beq (tid t) e
def agD{e:TypeId}{t:TC}(h:VE e=some t):tid t=e:=cv (List.find?_some (p:=λt=>Nat.beq (tid t) e) h)
def V.gr(o:Nat):V->Bool
 |.sl _ C _ _=>C==o
 |_=>true
def wN(t:TC)(o:Nat)(x:T t):∀ y∈enc t o x,y.gr o=true:=by
 cases t<;>simp[enc,V.gr,BI,BJ,BM,BN]
def V.aF:V->Bool
 |.sl _ o _ _=>decide (o<2)
 |_=>true
def V.fJ:V->V
 |.sl t _ q l=>.sl t 0 q l
 |x=>x
def agE(t:TC)(o:Nat)(x y:T t):(enc t o x).map (λv=>(v.plain,v.aF))=(enc t o y).map (λv=>(v.plain,v.aF)):=by cases t<;>rfl
def V.agF(x:V):x.fJ.aF=true:=by cases x<;>simp[V.fJ,V.aF]
def oh(t:TC)(o:Nat)(x:T t)(C:o<2)(j:Nat)(y:V)(h:(enc t o x)[j]?=some y):y.aF=true:=by
 have:=wN t o x y (fP h);cases y<;>simp_all [V.gr,V.aF]
def VF(t:TC)(o:Nat)(x:T t):enc t 0 x=(enc t o x).map V.fJ:=by cases t<;>rfl
def uG(t:TC)(o:Nat)(x:T t)(j:Nat)(y:V)(h:(enc t 0 x)[j]?=some y):∃ z,(enc t o x)[j]?=some z/\y=z.fJ:=by
 rw[VF t o x,dI]at h
 grind
def inner:Nat->Nat
 |0=>0
 |1=>1
 |n+2=>n
abbrev bg:=Nat->ah (aa Nat)
inductive RV (w:World) (B:Nat) (lab:bg):List Nat->V->Value->Prop
 |int (q:List Nat) (k:IntKind) (n:Int):RV w B lab q (.int k n) (.int k n)
 |bool (q:List Nat) (b:Bool):RV w B lab q (.bool b) (.bool b)
 |str (q:List Nat) (s:ByteArray):RV w B lab q (.str s) (.string s)
 |nil (q:List Nat):RV w B lab q .nil (.slice none 0 0)
 |dN (q:List Nat) (t:TC) (o:Nat):RV w B lab q (.sl t o false []) (.slice none 0 0)
 |eX (q:List Nat) (t:TC) (o:Nat) (A:Addr) (c:Nat) (ho:o<2):RV w B lab q (.sl t o false []) (.slice (some A) 0 c)
 |fB (q:List Nat) (t:TC) (o:Nat) (A:Addr) (c:Nat) (ho:o<2):RV w B lab q (.sl t o true []) (.slice (some A) 0 c)
 | aF (q:List Nat) (t:TC) (o:Nat) (qn:Bool) (l:List (T t)) (b off cap:Nat) (u:Nat->Nat->Value) (ho:o<2) (hl:lab b=none) (hb:b<w.heap.size) (h1:o=1->B<=b) (hcap:l.length<=cap)
   (hc:∀i (h:i<l.length) j x,(enc t o l[i])[j]?=some x->w.cell? ⟨b,off+(i*aA t+j),none⟩=some (u i j))
   (hr:∀i (h:i<l.length) j x,(enc t o l[i])[j]?=some x->RV w B lab [] x (u i j)):RV w B lab q (.sl t o qn l) (.slice (some ⟨b,off,none⟩) l.length cap)
 | own (q:List Nat) (t:TC) (o:Nat) (qn:Bool) (l:List (T t)) (b cap:Nat) (cs:Array Value) (u:Nat->Nat->Value) (hl:lab b=some q) (hh:w.heap[b]?=some (.cells cs (tid t) (0,0)))
   (hs:cs.size=cap*aA t) (hn:l.length<=cap) (hm:cap<=maxLen/\(qn=true->cap=l.length))
   (hc:∀i (h:i<l.length) j x,(enc t o l[i])[j]?=some x->cs[i*aA t+j]?=some (u i j))
   (hr:∀i (h:i<l.length) j x,(enc t o l[i])[j]?=some x->RV w B lab (j::i::aA t::q) x (u i j)):RV w B lab q (.sl t (o+2) qn l) (.slice (some ⟨b,0,none⟩) l.length cap)
section
variable {w w':World} {B:Nat} {lab ax:bg}
def V.Er(n:Nat):V->V
 |.sl t _ q l=>.sl t n q l
 |x=>x
def agG(t:TC)(o n:Nat)(x:T t):enc t n x=(enc t o x).map (V.Er n):=by cases t<;>rfl
def V.fu(n:Nat):V->Prop
 |.sl t o _ _=>full t+2<=o/\full t+2<=n
 |_=>True
def RV.Er{q:aa Nat}{x:V}{v:Value}(h:RV w B lab q x v):∀ n,x.fu n -> RV w B lab q (x.Er n) v:=by
 induction h with
 |int=>exact λ_ _=>.int _ _ _
 |bool=>exact λ_ _=>.bool _ _
 |str=>exact λ_ _=>.str _ _
 |nil=>exact λ_ _=>.nil _
 |dN=>exact λ_ _=>.dN _ _ _
 |eX q t o A c F=>exact λn C=>by have:=C.1;omega
 |fB q t o A c F=>exact λn C=>by have:=C.1;omega
 |aF q t o I l b off cap u F hl hb L hcap O T U=>exact λn C=>by have:=C.1;omega
 | own q t o I l b cap cs u hl Y Z C hm O T U=>
  intro n hf;obtain⟨L,h2⟩:=hf;obtain⟨m,rfl⟩:∃m,n=m+2:=⟨n-2,by omega⟩
  have key:∀ (i:Nat) (h:i<l.length) (j:Nat) (x:V),(enc t m l[i])[j]?=some x -> ∃ y:V,(enc t o l[i])[j]?=some y/\y.Er m=x/\y.fu m:=by
   intro i h j x D;rw[agG t o m l[i],dI]at D;cases E:(enc t o l[i])[j]? with
   |none=>simp_all
   | some y=>
    rw[E]at D;injection D with D;refine⟨y,rfl,D,?_⟩;have g1:=wN t o l[i] y (fP E);have g2:=Jx t o l[i] y (fP E);cases y with
    | sl t' o' q' l'=>
     have e:o'=o:=by simpa [V.gr]using g1
     have:=cr (show Nat.ble _ _=true from g2);exact⟨by omega,by omega⟩
    |_=>trivial
  refine .own _ _ _ _ _ _ _ cs u hl Y Z C hm (λi h j x D=>?_) (λi h j x D=>?_)
  ·grind
  ·grind
def RV.wk{q:aa Nat}{x y:V}{v:Value}(h:RV w B lab q x v)(k:Wk x y):RV w B lab q y v:=by
 cases k with
 |same=>exact h
 |nil t o=>cases h;exact .dN _ _ _
 | gr t o o' F l I Z=>
  have h:=h.Er o ⟨Z,I⟩;cases h with
  |dN=>exact .dN _ _ _
  |eX q t o A c C=>grind
  |fB q t o A c C=>grind
  |aF q t o F l b off cap u C hl hb I Y D E=>grind
  |own q t o F l b cap cs u hl L O T U D E=>exact .own _ _ _ _ _ _ _ cs u hl L O T ⟨U.1,λh=>by cases h⟩ D E
 | q t o l=>
  cases h with
  |fB q t o A c C=>exact .eX _ _ _ _ _ C
  |aF q t o F l b off cap u C hl hb I Y D E=>exact .aF _ _ _ _ _ _ _ _ u C hl hb I Y D E
  |own q t o F l b cap cs u hl L O T U D E=>exact .own _ _ _ _ _ _ _ cs u hl L O T ⟨U.1,λh=>by cases h⟩ D E
def RV.map{Q:aa Nat->aa Nat->Prop}(U:w.heap.size<=w'.heap.size)(Y:∀ b,b<w.heap.size->lab b=none->w'.heap[b]?=w.heap[b]?/\ax b=none)
  (Z:∀b q C,b<w.heap.size->lab b=some q->Q q C->w'.heap[b]?=w.heap[b]?/\ax b=some C/\∀j i s,Q (j::i::s::q) (j::i::s::C)) {q C:aa Nat} {x:V} {v:Value} (h:RV w B lab q x v) (hq:x.aF=true\/Q q C):RV w' B ax C x v:=by
 induction h generalizing C with
 |int=>exact .int _ _ _
 |bool=>exact .bool _ _
 |str=>exact .str _ _
 |nil=>exact .nil _
 |dN=>exact .dN _ _ _
 |eX _ _ _ _ _ D=>exact .eX _ _ _ _ _ D
 |fB _ _ _ _ _ D=>exact .fB _ _ _ _ _ D
 | aF q t o qn l b off cap u D hl hb h1' hcap F hr I=>
  obtain⟨L,O⟩:=Y b hb hl;exact .aF _ _ _ _ _ _ _ _ u D O (Nat.lt_of_lt_of_le hb U) h1' hcap (λi h j x E=>(World.cell?_of_block (a:=⟨b,_,none⟩) L).trans (F i h j x E)) (λi h j x E=>I i h j x E (.inl (oh t o l[i] D j x E)))
 | own q t o qn l b cap cs u hl T hs hn hm F hr I=>
  obtain⟨L,O,e3⟩:=Z b q C (gD.1 T).1 hl (hq.resolve_left (by simp[V.aF]));exact .own _ _ _ _ _ _ _ cs u O (L.trans T) hs hn hm F (λi h j x E=>I i h j x E (.inr (e3 _ _ _)))
def RV.VG{q C:aa Nat}{x:V}{v:Value}(h:RV w B lab q x v)(D:x.aF=true)(hl:∀ b,lab b=none->ax b=none):RV w B ax C x v:=
 h.map (Q:=λ_ _=>False) (c9 _) (λb _ h=>⟨rfl,hl b h⟩) (λ_ _ _ _ _ h=>h.elim) (.inl D)
def RV.Jy{q:aa Nat}{x:V}{v:Value}(h:RV w B lab q x v)(C:x.aF=true)(hl:∀b,lab b=none->ax b=none):RV w B ax q x v:=h.VG C hl
def RV.key{q C:aa Nat}{x:V}{v:Value}(h:RV w B lab q x v)(D:x.aF=true):RV w B lab C x v:=h.VG D λ_ h=>h
def jy:Value->Bool
 |.slice ..=>true
 |_=>false
def RV.OT{q:aa Nat}{x:V}{u:Value}(h:RV w B lab q x u)(C:x.aF=false):jy u=true:=by
 cases h<;>first|rfl|cases C
def RV.one{q:aa Nat}{x:V}{u:Value}(h:RV w B lab q x u):u.oneCell'=true:=by
 cases h<;>rfl
def RV.jz{q:aa Nat}{x:V}{v:Value}(h:RV w B lab q x v)(D:w.heap.size<=w'.heap.size)(C:∀ b,b<w.heap.size->w'.heap[b]?=w.heap[b]?/\ax b=lab b):RV w' B ax q x v:=
 h.map (Q:=Eq) D (λb hb hl=>⟨(C b hb).1,(C b hb).2.trans hl⟩) (λb q E hb hl e=>by subst e;exact⟨(C b hb).1,(C b hb).2.trans hl,λ_ _ _=>rfl⟩) (.inr rfl)
def RV.apart{q kt:aa Nat}{x:V}{v:Value}{bt:Nat}(h:RV w B lab q x v)(C:lab bt=some kt)(F:¬ q <:+ kt\/x.aF=true)(I:w.heap.size<=w'.heap.size)(D:∀ b,b≠bt->w'.heap[b]?=w.heap[b]?):RV w' B lab q x v:=
 h.map (Q:=λq E=>q=E/\¬ q <:+ kt) I (λb _ hl=>⟨D b (by rintro rfl;rw[hl]at C;cases C),hl⟩) (λb q E _ hl e=>by
  obtain⟨rfl,e⟩:=e;exact⟨D b (by rintro rfl;rw[hl]at C;injection C with C;subst C;exact e (List.suffix_refl _)),hl,λj i s=>⟨rfl,λL=>e (List.IsSuffix.trans ⟨[j,i,s],rfl⟩ L)⟩⟩) (F.symm.imp_right λh=>⟨rfl,h⟩)
def RV.fJ{q E:aa Nat}{x:V}{v:Value}(h:RV w B lab q x v){B':Nat}:RV w B' (λ_=>none) E x.fJ v:=by
 induction h generalizing E with
 |int=>exact .int _ _ _
 |bool=>exact .bool _ _
 |str=>exact .str _ _
 |nil=>exact .nil _
 |dN=>exact .dN _ _ _
 |eX=>exact .eX _ _ _ _ _ (by first|assumption|omega)
 |fB=>exact .fB _ _ _ _ _ (by first|assumption|omega)
 | aF q t o L l b off cap u Z hl hb h1 O F T U=>
  refine .aF _ _ _ _ _ _ _ _ u (by omega) rfl hb (by omega) O (λi h j x C=>?_) (λi h j x C=>?_)
  ·obtain⟨y,D,_⟩:=uG t o l[i] j x C;simp_all
  ·obtain⟨y,D,rfl⟩:=uG t o l[i] j x C;simp_all
 | own q t o L l b cap cs u hl I hs Y hm F T U=>
  refine .aF _ _ _ _ _ _ _ _ u (by omega) rfl (gD.1 I).1 (by omega) Y (λi h j x C=>?_) (λi h j x C=>?_)
  ·obtain⟨y,D,_⟩:=uG t o l[i] j x C;have:=F i h j y D;rw[eS,cell_of_row w b _ cs _ _ I];exact this
  ·obtain⟨y,D,rfl⟩:=uG t o l[i] j x C;simp_all
end
set_option linter.unusedVariables false
inductive Lf where
 |v (x:V)
 |own (k:List Nat)
 |dead
inductive A where
 |undef
 |skip
 |lf (x:Lf)
 |agg (cs:List Lf)
 |ez (xs:List (Bool×List Lf))
 |ptr (k:List Nat)
 |aI (r j:Nat)
 |ij (cs:List V)
 |lN (f:Nat) (cs:List V)
 |pk (r n:Nat)
 |view (k:List Nat) (s i j:Nat)
 |fn (f:Nat) (cap:List (Nat×Nat))
inductive aM where
 |blk (cs:List Lf)
 |sl (y:V)
 |mp (l:List (Int×Bool))
 |gh (xs:List A)
structure S where
 t:Nat->A
 m:Nat->Option aM
inductive Loc where
 |blk (b off:Nat)
 |cO (v:Value)
 |bB (us:List Value)
def addrAt(w:World)(lab:bg)(ρ:Nat->Loc):aa Nat->ah Addr
 | j :: i :: s :: [r]=>match ρ r with
  |.cO (.slice (some ⟨b,0,none⟩) _ _)=>if lab b=some [r]then some ⟨b,i*s+j,none⟩else none
  |_=>none
 | j :: i :: s :: q=>match (addrAt w lab ρ q).bind w.cell? with
  |some (.slice (some ⟨b,0,none⟩) _ _)=>if lab b=some q then some ⟨b,i*s+j,none⟩else none
  |_=>none
 |_=>none
def cC(w:World)(lab:bg)(ρ:Nat->Loc):aa Nat->ah Value
 | [r]=>match ρ r with
  |.cO v=>some v
  |_=>none
 |q=>(addrAt w lab ρ q).bind w.cell?
def di(w:World)(B:Nat)(lab:bg)(ρ:Nat->Loc):Lf->Value->Prop
 |.v x,u=>x.aF=true/\RV w B lab [] x u
 |.own k,u=>jy u=true/\cC w lab ρ k=some u
 |.dead,_=>True
def dR(w:World)(B:Nat)(lab:bg)(ρ:Nat->Loc)(cs:aa Lf)(us:Array Value):Prop:=
 us.size=cs.length/\∀(j:Nat) x,cs[j]?=some x->∃u,us[j]?=some u/\di w B lab ρ x u
def RP(w:World)(B:Nat)(lab:bg)(ρ:Nat->Loc)(p:Bool×aa Lf)(u:Value):Prop:=
 match p with
 |(true,cs)=>∃us,u = .agg us/\dR w B lab ρ cs us
 |(false,cs)=>dR w B lab ρ cs #[u]
def oV:Nat:=4294967296
def Jz(b n:Nat):Value:=bif Nat.beq n oV then .map (some b)else .slice (some ⟨b,0,none⟩) n n
def OU{b n:Nat}(h:n<oV):Jz b n = .slice (some ⟨b,0,none⟩) n n:=by
 unfold Jz;cases hb:Nat.beq n oV with
 |true=>simp_all
 |false=>rfl
def OV(b:Nat):Jz b oV = .map (some b):=rfl
def RF(w:World)(B:Nat)(lab:bg)(cs:aa V)(u:Value):Prop:=
 ∃b off,u = .pointer (some ⟨b,off,none⟩)/\b<w.heap.size/\lab b=none/\∀(j:Nat) x,cs[j]?=some x->x.aF=true/\∃v,w.cell? ⟨b,off+j,none⟩=some v/\RV w B lab [] x v
def RA(w:World)(B:Nat)(lab:bg)(ρ:Nat->Loc):A->Value->Prop
 |.undef,_=>True
 |.skip,u=>u=Go.undef
 |.lf x,u=>di w B lab ρ x u
 |.agg cs,u=>RP w B lab ρ (true,cs) u
 |.ez xs,u=>∃us:Array Value,u = .tuple us/\us.size=xs.length/\∀(j:Nat) p,xs[j]?=some p->∃v,us[j]?=some v/\RP w B lab ρ p v
 |.ptr k,u=>∃ad,u = .pointer (some ad)/\addrAt w lab ρ k=some ad
 |.aI r j,u=>∃b off,ρ r = .blk b off/\u = .pointer (some ⟨b,off+j,none⟩)
 |.ij cs,u=>RF w B lab cs u
 |.lN f cs,u=>∃pv,u = .func (.func f) #[] #[pv]/\RF w B lab cs pv
 |.pk r n,u=>∃b,ρ r = .blk b 0/\u=Jz b n
 |.view k s i j,u=>∃A n c,cC w lab ρ k=some (.slice A n c)/\i<=j/\j<=n/\u=sliced A i j c s
 |.fn f cap,u=>∃C:Array Value,u = .func (.func f) #[] C/\C.size=cap.length/\∀(j:Nat) p,cap[j]?=some p->∃b off,ρ p.1 = .blk b off/\C[j]?=some (.pointer (some ⟨b,off+p.2,none⟩))
inductive dz (w:World) (B:Nat) (lab:bg) (ρ:Nat->Loc) (r:Nat):aM->Prop
 | blk (b off:Nat) (cells:Array Value) (e:TypeId) (cs:List Lf) (us:Nat->Value) (cD:ρ r = .blk b off) (hl:lab b=some [r]) (hh:w.heap[b]?=some (.cells cells e (0,0))) (hs:off+cs.length<=cells.size)
   (hc:∀(j:Nat) x,cs[j]?=some x->cells[off+j]?=some (us j)/\di w B lab ρ x (us j)):dz w B lab ρ r (.blk cs)
 |sl (v:Value) (y:V) (cD:ρ r = .cO v) (hr:RV w B lab [r] y v):dz w B lab ρ r (.sl y)
 |mp (b clock:Nat) (es:Array MapEntry) (l:List (Int×Bool)) (cD:ρ r = .blk b 0) (hl:lab b=some [r]) (hh:w.heap[b]?=some (.map es clock)) (he:es.toList.map (λe=>(e.key,e.val))=l.map λp=>(.int .i64 p.1,.bool p.2)):dz w B lab ρ r (.mp l)
 |gh (us:List Value) (xs:List A) (cD:ρ r = .bB us) (hx:∀(j:Nat) x,xs[j]?=some x->RA w B lab ρ x (us.getD j undef)):dz w B lab ρ r (.gh xs)
def Qw(w:World):Prop:=Lib.TabIs Tryz.prog w "internal/strconv.uint64pow10" .u64 Lib.pow10Tab
def Qw.tab{w:World}(h:Qw w):Lib.TabIs Tryz.prog w "internal/strconv.uint64pow10" .u64 Lib.pow10Tab:=h
structure agH (n:Nat) (L:bg) (w w':World):Prop where
 os:w'.os=w.os
 tape:w'.tape=w.tape
 output:w'.output=w.output
 size:w.heap.size<=w'.heap.size
 block:∀k,k<n->L k=none->w'.heap[k]?=w.heap[k]?
def Hd(w:World)(L:bg):Prop:=∀w',agH w.heap.size L w w'->Qw w'
def agI{w:World}(h:Qw w):Hd w λ_=>none:=λw' hb=>Lib.tabBelow_of_tabIs h w' ⟨hb.os,hb.tape,hb.output,hb.size,λk C=>hb.block k C rfl⟩
def Hd.here{w:World}{L:bg}(h:Hd w L):Qw w:=h w ⟨rfl,rfl,rfl,c9 _,λ_ _ _=>rfl⟩
structure Wd where
 w:World
 L:bg
 F:Nat->Option Loc
 held:Hd w L
 low:∀r,r<20000->F r=none
def Wd.heap(d:Wd):Array Obj:=d.w.heap
def Wd.of(w:World)(h:Hd w λ_=>none):Wd:=⟨w,λ_=>none,λ_=>none,h,λ_ _=>rfl⟩
structure gQ (d:Wd) (w w':World):Prop where
 os:w'.os=w.os
 tape:w'.tape=w.tape
 output:w'.output=w.output
 size:w.heap.size<=w'.heap.size
 block:∀k,k<d.heap.size->d.L k=none->w'.heap[k]?=w.heap[k]?
def gQ.trans{d:Wd}{a b c:World}(h:gQ d a b)(k:gQ d b c):gQ d a c:=
 ⟨k.os.trans h.os,k.tape.trans h.tape,k.output.trans h.output,Nat.le_trans h.size k.size,λi hi hl=>(k.block i hi hl).trans (h.block i hi hl)⟩
def Wd.on(d:Wd){w:World}(h:gQ d d.w w){L:bg}(D:∀ b k,L b=some k->d.heap.size<=b\/d.L b≠none):Hd w L:=λw' hb=>
 d.held w' ⟨hb.os.trans h.os,hb.tape.trans h.tape,hb.output.trans h.output,Nat.le_trans h.size hb.size,λk C hl=>by
  have e:L k=none:=by
   cases e:L k with
   |none=>rfl
   | some q=>
    rcases D k q e with h1|h1
    ·exact absurd C (Nat.not_lt.2 h1)
    ·exact absurd hl h1
  exact(hb.block k (Nat.lt_of_lt_of_le C h.size) e).trans (h.block k C hl)⟩
def gQ.of{d:Wd}{a b:World}{B:Nat}(h:Below B a b)(hB:d.heap.size<=B):gQ d a b:=
 ⟨h.os,h.tape,h.output,h.size,λi hi _=>h.block i (Nat.lt_of_lt_of_le hi hB)⟩
structure Rl (w0:Wd) (N:Nat) (lab:bg) (ρ:Nat->Loc) (σ:S) (a:Act) (w:World):Prop where
 below:gQ w0 w0.w w
 cE:∀b k,lab b=some k->(w0.heap.size<=b\/w0.L b≠none)/\b<w.heap.size/\k≠[]
 root:∀r x,σ.m r=some x->dz w w0.heap.size lab ρ r x
 tmp:∀k,RA w w0.heap.size lab ρ (σ.t k) (a.tmps.getD k undef)
 size:a.tmps.size=N
 defers:a.defers=[]
 fix:∀r l,w0.F r=some l->ρ r=l
 cY:∀r,(r<N\/60000<=r)->w0.F r=none
def R(w0:Wd)(N:Nat)(σ:S)(a:Act)(w:World):Prop:=∃lab ρ,Rl w0 N lab ρ σ a w
/-! Reading along a key. -/
inductive uH (m:Nat->Option aM):List Nat->V->Prop
 |root (r:Nat) (y:V) (h:m r=some (.sl y)):uH m [r] y
 |elem (j i:Nat) (q:List Nat) (t:TC) (o:Nat) (qn:Bool) (l:List (T t)) (y:V) (h:uH m q (.sl t (o+2) qn l)) (hi:i<l.length) (hy:(enc t o l[i])[j]?=some y):uH m (j::i::aA t::q) y
section
variable {w w':World} {w0:Wd} {B N:Nat} {lab ax:bg} {ρ ρ':Nat->Loc} {m:Nat->ah aM} {σ:S} {a:Act}
def zg{q:aa Nat}(j i s:Nat){b n c:Nat}(h:cC w lab ρ q=some (.slice (some ⟨b,0,none⟩) n c))(hl:lab b=some q):addrAt w lab ρ (j :: i :: s :: q)=some ⟨b,i*s+j,none⟩:=by
 match q,h,hl with
 | [r],h,hl=>
  simp[cC]at h;simp[addrAt]
  grind
 | x :: y :: q,h,hl=>
  simp[cC]at h;simp[addrAt,h,hl,if_true]
def JA{j i s:Nat}{q:aa Nat}:cC w lab ρ (j::i::s::q)=(addrAt w lab ρ (j::i::s::q)).bind w.cell?:=rfl
def uH.ok{k:aa Nat}{y:V}(h:uH m k y)(D:∀ r x,m r=some x -> dz w B lab ρ r x):∃ u,cC w lab ρ k=some u/\RV w B lab k y u:=by
 induction h with
 | root r y h=>
  cases D _ _ h with
  |sl v y E C=>exact⟨v,by simp[cC,E],C⟩
 | elem j i q t o T l y h hi F I=>
  obtain⟨u,L,C⟩:=I;cases C with
  |dN=>simp at hi
  |eX=>simp at hi
  |fB=>simp at hi
  |aF _ _ _ _ _ _ _ _ _ U=>omega
  | own _ _ _ _ _ b cap cs us hl O Y Z D hc C=>
   refine⟨us i j,?_,C i hi j y F⟩;rw[JA,zg j i _ L hl];show w.cell? _=_;rw[cell_of_row w b _ cs _ _ O];simp_all
def zh:∀ (k:aa Nat) (ad:Addr),addrAt w lab ρ k=some ad -> ∃ j i s q,k=j :: i :: s :: q/\lab ad.block=some q/\ad.off=i*s+j/\ad.spot=none/\(∀ r,q=[r] -> ∃ v,ρ r = .cO v)
 |[],_,h=>by simp[addrAt]at h
 | [j,i,s,r],ad,h=>by
  simp only[addrAt]at h
  grind
 | j :: i :: s :: x :: y :: q,ad,h=>by
  simp only[addrAt]at h
  grind
/-! What is forgotten: keys of leaves,of addresses,roots. -/
structure lO where
 l:List Nat->Bool
 p:List Nat->Bool
 r:Nat->Bool
def Lf.cm(f:aa Nat->Bool):Lf->Lf
 |.own k=>bif f k then .dead else .own k
 |x=>x
def A.cm(K:lO):A->A
 |.lf x=>.lf (x.cm K.l)
 |.agg cs=>.agg (cs.map (Lf.cm K.l))
 |.ez xs=>.ez (xs.map λp=>(p.1,p.2.map (Lf.cm K.l)))
 |.ptr k=>bif K.p k then .undef else .ptr k
 |.aI r j=>bif K.r r then .undef else .aI r j
 |.pk r n=>bif K.r r then .undef else .pk r n
 |.view k s i j=>bif K.p k then .undef else .view k s i j
 |.fn f cap=>bif cap.any (λp=>K.r p.1)then .undef else .fn f cap
 |x=>x
def aM.cm(K:lO):aM->aM
 |.blk cs=>.blk (cs.map (Lf.cm K.l))
 |.gh xs=>.gh (xs.map (A.cm K))
 |x=>x
/-! What names nothing that is forgotten. -/
def Lf.fr(f:aa Nat->Bool):Lf->Bool
 |.own k=>!f k
 |_=>true
def A.fr(K:lO):A->Bool
 |.lf x=>x.fr K.l
 |.agg cs=>cs.all (Lf.fr K.l)
 |.ez xs=>xs.all λq=>q.2.all (Lf.fr K.l)
 |.ptr k=>!K.p k
 |.aI r _=>!K.r r
 |.pk r _=>!K.r r
 |.view k _ _ _=>!K.p k
 |.fn _ cap=>cap.all λq=>!K.r q.1
 |_=>true
def Lf.nE{f:aa Nat->Bool}{x:Lf}(h:x.fr f=true):x.cm f=x:=by
 cases x with
 |own k=>simp only[Lf.cm,show f k=false by simpa [Lf.fr]using h,au]
 |_=>rfl
def oW.nE{f:aa Nat->Bool}{cs:aa Lf}(h:cs.all (Lf.fr f)=true):cs.map (Lf.cm f)=cs:=
 (nc λx C=>Lf.nE (bW.1 h x C)).trans (List.map_id cs)
def A.nE{K:lO}{x:A}(h:x.fr K=true):x.cm K=x:=by
 cases x with
 |lf x=>exact bu A.lf (Lf.nE h)
 |agg cs=>exact bu A.agg (oW.nE h)
 |ez xs=>exact bu A.ez ((nc λq C=>by rw[oW.nE (bW.1 h q C)];rfl).trans (List.map_id xs))
 |ptr k=>simp only[A.cm,show K.p k=false by simpa [A.fr]using h,au]
 |view k=>simp only[A.cm,show K.p k=false by simpa [A.fr]using h,au]
 |aI r=>simp only[A.cm,show K.r r=false by simpa [A.fr]using h,au]
 |pk r=>simp only[A.cm,show K.r r=false by simpa [A.fr]using h,au]
 |fn f cap=>simp only[A.cm,show (cap.any λp=>K.r p.1)=false from List.any_eq_false.2 λp D=>by simpa using bW.1 h p D,au]
 |_=>rfl
def Lf.qi{f g:aa Nat->Bool}(hl:∀ k,f k=true->g k=true){x:Lf}(h:x.fr g=true):x.fr f=true:=by
 cases x with
 | own k=>
  have h:(!g k)=true:=h;show (!f k)=true;cases C:f k with
  |false=>rfl
  |true=>rw[hl k C]at h;cases h
 |_=>rfl
def A.qi{K J:lO}(hl:∀ k,K.l k=true->J.l k=true)(F:∀ k,K.p k=true->J.p k=true)(I:∀ r,K.r r=true->J.r r=true){x:A}(h:x.fr J=true):x.fr K=true:=by
 have C:∀r,(!J.r r)=true->(!K.r r)=true:=λr h=>Lf.qi (x:=.own []) (f:=λ_=>K.r r) (λ_=>I r) h
 cases x with
 |lf x=>exact Lf.qi hl h
 |agg cs=>exact bW.2 λc D=>Lf.qi hl (bW.1 h c D)
 |ez xs=>exact bW.2 λq E=>bW.2 λc D=>Lf.qi hl (bW.1 (bW.1 h q E) c D)
 |ptr k=>exact Lf.qi (x:=.own k) F h
 |view k=>exact Lf.qi (x:=.own k) F h
 |aI r=>exact C r h
 |pk r=>exact C r h
 |fn f cap=>exact bW.2 λq E=>C _ (bW.1 h q E)
 |_=>rfl
def Lf.nG(x:Lf)(f g:aa Nat->Bool):(x.cm f).cm g=(x.cm g).cm f:=by
 cases x with
 |own k=>cases C:f k<;>cases D:g k<;>simp[Lf.cm,C,D]
 |_=>rfl
def oW.nG(cs:aa Lf)(f g:aa Nat->Bool):(cs.map (Lf.cm f)).map (Lf.cm g)=(cs.map (Lf.cm g)).map (Lf.cm f):=by
 rw[List.map_map,List.map_map];exact nc λx _=>Lf.nG x f g
def A.nG(x:A)(K J:lO):(x.cm K).cm J=(x.cm J).cm K:=by
 cases x with
 |lf x=>exact bu A.lf (Lf.nG x _ _)
 |agg cs=>exact bu A.agg (oW.nG cs _ _)
 | ez xs=>
  refine bu A.ez ?_;rw[List.map_map,List.map_map];exact nc λq _=>bu (Prod.mk q.1) (oW.nG q.2 _ _)
 |ptr k=>cases C:K.p k<;>cases D:J.p k<;>simp[A.cm,C,D]
 |view k=>cases C:K.p k<;>cases D:J.p k<;>simp[A.cm,C,D]
 |aI r=>cases C:K.r r<;>cases D:J.r r<;>simp[A.cm,C,D]
 |pk r=>cases C:K.r r<;>cases D:J.r r<;>simp[A.cm,C,D]
 |fn f cap=>cases C:(cap.any λp=>K.r p.1)<;>cases D:(cap.any λp=>J.r p.1)<;>simp only[A.cm,C,D,aj,au]
 |_=>rfl
def aM.nG(x:aM)(K J:lO):(x.cm K).cm J=(x.cm J).cm K:=by
 cases x with
 |blk cs=>exact bu aM.blk (oW.nG cs _ _)
 | gh xs=>
  refine bu aM.gh ?_;rw[List.map_map,List.map_map];exact nc λx _=>A.nG x K J
 |_=>rfl
def cF(d:Nat)(k:aa Nat):Bool:=k.getLast?==some d
def uI(d:Nat):lO:=⟨cF d,cF d,λr=>Nat.beq r d⟩
def Lf.drop(d:Nat):Lf->Lf:=Lf.cm (cF d)
def A.drop(d:Nat):A->A:=A.cm (uI d)
def aM.drop(d:Nat):aM->aM:=aM.cm (uI d)
def gR(c:Nat->Bool)(k:aa Nat):Bool:=match k.getLast? with
 |some r=>c r
 |none=>false
structure Tr (w w':World) (lab ax:bg) (ρ ρ':Nat->Loc) (t:List Nat->Bool) (c:Nat->Bool):Prop where
 size:w.heap.size<=w'.heap.size
 no:∀b,b<w.heap.size->lab b=none->w'.heap[b]?=w.heap[b]?/\ax b=none
 so:∀b k,lab b=some k->t k=false->w'.heap[b]?=w.heap[b]?/\ax b=some k
 eA:∀r,c r=false->ρ' r=ρ r
 up:∀j i s x q,t (j::i::s::x::q)=t (x::q)
 ne:∀b,lab b=some []->∀k,t k=false
structure lO.OK (K:lO) (t:List Nat->Bool) (c:Nat->Bool):Prop where
 l:∀k,K.l k=false->(k.length=1\/t k=false)/\gR c k=false
 p:∀k,K.p k=false->t k=false/\gR c k=false
 r:∀r,K.r r=false->c r=false
section
variable {t:aa Nat->Bool} {c:Nat->Bool} {K:lO}
def RV.tr(T:Tr w w' lab ax ρ ρ' t c){q:aa Nat}{x:V}{v:Value}(h:RV w B lab q x v)(D:x.aF=true\/t q=false):RV w' B ax q x v:=
 h.map (Q:=λq C=>q=C/\t q=false) T.size T.no (λb q C _ hl e=>by
  obtain⟨rfl,e⟩:=e;exact⟨(T.so b q hl e).1,(T.so b q hl e).2,λj i s=>⟨rfl,by
   cases q with
   |nil=>exact T.ne b hl _
   |cons x q=>rw[T.up];exact e⟩⟩) (D.imp_right λh=>⟨rfl,h⟩)
def JB(j i s x:Nat)(q:aa Nat):gR c (j::i::s::x::q)=gR c (x::q):=by simp[gR,List.getLast?_cons_cons]
def OW(T:Tr w w' lab ax ρ ρ' t c):∀ (k:aa Nat) (ad:Addr),t k=false->gR c k=false->addrAt w lab ρ k=some ad->addrAt w' ax ρ' k=some ad
 |[],_,_,_,h=>by simp[addrAt]at h
 |[_],_,_,_,h=>by simp[addrAt]at h
 |[_,_],_,_,_,h=>by simp[addrAt]at h
 |[_,_,_],_,_,_,h=>by simp[addrAt]at h
 | [j,i,s,r],_,C,D,h=>by
  rw[T.up]at C;rw[JB]at D;simp only[addrAt]at h ⊢;rw[T.eA r D];split at h
  ·split at h
   next hl=>rw[bJ (T.so _ _ hl C).2];exact h
   ·cases h
  ·cases h
 | j :: i :: s :: x :: y :: q,ad,C,D,h=>by
  rw[T.up]at C;rw[JB]at D;simp only[addrAt]at h ⊢;cases E:addrAt w lab ρ (x::y::q)with
  |none=>rw[E]at h;cases h
  | some L=>
   rw[OW T _ _ C D E];rw[E]at h;cases F:w.cell? L with
   |none=>simp[F]at h
   | some v=>
    obtain⟨U,Y,Z,I,hk,O,_,_⟩:=zh _ _ E;have Es:t I=false:=by
     cases I with
     |nil=>exact T.ne _ O _
     |cons z I=>rw[<-T.up U Y Z,<-hk];exact C
    have e:w'.cell? L=some v:=(World.cell?_of_block (T.so _ _ O Es).1).trans F;simp only[Option.bind_some,F]at h;simp only[Option.bind_some,e];split at h
    ·split at h
     next hl=>rw[bJ (T.so _ _ hl C).2];exact h
     ·cases h
    ·cases h
def OX(T:Tr w w' lab ax ρ ρ' t c)(k:aa Nat)(u:Value)(C:k.length=1\/t k=false)(D:gR c k=false)(h:cC w lab ρ k=some u):cC w' ax ρ' k=some u:=by
 match k,C,D,h with
 |[],_,_,h=>simp[cC,addrAt]at h
 | [r],_,D,h=>
  simp only[cC]at h ⊢;rw[T.eA r D];exact h
 | x :: y :: q,C,D,h=>
  have C:t (x::y::q)=false:=C.resolve_left (by simp);simp only[cC]at h ⊢;cases E:addrAt w lab ρ (x::y::q)with
  |none=>rw[E]at h;cases h
  | some ad=>
   rw[OW T _ _ C D E];rw[E]at h;have h:w.cell? ad=some u:=h;obtain⟨L,O,U,F,Y,I,_,_⟩:=zh _ _ E;have Z:t F=false:=by
    cases F with
    |nil=>exact T.ne _ I _
    |cons z F=>rw[<-T.up L O U,<-Y];exact C
   exact(World.cell?_of_block (T.so _ _ I Z).1).trans h
def di.tr(T:Tr w w' lab ax ρ ρ' t c)(C:K.OK t c){x:Lf}{u:Value}(h:di w B lab ρ x u):di w' B ax ρ' (x.cm K.l) u:=by
 cases x with
 |v x=>exact⟨h.1,h.2.tr T (.inl h.1)⟩
 |dead=>trivial
 | own k=>
  show di w' B ax ρ' (bif K.l k then .dead else .own k) u;cases hl:K.l k with
  |true=>trivial
  |false=>exact⟨h.1,OX T k u (C.l k hl).1 (C.l k hl).2 h.2⟩
def dR.tr(T:Tr w w' lab ax ρ ρ' t c)(D:K.OK t c){cs:aa Lf}{us:Array Value}(h:dR w B lab ρ cs us):dR w' B ax ρ' (cs.map (Lf.cm K.l)) us:=by
 refine⟨by rw[eE];exact h.1,λj x C=>?_⟩
 rw[dI]at C;obtain⟨y,E,rfl⟩:=Option.map_eq_some_iff.1 C;obtain⟨u,F,r⟩:=h.2 j y E;exact⟨u,F,r.tr T D⟩
def RP.tr(T:Tr w w' lab ax ρ ρ' t c)(C:K.OK t c){p:Bool×aa Lf}{u:Value}(h:RP w B lab ρ p u):RP w' B ax ρ' (p.1,p.2.map (Lf.cm K.l)) u:=by
 obtain⟨b,cs⟩:=p;cases b with
 |true=>obtain⟨us,e,h⟩:=h;exact⟨us,e,h.tr T C⟩
 |false=>exact dR.tr T C h
def RF.tr(T:Tr w w' lab ax ρ ρ' t c){cs:aa V}{u:Value}(h:RF w B lab cs u):RF w' B ax cs u:=by
 obtain⟨b,off,e,hb,hl,h⟩:=h;obtain⟨D,E⟩:=T.no b hb hl
 refine⟨b,off,e,Nat.lt_of_lt_of_le hb T.size,E,λj x F=>?_⟩
 obtain⟨C,v,I,L⟩:=h j x F;exact⟨C,v,(World.cell?_of_block (a:=⟨b,_,none⟩) D).trans I,L.tr T (.inl C)⟩
def RA.tr(T:Tr w w' lab ax ρ ρ' t c)(C:K.OK t c){x:A}{u:Value}(h:RA w B lab ρ x u):RA w' B ax ρ' (x.cm K) u:=by
 cases x with
 |undef=>trivial
 |skip=>exact h
 |lf x=>exact di.tr T C h
 |agg cs=>exact RP.tr T C (p:=(true,cs)) h
 | ez xs=>
  obtain⟨us,e,E,h⟩:=h
  refine⟨us,e,by rw[eE];exact E,λj p D=>?_⟩
  rw[dI]at D;obtain⟨y,F,rfl⟩:=Option.map_eq_some_iff.1 D;obtain⟨v,I,r⟩:=h j y F;exact⟨v,I,r.tr T C⟩
 | ptr k=>
  simp only[A.cm];cases hl:K.p k with
  |true=>trivial
  |false=>obtain⟨ad,e,h⟩:=h;exact⟨ad,e,OW T k ad (C.p k hl).1 (C.p k hl).2 h⟩
 | view k s i j=>
  simp only[A.cm];cases hl:K.p k with
  |true=>trivial
  |false=>obtain⟨A,n,c,h,g⟩:=h;exact⟨A,n,c,OX T k _ (.inr (C.p k hl).1) (C.p k hl).2 h,g⟩
 | pk r n=>
  simp only[A.cm];cases hl:K.r r with
  |true=>trivial
  |false=>obtain⟨b,e,h⟩:=h;exact⟨b,(T.eA r (C.r r hl)).trans e,h⟩
 | aI r j=>
  simp only[A.cm];cases hl:K.r r with
  |true=>trivial
  |false=>obtain⟨b,off,e,h⟩:=h;exact⟨b,off,(T.eA r (C.r r hl)).trans e,h⟩
 |ij cs=>exact RF.tr T h
 |lN f cs=>obtain⟨pv,e,h⟩:=h;exact⟨pv,e,h.tr T⟩
 | fn f cap=>
  simp only[A.cm];cases hl:cap.any (λp=>K.r p.1)with
  |true=>trivial
  | false=>
   obtain⟨L,e,E,h⟩:=h
   refine⟨L,e,E,λj p D=>?_⟩
   obtain⟨b,off,O,U⟩:=h j p D;exact⟨b,off,(T.eA _ (C.r _ (by simpa using List.any_eq_false.1 hl p (fP D)))).trans O,U⟩
def dz.tr(T:Tr w w' lab ax ρ ρ' t c)(O:K.OK t c){r:Nat}{x:aM}(h:dz w B lab ρ r x)(D:t [r]=false)(E:c r=false):dz w' B ax ρ' r (x.cm K):=by
 cases h with
 | blk b off cells e cs us C hl L Z U=>
  refine .blk b off cells e _ us ((T.eA r E).trans C) (T.so b _ hl D).2 ((T.so b _ hl D).1.trans L) (by rw[eE];exact Z) (λj x F=>?_)
  rw[dI]at F;obtain⟨y,I,rfl⟩:=Option.map_eq_some_iff.1 F;exact⟨(U j y I).1,(U j y I).2.tr T O⟩
 |sl v y C hr=>exact .sl v y ((T.eA r E).trans C) (hr.tr T (.inr D))
 |mp b clock es l C hl L he=>exact .mp b clock es l ((T.eA r E).trans C) (T.so b _ hl D).2 ((T.so b _ hl D).1.trans L) he
 | gh us xs C F=>
  refine .gh us _ ((T.eA r E).trans C) (λj x Y=>?_)
  rw[dI]at Y;obtain⟨y,I,rfl⟩:=Option.map_eq_some_iff.1 Y;exact(F j y I).tr T O
end
/-! Nothing is forgotten where old memory stays. -/
def JC:lO:=⟨λ_=>false,λ_=>false,λ_=>false⟩
def A.Et(x:A):x.cm JC=x:=by
 have h:∀cs:aa Lf,cs.all (Lf.fr JC.l)=true:=λcs=>bW.2 λc _=>by cases c<;>rfl
 refine A.nE ?_;cases x with
 |lf x=>cases x<;>rfl
 |agg cs=>exact h cs
 |ez xs=>exact bW.2 λq _=>h q.2
 |fn f cap=>exact bW.2 λ_ _=>rfl
 |_=>rfl
def aM.Et(x:aM):x.cm JC=x:=by
 cases x with
 |blk cs=>exact bu aM.blk (A.agg.inj (A.Et (.agg cs)))
 |gh xs=>exact bu aM.gh ((nc λx _=>A.Et x).trans (List.map_id xs))
 |_=>rfl
def OY(k:aa Nat):gR (λ_=>false) k=false:=by unfold gR;split<;>rfl
def VH:JC.OK (λ_=>false) (λ_=>false):=⟨λk _=>⟨.inr rfl,OY k⟩,λk _=>⟨rfl,OY k⟩,λ_ _=>rfl⟩
def Tr.jz(E:w.heap.size<=w'.heap.size)(C:∀ b,b<w.heap.size->w'.heap[b]?=w.heap[b]?/\ax b=lab b)(D:∀ b k,lab b=some k->b<w.heap.size):Tr w w' lab ax ρ ρ (λ_=>false) (λ_=>false):=
 ⟨E,λb hb hl=>⟨(C b hb).1,(C b hb).2.trans hl⟩,λb k hl _=>⟨(C b (D b k hl)).1,(C b (D b k hl)).2.trans hl⟩,λ_ _=>rfl,λ_ _ _ _ _=>rfl,λ_ _ _=>rfl⟩
def RA.jz{x:A}{u:Value}(h:RA w B lab ρ x u)(C:w.heap.size<=w'.heap.size)(D:∀ b,b<w.heap.size->w'.heap[b]?=w.heap[b]?/\ax b=lab b)(E:∀ b k,lab b=some k->b<w.heap.size):RA w' B ax ρ x u:=by
 have:=h.tr (.jz C D E) VH
 rwa [A.Et]at this
def di.jz{x:Lf}{u:Value}(h:di w B lab ρ x u)(C:w.heap.size<=w'.heap.size)(D:∀b,b<w.heap.size->w'.heap[b]?=w.heap[b]?/\ax b=lab b)(E:∀b k,lab b=some k->b<w.heap.size):di w' B ax ρ x u:=RA.jz (x:=.lf x) h C D E
def dR.jz{cs:aa Lf}{us:Array Value}(h:dR w B lab ρ cs us)(C:w.heap.size<=w'.heap.size)(D:∀ b,b<w.heap.size->w'.heap[b]?=w.heap[b]?/\ax b=lab b)(E:∀ b k,lab b=some k->b<w.heap.size):dR w' B ax ρ cs us:=
 ⟨h.1,λj x F=>let ⟨u,hu,r⟩:=h.2 j x F;⟨u,hu,r.jz C D E⟩⟩
def dz.jz{r:Nat}{x:aM}(h:dz w B lab ρ r x)(C:w.heap.size<=w'.heap.size)(D:∀ b,b<w.heap.size->w'.heap[b]?=w.heap[b]?/\ax b=lab b)(E:∀ b k,lab b=some k->b<w.heap.size):dz w' B ax ρ r x:=by
 have:=h.tr (.jz C D E) VH rfl rfl
 rwa [aM.Et]at this
/-! A root's name is given anew. -/
def sX{d:Nat}{t:aa Nat->Bool}{c:Nat->Bool}(E:∀ k,cF d k=false->t k=false)(F:∀ r,r≠d->c r=false):(uI d).OK t c:=by
 have h:∀ k,cF d k=false->gR c k=false:=λk C=>by
  unfold gR;split
  next r D=>exact F r (by rintro rfl;simp[cF,D]at C)
  ·rfl
 exact⟨λk C=>⟨.inr (E k C),h k C⟩,λk C=>⟨E k C,h k C⟩,λr D=>F r (by rintro rfl;simp[uI]at D)⟩
def nH{d r:Nat}(h:r≠d):Nat.beq r d=false:=Bool.eq_false_iff.2 λe=>h (cv e)
def Tr.Eu{d:Nat}(C:∀ r,r≠d->ρ' r=ρ r):Tr w w lab lab ρ ρ' (λ_=>false) (λr=>Nat.beq r d):=
 ⟨c9 _,λ_ _ h=>⟨rfl,h⟩,λ_ _ h _=>⟨rfl,h⟩,λr D=>C r (by rintro rfl;simp at D),λ_ _ _ _ _=>rfl,λ_ _ _=>rfl⟩
def RP.eA{d:Nat}(C:∀r,r≠d->ρ' r=ρ r){p:Bool×aa Lf}{u:Value}(h:RP w B lab ρ p u):RP w B lab ρ' (p.1,p.2.map (Lf.drop d)) u:=h.tr (.Eu C) (sX (λ_ _=>rfl) λ_=>nH)
def RA.eA{d:Nat}(C:∀r,r≠d->ρ' r=ρ r){x:A}{u:Value}(h:RA w B lab ρ x u):RA w B lab ρ' (x.drop d) u:=h.tr (.Eu C) (sX (λ_ _=>rfl) λ_=>nH)
def dR.eA{d:Nat}(C:∀r,r≠d->ρ' r=ρ r){cs:aa Lf}{us:Array Value}(h:dR w B lab ρ cs us):dR w B lab ρ' (cs.map (Lf.drop d)) us:=h.tr (.Eu C) (sX (λ_ _=>rfl) λ_=>nH)
def di.eA{d:Nat}(C:∀r,r≠d->ρ' r=ρ r){x:Lf}{u:Value}(h:di w B lab ρ x u):di w B lab ρ' (x.drop d) u:=h.tr (.Eu C) (sX (λ_ _=>rfl) λ_=>nH)
def dz.eA{d r:Nat}(C:∀r,r≠d->ρ' r=ρ r)(D:r≠d){x:aM}(h:dz w B lab ρ r x):dz w B lab ρ' r (x.drop d):=h.tr (.Eu C) (sX (λ_ _=>rfl) λ_=>nH) rfl (nH D)
def bE{α:Type}(f:Nat->α)(d:Nat)(x:α):Nat->α:=λk=>bif Nat.beq k d then x else f k
def bF{α:Type}(f:Nat->α)(d:Nat)(x:α):bE f d x d=x:=by simp[bE]
def bZ{α:Type}(f:Nat -> α)(d:Nat)(x:α){k:Nat}(h:k≠d):bE f d x k=f k:=by
 have:Nat.beq k d=false:=by
  cases hb:Nat.beq k d with
  |false=>rfl
  |true=>simp_all
 simp[bE,this,au]
def S.set(σ:S)(d:Nat)(x:A):S:={ σ with t:=bE σ.t d x }
def S.drop(σ:S)(d:Nat):S:=⟨λk=>(σ.t k).drop d,λr=>bif Nat.beq r d then none else (σ.m r).map (aM.drop d)⟩
def S.root(σ:S)(d:Nat)(x:aM):S:={ σ with m:=bE σ.m d (some x) }
def Rl.set{x:A}{v:Value}{d:Nat}(h:Rl w0 N lab ρ σ a w)(E:RA w w0.heap.size lab ρ x v)(D:d<N):Rl w0 N lab ρ (σ.set d x) (a.put (some d) v) w:=by
 refine⟨h.below,h.cE,h.root,λk=>?_,?_,h.defers,h.fix,h.cY⟩
 ·show RA w _ lab ρ (bE σ.t d x k) ((a.tmps.setIfInBounds d v).getD k undef);by_cases C:k=d
  ·subst C;rw[bF,gw,Array.getElem?_setIfInBounds_self];have:k<a.tmps.size:=by rw[h.size];exact D
   simp_all
  ·rw[bZ _ _ _ C,gw,Array.getElem?_setIfInBounds_ne (Ne.symm C),<- gw];exact h.tmp k
 ·show (a.tmps.setIfInBounds d v).size=N;rw[Array.size_setIfInBounds];exact h.size
def Rl.grow(h:Rl w0 N lab ρ σ a w)(hb:Below w.heap.size w w')(hl:∀ b,b<w.heap.size -> ax b=lab b)(F:∀ b k,w.heap.size <= b -> ax b=some k -> b<w'.heap.size/\k≠[]):Rl w0 N ax ρ σ a w':=by
 have D:∀b,b<w.heap.size -> w'.heap[b]?=w.heap[b]?/\ax b=lab b:=λb E=>⟨hb.block b E,hl b E⟩
 refine⟨h.below.trans (.of hb h.below.size),λb k C=>?_,λr x I=>(h.root r x I).jz hb.size D (λb k hb=>(h.cE b k hb).2.1),λk=>(h.tmp k).jz hb.size D (λb k hb=>(h.cE b k hb).2.1),h.size,h.defers,h.fix,h.cY⟩
 rcases Nat.lt_or_ge b _ with L|nI
 ·rw[hl b L]at C;have:=h.cE b k C
  grind
 ·have:=F b k nI C;exact⟨.inl (Nat.le_trans h.below.size nI),this.1,this.2⟩
def Rl.new{d:Nat}{x:aM}(h:Rl w0 N lab ρ σ a w)(l:Loc)(O:dz w w0.heap.size lab (bE ρ d l) d x)(I:w0.F d=none):Rl w0 N lab (bE ρ d l) ((σ.drop d).root d x) a w:=by
 have E:∀r,r≠d -> bE ρ d l r=ρ r:=λr D=>bZ _ _ _ D
 refine⟨h.below,h.cE,λr y C=>?_,λk=>(h.tmp k).eA E,h.size,h.defers,λr L D=>(E r (by rintro rfl;rw[I]at D;cases D)).trans (h.fix r L D),h.cY⟩
 by_cases D:r=d
 ·subst D;have e:(bE (σ.drop r).m r _) r=some x:=bF _ _ _;have C:(bE (σ.drop r).m r _) r=some y:=C;simp_all
 ·have C:(bE (σ.drop d).m d _) r=some y:=C;rw[bZ _ _ _ D]at C;have hb:Nat.beq r d=false:=by
   cases hb:Nat.beq r d with
   |false=>rfl
   |true=>simp_all
  simp only[S.drop,hb,au]at C;cases hm:σ.m r with
  |none=>simp_all
  | some z=>
   rw[hm]at C;injection C with C;subst C;exact(h.root r z hm).eA E D
end
def cP{α:Type}(l:aa α)(j:Nat)(xs:aa α):aa α:=l.take j++xs++l.drop (j+xs.length)
def wO{α:Type}(l:aa α)(j:Nat)(xs:aa α)(h:j+xs.length<=l.length):(cP l j xs).length=l.length:=by
 simp[cP];omega
def uJ{α:Type}(l:aa α)(j:Nat)(xs:aa α)(h:j+xs.length <= l.length)(n:Nat):
  (cP l j xs)[n]?=if n<j then l[n]? else if n<j+xs.length then xs[n-j]? else l[n]?:=by
 unfold cP
 grind
structure sY (w w':World) (bt:Nat):Prop where
 size:w'.heap.size=w.heap.size
 os:w'.os=w.os
 tape:w'.tape=w.tape
 output:w'.output=w.output
 block:∀k,k≠bt->w'.heap[k]?=w.heap[k]?
def JD(w:World)(b o:Nat)(l:aa Value):sY w (w.setCells b o l) b:=by
 have g:=Vy b l o w;have s:=Vx b l o w
 refine⟨s,g.os,g.tape,g.output,λk C=>?_⟩
 rcases Nat.lt_or_ge k _ with D|nI
 ·exact g.block k D (by intro e;injection e with e;exact C e)
 ·simp_all
section
variable {w w':World} {w0:Wd} {B N:Nat} {lab:bg} {ρ:Nat->Loc} {m m':Nat->ah aM} {σ:S} {a:Act} {bt:Nat} {kt:aa Nat}
def oX(w w':World)(lab:bg)(ρ:Nat->Loc):Prop:=∀k ad v,addrAt w lab ρ k=some ad->w.cell? ad=some v->jy v=true->w'.cell? ad=some v
def OZ(D:oX w w' lab ρ):∀ (k:aa Nat) (ad:Addr),addrAt w lab ρ k=some ad -> addrAt w' lab ρ k=some ad
 |[],_,h=>h
 |[_],_,h=>h
 |[_,_],_,h=>h
 |[j,i,s,r],_,h=>by simp only[addrAt]at h ⊢;exact h
 | j :: i :: s :: x :: y :: q,ad,h=>by
  simp only[addrAt]at h ⊢;cases C:addrAt w lab ρ (x::y::q)with
  |none=>simp_all
  | some F=>
   rw[OZ D _ _ C];rw[C]at h;cases E:w.cell? F with
   |none=>simp_all
   | some v=>
    simp only[Option.bind_some,E]at h;have I:jy v=true:=by
     split at h
     next e=>injection e with e;subst e;rfl
     ·cases h
    simp only[Option.bind_some,D _ _ _ C E I];exact h
def VI(D:oX w w' lab ρ)(k:aa Nat)(u:Value)(E:jy u=true)(h:cC w lab ρ k=some u):cC w' lab ρ k=some u:=by
 match k,h with
 |[r],h=>exact h
 | x :: y :: q,h=>
  simp[cC]at h ⊢;cases C:addrAt w lab ρ _ with
  |none=>rw[C]at h;cases h
  | some ad=>
   rw[OZ D _ _ C];rw[C]at h;exact D _ _ _ C h E
def di.wrote{x:Lf}{u:Value}(h:di w B lab ρ x u)(C:sY w w' bt)(hl:lab bt=some kt)(D:oX w w' lab ρ):di w' B lab ρ x u:=by
 cases x with
 |v x=>exact⟨h.1,h.2.apart hl (.inr h.1) (Nat.le_of_eq C.size.symm) C.block⟩
 |own k=>exact⟨h.1,VI D k u h.1 h.2⟩
 |dead=>trivial
def dR.wrote{cs:aa Lf}{us:Array Value}(h:dR w B lab ρ cs us)(C:sY w w' bt)(hl:lab bt=some kt)(D:oX w w' lab ρ):dR w' B lab ρ cs us:=
 ⟨h.1,λj x E=>let ⟨u,hu,r⟩:=h.2 j x E;⟨u,hu,r.wrote C hl D⟩⟩
def RP.wrote{p:Bool×aa Lf}{u:Value}(h:RP w B lab ρ p u)(C:sY w w' bt)(hl:lab bt=some kt)(D:oX w w' lab ρ):RP w' B lab ρ p u:=by
 obtain⟨b,cs⟩:=p;cases b with
 |true=>obtain⟨us,e,h⟩:=h;exact⟨us,e,h.wrote C hl D⟩
 |false=>exact dR.wrote h C hl D
def RF.wrote{cs:aa V}{u:Value}(h:RF w B lab cs u)(C:sY w w' bt)(hl:lab bt=some kt):RF w' B lab cs u:=by
 obtain⟨b,off,e,hb,D,h⟩:=h;have F:b≠bt:=by rintro rfl;rw[hl]at D;cases D
 refine⟨b,off,e,by rw[C.size];exact hb,D,λj x I=>?_⟩
 obtain⟨E,v,L,O⟩:=h j x I;exact⟨E,v,(World.cell?_of_block (C.block b F)).trans L,O.apart hl (.inr E) (Nat.le_of_eq C.size.symm) C.block⟩
def RA.wrote{x:A}{u:Value}(h:RA w B lab ρ x u)(C:sY w w' bt)(hl:lab bt=some kt)(D:oX w w' lab ρ):RA w' B lab ρ x u:=by
 cases x with
 |undef=>trivial
 |skip=>exact h
 |lf x=>exact di.wrote h C hl D
 |agg cs=>exact RP.wrote (p:=(true,cs)) h C hl D
 |ez xs=>obtain⟨us,e,E,h⟩:=h;exact⟨us,e,E,λj p F=>let ⟨v,I,r⟩:=h j p F;⟨v,I,r.wrote C hl D⟩⟩
 |ptr k=>obtain⟨ad,e,h⟩:=h;exact⟨ad,e,OZ D _ _ h⟩
 |view k s i j=>obtain⟨A,n,c,h,g⟩:=h;exact⟨A,n,c,VI D k _ rfl h,g⟩
 |pk r n=>exact h
 |aI r j=>exact h
 |ij cs=>exact RF.wrote h C hl
 |lN f cs=>obtain⟨pv,e,h⟩:=h;exact⟨pv,e,h.wrote C hl⟩
 |fn f cap=>exact h
def dz.wrote{r:Nat}{x:aM}(h:dz w B lab ρ r x)(E:sY w w' bt)(hl:lab bt=some kt)(T:oX w w' lab ρ)(I:¬ [r] <:+ kt):dz w' B lab ρ r x:=by
 cases h with
 | blk b off cells e cs us D C L Y U=>
  have O:b≠bt:=by rintro rfl;rw[hl]at C;injection C with C;subst C;exact I (List.suffix_refl _)
  exact .blk b off cells e cs us D C ((E.block b O).trans L) Y (λj x F=>⟨(U j x F).1,(U j x F).2.wrote E hl T⟩)
 |sl v y D Z=>exact .sl v y D (Z.apart hl (.inl I) (Nat.le_of_eq E.size.symm) E.block)
 | mp b c es l D C L he=>
  have O:b≠bt:=by rintro rfl;rw[hl]at C;injection C with C;subst C;exact I (List.suffix_refl _)
  exact .mp b c es l D C ((E.block b O).trans L) he
 |gh us xs D F=>exact .gh us xs D λj x hj=>(F j x hj).wrote E hl T
def Rl.wrote(h:Rl w0 N lab ρ σ a w)(C:sY w w' bt)(hl:lab bt=some kt)(F:oX w w' lab ρ)(I:∀ r x,m' r=some x -> dz w' w0.heap.size lab ρ r x):Rl w0 N lab ρ ⟨σ.t,m'⟩ a w':=by
 have hb:=(h.cE bt kt hl).1;have O:∀ k,k<w0.heap.size -> w0.L k=none -> k≠bt:=by
  grind
 refine⟨⟨C.os.trans h.below.os,C.tape.trans h.below.tape,C.output.trans h.below.output,by rw[C.size];exact h.below.size,λk D E=>(C.block k (O k D E)).trans (h.below.block k D E)⟩,λb k T=>?_,I,λk=>(h.tmp k).wrote C hl F,h.size,h.defers,h.fix,h.cY⟩
 rw[C.size];exact h.cE b k T
def VJ{r C:Nat}(h:C≠r):¬ [C] <:+ [r]:=by
 intro D;have:=D.eq_of_length rfl;simp_all
def Rl.Ev{r j:Nat}{cs xs:aa Lf}{us:Array Value}(h:Rl w0 N lab ρ σ a w)(hm:σ.m r=some (.blk cs))(hx:dR w w0.heap.size lab ρ xs us)(hj:j+xs.length <= cs.length):
  ∃b off,ρ r = .blk b off/\w.there b (off+j) us.size/\Rl w0 N lab ρ ⟨σ.t,bE σ.m r (some (.blk (cP cs j xs)))⟩ a (w.setCells b (off+j) us.toList):=by
 have L:=h.root r _ hm;generalize D:aM.blk cs=x at L;cases L with
 |sl=>cases D
 |mp=>cases D
 |gh=>cases D
 | blk b off cells e eo u cD hl T hs hc=>
  injection D with D;subst D;have hlen:us.size=xs.length:=hx.1;have mj:off+j+us.toList.length <= cells.size:=by rw[jr,hlen];omega
  have E:=JD w b (off+j) us.toList;obtain⟨O,gI,lP⟩:=Eh b e us.toList (off+j) w cells T mj;have I:oX w (w.setCells b (off+j) us.toList) lab ρ:=by
   intro k ad v ha U fo;obtain⟨j',i',s',q,rfl,hq,_,_,hh'⟩:=zh k ad ha;have cS:ad.block≠b:=by
    intro e
    grind
   exact(World.cell?_of_block (E.block _ cS)).trans U
  refine⟨b,off,cD,λn hn=>⟨?_,frozen_of_row w b _ cells e T⟩,h.wrote E hl I λr' y F=>?_⟩
  ·rw[cell_of_row w b _ cells e _ T];simp;omega
  ·by_cases Y:r'=r
   ·subst Y;rw[bF]at F;injection F with F;subst F
    refine .blk b off O e _ (λn=>if n<j then u n else if n<j+xs.length then us.getD (n-j) undef else u n) cD hl gI ?_ λn x C=>?_
    ·rw[wO _ _ _ hj,<- jr,lP]
     grind
    ·have e2:O[off+n]?=(cP cells.toList (off+j) us.toList)[off+n]?:=by
      rw[show O[off+n]?=O.toList[off+n]? by simp,lP];rfl
     rw[e2,uJ _ _ _ (by simpa using mj)];rw[uJ _ _ _ hj]at C;by_cases Z:n<j
     ·rw[bJ];simp only[Z]at C ⊢;refine⟨?_,(hc n x C).2.wrote E hl I⟩;simp_all
     ·by_cases h2:n<j+xs.length
      ·rw[bx,bJ (by rw[jr,hlen];omega)];simp only[Z,h2,if_true,if_false]at C ⊢;obtain⟨v,U,L⟩:=hx.2 (n-j) x C;have hg:us.getD (n-j) undef=v:=by rw[gw,U];rfl
       rw[hg];refine⟨?_,L.wrote E hl I⟩
       grind
      ·rw[bx,bx (by rw[jr];omega)];simp only[Z,h2]at C ⊢;refine⟨?_,(hc n x C).2.wrote E hl I⟩
       grind
   ·rw[bZ _ _ _ Y]at F;exact(h.root r' y F).wrote E hl I (VJ Y)
inductive wP (m:Nat->Option aM):List Nat->V->(Nat->Option aM)->Prop
 |root (r:Nat) (y0 y:V) (h:m r=some (.sl y0)):wP m [r] y (bE m r (some (.sl y)))
 | elem (j i:Nat) (q:List Nat) (t:TC) (o:Nat) (qn:Bool) (l:List (T t)) (y:V) (e:T t) (m':Nat->Option aM) (h:uH m q (.sl t (o+2) qn l)) (hi:i<l.length) (hj:j<aA t)
   (hd:dec t o (cP (enc t o l[i]) j [y])=some e) (hp:wP m q (.sl t (o+2) qn (l.set i e)) m'):wP m (j::i::aA t::q) y m'
def O0{α:Type}{a b c:aa α}(D:a <:+ c)(hb:b <:+ c)(h:a.length=b.length):a=b:=by
 obtain⟨x,E⟩:=D;obtain⟨y,C⟩:=hb;rw[<-E]at C;exact((List.append_inj' C h.symm).2).symm
def RV.JE{q:aa Nat}{t:TC}{o:Nat}{O:Bool}{l:aa (T t)}{i j:Nat}{xs:aa V}{e:T t}{b cap:Nat}{cs eo:Array Value}{u us:Nat -> Nat -> Value}
  (hl:lab b=some q) (hh:w'.heap[b]?=some (.cells eo (tid t) (0,0))) (hs:eo.size=cap*aA t) (hn:l.length <= cap) (Z:cap <= maxLen/\(O=true -> cap=l.length)) (hi:i<l.length) (hj:j+xs.length <= aA t)
  (hd:dec t o (cP (enc t o l[i]) j xs)=some e)
  (hc:∀D (h:D<l.length) (C:Nat) x,(enc t o l[D])[C]?=some x -> ¬ (D=i/\j <= C/\C<j+xs.length) -> eo[D*aA t+C]?=some (u D C)/\RV w' B lab (C::D::aA t::q) x (u D C))
  (hx:∀(n:Nat) x,xs[n]?=some x -> eo[i*aA t+(j+n)]?=some (us i (j+n))/\RV w' B lab ((j+n)::i::aA t::q) x (us i (j+n))):
  RV w' B lab q (.sl t (o+2) O (l.set i e)) (.slice (some ⟨b,0,none⟩) l.length cap):=by
 have hlen:(l.set i e).length=l.length:=js;have key:∀ D (h:D<(l.set i e).length) (C:Nat) x,(enc t o (l.set i e)[D])[C]?=some x ->
   ∃v,eo[D*aA t+C]?=some v/\RV w' B lab (C::D::aA t::q) x v:=by
  intro D h C x F;rw[List.getElem_set]at F;by_cases hii:i=D
  ·subst hii;rw[bJ rfl]at F;have hk:=jU t o _ e hd;have qj:C<(enc t o e).length:=(de.1 F).1;rw[<- hk.1]at qj;have E:=bQ qj;generalize (cP (enc t o l[i]) j xs)[C]=y at E;have U:=hk.2 C y x E F;rw[uJ _ _ _ (by rw[jT];exact hj)]at E;by_cases Y:C<j
   ·rw[bJ Y]at E;obtain⟨I,L⟩:=hc i hi C y E (by omega);exact⟨_,I,L.wk U⟩
   ·by_cases h2:C<j+xs.length
    ·rw[bx Y,bJ h2]at E;obtain⟨I,L⟩:=hx _ y E;rw[show j+(C-j)=C by omega]at I L;exact⟨_,I,L.wk U⟩
    ·rw[bx Y,bx h2]at E;obtain⟨I,L⟩:=hc i hi C y E (by omega);exact⟨_,I,L.wk U⟩
  ·grind
 rw[<- hlen]
 refine .own q t o O (l.set i e) b cap eo (λD C=>(eo[D*aA t+C]?).getD undef) hl hh hs (by rw[hlen];exact hn) ⟨Z.1,λh=>by rw[hlen];exact Z.2 h⟩ (λD h C x F=>?_) (λD h C x F=>?_)
 ·grind
 ·obtain⟨v,hv,hr⟩:=key D h C x F;simp_all
def VK{r:Nat}{q:aa Nat}(h:[r] <:+ q){C:Nat}(D:[C] <:+ q):C=r:=by
 have:=O0 D h rfl;injection this
def wP.ok{q:aa Nat}{y:V}(h:wP m q y m')(Y:∀ r x,m r=some x -> dz w B lab ρ r x)(L:sY w w' bt)(hl:lab bt=some kt)(O:q <:+ kt)(hC:oX w w' lab ρ){F:Value}(D:cC w lab ρ q=some F)(Z:RV w' B lab q y F):
  ∀r x,m' r=some x -> dz w' B lab ρ r x:=by
 induction h generalizing F with
 | root r y0 y h=>
  intro T x C;by_cases I:T=r
  ·subst I;rw[bF]at C;injection C with C;subst C;simp only[cC]at D;cases cD:ρ T with
   |blk b off=>grind
   |bB us=>grind
   | cO v=>
    rw[cD]at D;injection D with D;subst D;exact .sl v y cD Z
  ·rw[bZ _ _ _ I]at C;exact(Y T x C).wrote L hl hC (λU=>I (VK O U))
 | elem j i q t o qn l y e m' h hi hj hd hp ih=>
  obtain⟨zi,zj,fC⟩:=h.ok Y;have hqk:q <:+ kt:=List.IsSuffix.trans ⟨[j,i,aA t],rfl⟩ O;cases fC with
  |dN=>simp at hi
  |eX=>simp at hi
  |fB=>simp at hi
  |aF _ _ _ _ _ _ _ _ _ ho=>omega
  | own _ _ _ _ _ b cap cs us E hh U hn qm hc I=>
   have cS:b≠bt:=by
    rintro rfl;rw[hl]at E;injection E with E;subst E;have:=O.length_le
    grind
   have hz:=Nat.le_of_eq L.size.symm
   refine ih hqk zj (RV.JE (us:=λ_ _=>F) (u:=us) (cs:=cs) (xs:=[y]) E ((L.block b cS).trans hh) U hn qm hi (show j+1 <= aA t from hj) hd (λi' h' j' x C JF=>⟨hc i' h' j' x C,(I i' h' j' x C).apart hl (.inl λnJ=>JF ?_) hz L.block⟩) (λn x C=>?_))
   ·have:=O0 nJ O rfl
    grind
   ·cases n with
    |succ n=>simp at C
    | zero=>
     simp at C;subst C;refine⟨?_,Z⟩;rw[JA,zg j i _ zj E]at D;have D:w.cell? ⟨b,i*aA t+j,none⟩=some F:=D;rw[cell_of_row w b _ cs _ _ hh]at D;exact D
def RV.VL{q:aa Nat}{x:V}{v:Value}(h:RV w B lab q x v)(C:x.plain=true):jy v=false:=by
 cases h<;>first|rfl|cases C
def RV.rz{q C:aa Nat}{x:V}{v:Value}{B':Nat}{ax:bg}(h:RV w B lab q x v)(D:x.plain=true):RV w' B' ax C x v:=by
 cases h<;>first|exact .int _ _ _|exact .bool _ _|exact .str _ _|cases D
def Rl.agJ{j i:Nat}{q:aa Nat}{t:TC}{o:Nat}{qn:Bool}{l:aa (T t)}{xs:aa V}{us:Array Value}{e:T t}(h:Rl w0 N lab ρ σ a w)(hg:uH σ.m q (.sl t (o+2) qn l))(hi:i<l.length)(hj:j+xs.length <= aA t)
  (hd:dec t o (cP (enc t o l[i]) j xs)=some e) (hold:∀(n:Nat) x,n<xs.length -> (enc t o l[i])[j+n]?=some x -> x.plain=true) (hxp:∀x∈xs,x.plain=true) (iL:us.size=xs.length) (hx:∀(n:Nat) x,xs[n]?=some x -> ∃u,us[n]?=some u/\RV w w0.heap.size lab [] x u)
  (hp:wP σ.m q (.sl t (o+2) qn (l.set i e)) m'):
  ∃b,addrAt w lab ρ (j::i::aA t::q)=some ⟨b,i*aA t+j,none⟩/\w.there b (i*aA t+j) us.size/\Rl w0 N lab ρ ⟨σ.t,m'⟩ a (w.setCells b (i*aA t+j) us.toList):=by
 obtain⟨zi,zj,fC⟩:=hg.ok h.root;cases fC with
 |dN=>simp at hi
 |eX=>simp at hi
 |fB=>simp at hi
 |aF _ _ _ _ _ _ _ _ _ ho=>omega
 | own _ _ _ _ _ b cap cs u L Y hs hn qm hc hr=>
  have zk:i*aA t+aA t <= cap*aA t:=by
   have:(i+1)*aA t <= cap*aA t:=gO _ (by omega);rw[gE]at this;exact this
  have mj:i*aA t+j+us.toList.length <= cs.size:=by rw[jr,iL,hs];omega
  have O:=JD w b (i*aA t+j) us.toList;obtain⟨I,gI,lP⟩:=Eh b (tid t) us.toList (i*aA t+j) w cs Y mj;have rA:∀ n,I[n]?=if n<i*aA t+j then cs[n]? else if n<i*aA t+j+xs.length then us[n-(i*aA t+j)]? else cs[n]?:=by
   intro n;have e2:I[n]?=(cP cs.toList (i*aA t+j) us.toList)[n]?:=by
    rw[show I[n]?=I.toList[n]? by simp,lP];rfl
   rw[e2,uJ _ _ _ (by simpa using mj),jr,iL];simp
  have Ew:I.size=cs.size:=by
   rw[<- jr,lP];have:=wO cs.toList _ us.toList (by simpa using mj)
   grind
  have hC:oX w (w.setCells b (i*aA t+j) us.toList) lab ρ:=by
   intro k ad v ha D fo;by_cases cS:ad.block=b
   ·obtain⟨F,C,s',q',rfl,Es,agK,uK,_⟩:=zh k ad ha;have qp:ad=⟨b,ad.off,none⟩:=by cases ad;simp_all
    rw[qp,cell_of_row w b _ cs _ _ Y]at D;rw[qp,cell_of_row _ b _ I _ _ gI,rA];by_cases h1:ad.off<i*aA t+j
    ·rw[bJ h1];exact D
    ·by_cases h2:ad.off<i*aA t+j+xs.length
     ·exfalso;have hjs:ad.off-(i*aA t+j)<xs.length:=by omega
      have uL:j+(ad.off-(i*aA t+j))<(enc t o l[i]).length:=by rw[jT];omega
      have Z:=bQ uL;generalize (enc t o l[i])[j+(ad.off-(i*aA t+j))]=y at Z;have wQ:=hold _ y hjs Z;have U:=hc i hi _ y Z;rw[show i*aA t+(j+(ad.off-(i*aA t+j)))=ad.off by omega]at U;rw[D]at U;injection U with U;have:=(hr i hi _ y Z).VL wQ;rw[<- U,fo]at this;cases this
     ·rw[bx h1,bx h2];exact D
   ·exact(World.cell?_of_block (O.block _ cS)).trans D
  refine⟨b,zg j i (aA t) zj L,λn wR=>⟨?_,frozen_of_row w b _ cs _ Y⟩,h.wrote O L hC (hp.ok h.root O L (List.suffix_refl _) hC zj ?_)⟩
  ·rw[cell_of_row w b _ cs _ _ Y];simp;omega
  ·refine RV.JE (u:=u) (us:=λ_ n=>us.getD (n-j) undef) (cs:=cs) (xs:=xs) L gI (Ew.trans hs) hn qm hi hj hd (λC h' F x E JF=>?_) (λn x E=>?_)
   ·have qj:F<aA t:=by have:=(de.1 E).1;rwa [jT]at this
    refine⟨?_,(hr C h' F x E).apart L (.inl λnJ=>?_) (Nat.le_of_eq O.size.symm) O.block⟩
    ·rw[rA];have zl:¬ (¬ C*aA t+F<i*aA t+j/\C*aA t+F<i*aA t+j+xs.length):=by
      rintro⟨h1,h2⟩;rcases Nat.lt_trichotomy C i with dV|heq|BP
      ·have:(C+1)*aA t <= i*aA t:=gO _ dV;rw[gE]at this;omega
      ·subst heq
       grind
      ·have:(i+1)*aA t <= C*aA t:=gO _ BP;rw[gE]at this;omega
     split
     ·exact hc C h' F x E
     ·rw[bx];exact hc C h' F x E
    ·have:=nJ.length_le;simp at this;omega
   ·obtain⟨v,D,zm⟩:=hx n x E;have wR:n<xs.length:=(de.1 E).1;have BQ:us.getD (j+n-j) undef=v:=by rw[show j+n-j=n by omega,gw,D];rfl
    rw[BQ,rA,bx,bJ];refine⟨?_,zm.rz (hxp x (fP E))⟩;rw[show i*aA t+(j+n)-(i*aA t+j)=n by omega];exact D
end
def O1:Value->A
 |.bool b=>.lf (.v (.bool b))
 |.int k n=>.lf (.v (.int k n))
 |.string s=>.lf (.v (.str s))
 |.slice none 0 0=>.lf (.v .nil)
 |_=>.undef
def aE(σ:S):Operand->A
 |.tmp t=>σ.t t
 |.const v=>O1 v
 |.func f=>.fn f []
 |.global _=>.undef
def gk{X:Type}(N:Nat)(σ:S)(C:ah Tmp)(x:A)(k:S->ah X):ah X:=
 match C with
 |none=>k σ
 |some d=>bif Nat.blt d N then k (σ.set d x)else none
def jA(P:Program)(w0:Wd)(N:Nat)(o:Oper)(σ D:S):Prop:=
 ∀a w K Q,R w0 N σ a w->(∀C w',R w0 N D C w'->K C w')->o.wp P a w K Q
section
variable {P:Program} {w:World} {w0:Wd} {B N:Nat} {lab:bg} {ρ:Nat->Loc} {σ:S} {a:Act} {X:Type} {r:X} {k:S->ah X} {o:Oper}
def agL(v:Value):RA w B lab ρ (O1 v) v:=by
 unfold O1;split
 ·exact⟨rfl,.bool _ _⟩
 ·exact⟨rfl,.int _ _ _⟩
 ·exact⟨rfl,.str _ _⟩
 ·exact⟨rfl,.nil _⟩
 ·trivial
def Rl.aE(h:Rl w0 N lab ρ σ a w)(x:Operand):RA w w0.heap.size lab ρ (aE σ x) (a.eval x):=by
 cases x with
 |tmp t=>exact h.tmp t
 |const v=>exact agL v
 |func f=>exact⟨#[],rfl,rfl,by simp⟩
 |global g=>trivial
def jA.val{x:A}(C:gk N σ o.dst x k=some r)(h:∀ lab ρ a w,Rl w0 N lab ρ σ a w -> ∃ v,(execOp a.eval o).run P w = .ok (.value v) w/\RA w w0.heap.size lab ρ x v):∃ I,k I=some r/\jA P w0 N o σ I:=by
 unfold gk at C;split at C
 ·rename_i D
  refine⟨σ,C,λa w K Q hR E=>?_⟩
  obtain⟨lab,ρ,hl⟩:=hR;obtain⟨v,F,L⟩:=h lab ρ a w hl;unfold Oper.wp;rw[F,Oper.upon_value,D];exact E _ _ ⟨lab,ρ,hl⟩
 ·rename_i d D;cases O:Nat.blt d N with
  |false=>simp_all
  | true=>
   rw[O]at C
   refine⟨_,C,λa w K Q hR E=>?_⟩
   obtain⟨lab,ρ,hl⟩:=hR;obtain⟨v,F,L⟩:=h lab ρ a w hl;unfold Oper.wp;rw[F,Oper.upon_value,D];exact E _ _ ⟨lab,ρ,hl.set L (by have:=cr O;omega)⟩
/-! What does the same whatever comes behind. -/
def kG{α:Type}(f:(X:Type)->(α->ah X)->ah X)(y:α):Prop:=∀(X:Type) (k:α->ah X),f X k=k y
def kG.at_{α:Type}{f:(X:Type)->(α->ah X)->ah X}{y:α}(h:kG f y){X:Type}(k:α->ah X):f X k=k y:=h X k
def cu{α:Type}(f:(X:Type)->(α->ah X)->ah X):Prop:=∀(X Y:Type) (k:α->ah X) (g:X->ah Y),(f X k).bind g=f Y λy=>(k y).bind g
def cu.jV{α:Type}{f:(X:Type)->(α->ah X)->ah X}(n:cu f){X:Type}{k:α->ah X}{r:X}(h:f X k=some r):∃ y,k y=some r/\kG f y:=by
 have e:∀(Y:Type) (k:α->ah Y),f Y k=(f α some).bind k:=λY k=>(n α Y some k).symm
 rw[e]at h;cases C:f α some with
 |none=>rw[C]at h;cases h
 |some y=>rw[C]at h;exact⟨y,h,λX k=>by rw[e,C];rfl⟩
def cu.comp{α β:Type}{f:(X:Type)->(α->ah X)->ah X}{b:(X:Type)->(β->ah X)->α->ah X}(n:cu f)(m:∀y,cu λX k=>b X k y):cu λX k=>f X (b X k):=λX Y k g=>(n X Y _ g).trans (bu _ (funext λy=>m y X Y k g))
def cK{X Y:Type}{b:Bool}{x y:ah X}{C D:ah Y}{g:X->ah Y}(E:x.bind g=C)(F:y.bind g=D):(bif b then x else y).bind g=bif b then C else D:=by
 cases b
 ·exact F
 ·exact E
/-! Contents of leaves. -/
def iq{X:Type}(m:Nat->ah aM):aa Nat->(V->ah X)->ah X
 | [r],k=>match m r with
  |some (.sl y)=>k y
  |_=>none
 | j :: i :: s :: q,k=>iq m q λy=>match y with
  |.sl t (o+2) _ l=>if s=aA t then (if h:i<l.length then (match (enc t o l[i])[j]? with|some z=>k z|none=>none)else none)else none
  |_=>none
 |_,_=>none
def qq{m:Nat -> ah aM}:∀ (q:aa Nat) (k:V -> ah X),iq m q k=some r -> ∃ y,uH m q y/\k y=some r
 |[],_,h=>by simp[iq]at h
 | [x],k,h=>by
  simp only[iq]at h;split at h
  next y D=>exact⟨y,.root x y D,h⟩
  ·cases h
 | j :: i :: s :: q,k,h=>by
  obtain⟨y,D,C⟩:=qq q _ h;clear h;split at C
  ·split at C
   ·rename_i E;subst E;split at C
    ·rename_i hi;split at C
     next z F=>exact⟨z,.elem j i q _ _ _ _ z D hi F,C⟩
     ·cases C
    ·cases C
   ·cases C
  ·cases C
def nK{X:Type}(σ:S)(x:Lf)(k:V->ah X):ah X:=
 match x with
 |.v y=>k y
 |.own q=>iq σ.m q k
 |.dead=>none
def RV.part{q:aa Nat}{C:TC}{g:Nat}{O:Bool}{xs:aa (T C)}{A:ah Addr}{n c a h:Nat}(I:RV w B lab q (.sl C g O xs) (.slice A n c))(F:g<2)(h1:a <= h)(D:h <= xs.length):RV w B lab q (.sl C g false ((xs.take h).drop a)) (sliced A a h c (aA C))/\n=xs.length/\xs.length <= c:=by
 have hlen:((xs.take h).drop a).length=h-a:=by simp;omega
 cases I with
 | dN=>
  have:a=0:=by simp at D;omega
  have:h=0:=by simpa using D
  subst_vars
  exact⟨.dN _ _ _,rfl,c9 _⟩
 | eX=>
  have:h=0:=by simpa using D
  subst this;have:a=0:=by omega
  subst this;exact⟨by unfold sliced;split<;>exact .eX _ _ _ _ _ F,rfl,gF _⟩
 | fB=>
  have:h=0:=by simpa using D
  subst this;have:a=0:=by omega
  subst this;exact⟨by unfold sliced;split<;>exact .eX _ _ _ _ _ F,rfl,gF _⟩
 |own=>omega
 | aF _ _ _ _ _ b off cap u U hl hb hB Y Z I=>
  refine⟨?_,rfl,Y⟩;by_cases he:a=h
  ·subst he;have e0:=List.eq_nil_of_length_eq_zero (by rw[hlen];omega);rw[e0];unfold sliced;rw[Nat.sub_self];split<;>exact .eX _ _ _ _ _ F
  ·unfold sliced;rw[bx,<- hlen];have Jv:(some (⟨b,off,none⟩:Addr)).map (·.add (a*aA C))=some ⟨b,off+a*aA C,none⟩:=by
    simp;unfold Addr.add;simp_all
   rw[Jv];have L:∀ i (hi:i<((xs.take h).drop a).length),((xs.take h).drop a)[i]=xs[a+i]'(by omega):=by
    intro i hi;simp_all
   refine .aF _ _ _ _ _ b (off+a*aA C) (c-a) (λi j=>u (a+i) j) U hl hb hB (by omega) (λi hi j x E=>?_) (λi hi j x E=>?_)
   ·rw[L]at E;have:=Z _ _ j x E
    grind
   ·rw[L i]at E
    grind
def VM(s i j:Nat):V->ah V
 |.sl t _ _ l=>bif Nat.beq s (aA t)then some (.sl t 0 false ((l.take j).drop i))else none
 |_=>none
def sZ{X:Type}(σ:S)(q:aa Nat)(s i j:Nat)(k:V->ah X):ah X:=
 iq σ.m q λy=>match VM s i j y with
  |some z=>k z
  |none=>none
def qt{X:Type}(σ:S)(y:A)(k:V->ah X):ah X:=
 match y with
 |.lf l=>nK σ l k
 |.view q s i j=>sZ σ q s i j k
 |_=>none
def VN{q:aa Nat}{s i j:Nat}{k:V -> ah X}(h:sZ σ q s i j k=some r):∃ z,k z=some r/\z.aF=true /\ ∀ w0 N lab ρ a w,Rl w0 N lab ρ σ a w -> ∀ u,RA w w0.heap.size lab ρ (.view q s i j) u -> ∀ B',RV w B' (λ_=>none) [] z u:=by
 obtain⟨y,L,E⟩:=qq q _ h;clear h;split at E
 ·rename_i z C;unfold VM at C;split at C
  ·rename_i t g O l;cases F:Nat.beq s (aA t)with
   |false=>simp_all
   | true=>
    rw[F,aj]at C;obtain rfl:=cv F;injection C with C;subst C
    refine⟨_,E,rfl,λw0 N lab ρ a w hR u T B'=>?_⟩
    obtain⟨A,n,c,U,Y,h3,rfl⟩:=T;obtain⟨v,D,Z⟩:=L.ok hR.root;rw[U]at D;injection D with D;subst D;have I:RV w B' (λ_=>none) [] (.sl t 0 O l) (.slice A n c):=Z.fJ;have hn:n=l.length:=by cases I<;>rfl
    exact(I.part (by omega) Y (by omega)).1
  ·cases C
 ·cases E
def vK{X:Type}(x:A)(k:V->ah X):ah X:=
 match x with
 |.lf (.v y)=>k y
 |_=>none
def O2{x:A}{k:V -> ah X}(h:vK x k=some r):∃ y,x = .lf (.v y)/\k y=some r:=by
 unfold vK at h
 grind
def RV.fS{q:aa Nat}{k:IntKind}{n:Int}{u:Value}(h:RV w B lab q (.int k n) u):u = .int k n:=by cases h;rfl
def RV.wS{q:aa Nat}{n:Bool}{u:Value}(h:RV w B lab q (.bool n) u):u = .bool n:=by cases h;rfl
def RV.om{q:aa Nat}{n:ByteArray}{u:Value}(h:RV w B lab q (.str n) u):u = .string n:=by cases h;rfl
/-! Arithmetic and comparison. -/
def aT(n:Nat):Bool:=decide (n<1073741824)
def Ex{X:Type}(P:Program)(ty:TypeId)(op:BinOp)(x y:V)(k:V->ah X):ah X:=
 match x,y with
 | .int C a,.int D b=>match op with
  |.shl=>if b<0 then none else k (.int C (C.wrap (a*2 ^ (min b.toNat C.bits))))
  |.shr=>if b<0 then none else k (.int C (a.fdiv (2 ^ (min b.toNat C.bits))))
  | op=>if C=D then (match op with
   |.add=>k (.int C (C.wrap (a+b)))
   |.sub=>k (.int C (C.wrap (a-b)))
   |.mul=>k (.int C (C.wrap (a*b)))
   |.quo=>if b=0 then none else k (.int C (C.wrap (a.tdiv b)))
   |.rem=>if b=0 then none else k (.int C (a.tmod b))
   |.and=>k (.int C (bits .and C a b))
   |.or=>k (.int C (bits .or C a b))
   |.xor=>k (.int C (bits .xor C a b))
   |.andNot=>k (.int C (bits .andNot C a b))
   |.eql=>k (.bool (a==b))
   |.neq=>k (.bool (a != b))
   |.lss=>k (.bool (decide (a<b)))
   |.leq=>k (.bool (decide (a<=b)))
   |.gtr=>k (.bool (decide (a > b)))
   |.geq=>k (.bool (decide (a >= b)))
   |_=>none)else none
 | .bool a,.bool b=>match P.underlying ty with
  | some .bool=>(match op with
   |.eql=>k (.bool (a==b))
   |.neq=>k (.bool (!(a==b)))
   |_=>none)
  |_=>none
 | .str a,.str b=>match op with
  |.add=>bif aT (a.size+b.size)then k (.str (a++b))else none
  |.eql=>k (.bool (a.toList==b.toList))
  |.neq=>k (.bool (!(a.toList==b.toList)))
  |_=>none
 |_,_=>none
def agM{ty:TypeId}{L:BinOp}{x y:V}{k:V -> ah X}(h:Ex P ty L x y k=some r):∃ z,k z=some r/\z.plain=true /\ ∀ (w:World) (B:Nat) (lab:bg) (E F:Operand) (q I:aa Nat) (u v:Value),RV w B lab q x u -> RV w B lab I y v ->
  ∃t,(do eqGuard L ty E F u v;binOp L ty u v:Sem Value).run P w = .ok t w/\RV w B lab [] z t:=by
 unfold Ex at h;split at h
 ·rename_i kx a ky b;split at h
  ·split at h
   ·cases h
   ·rename_i hb
    refine⟨_,h,rfl,λw B lab E F q I u v C D=>?_⟩
    obtain rfl:=C.fS;obtain rfl:=D.fS;exact⟨_,by simp[eqGuard,binOp,Op.shift,hb],.int _ _ _⟩
  ·split at h
   ·cases h
   ·rename_i hb
    refine⟨_,h,rfl,λw B lab E F q I u v C D=>?_⟩
    obtain rfl:=C.fS;obtain rfl:=D.fS;exact⟨_,by simp[eqGuard,binOp,Op.shift,hb],.int _ _ _⟩
  ·rename_i U Y;split at h
   ·rename_i Z;subst Z;cases L
    case shl=>exact absurd rfl U
    case shr=>exact absurd rfl Y
    case quo=>
     by_cases hb:b=0
     ·simp only[hb,if_true]at h;cases h
     ·simp[hb]at h
      refine⟨_,h,rfl,λw B lab E F q I u v C D=>?_⟩
      obtain rfl:=C.fS;obtain rfl:=D.fS;exact⟨_,by simp[eqGuard,binOp,Op.intDiv,hb],.int _ _ _⟩
    case rem=>
     by_cases hb:b=0
     ·simp only[hb,if_true]at h;cases h
     ·simp[hb]at h
      refine⟨_,h,rfl,λw B lab E F q I u v C D=>?_⟩
      obtain rfl:=C.fS;obtain rfl:=D.fS;exact⟨_,by simp[eqGuard,binOp,Op.intDiv,hb],.int _ _ _⟩
    all_goals first
     | (refine⟨_,h,rfl,λw B lab E F q I u v C D=>?_⟩
        obtain rfl:=C.fS;obtain rfl:=D.fS
        first
         |(refine⟨_,?_,.int _ _ _⟩;simp[eqGuard,binOp,Op.intArith];done)
         |(refine⟨_,?_,.int _ _ _⟩;simp[eqGuard,binOp,intBits_and,intBits_or,intBits_xor,intBits_andNot];done)
         |(refine⟨_,?_,.bool _ _⟩;simp[eqGuard,binOp,Op.intCmp];done))
     |cases h
   ·cases h
 ·rename_i a b;split at h
  ·rename_i T;split at h
   ·refine⟨_,h,rfl,λw B lab E F q I u v C D=>?_⟩
    obtain rfl:=C.wS;obtain rfl:=D.wS;have e:binOp .eql ty (.bool a) (.bool b)=(do pure (.bool (<- Op.equal ty (.bool a) (.bool b)))):=rfl;have g:eqGuard .eql ty E F (.bool a) (.bool b)=pure ():=rfl;exact⟨_,by rw[e,g,fA,Sem.run_pure,jO,fA,run_equal_bool _ _ _ _ T];rfl,.bool _ _⟩
   ·refine⟨_,h,rfl,λw B lab E F q I u v C D=>?_⟩
    obtain rfl:=C.wS;obtain rfl:=D.wS;have e:binOp .neq ty (.bool a) (.bool b)=(do pure (.bool (!(<- Op.equal ty (.bool a) (.bool b))))):=rfl;have g:eqGuard .neq ty E F (.bool a) (.bool b)=pure ():=rfl;exact⟨_,by rw[e,g,fA,Sem.run_pure,jO,fA,run_equal_bool _ _ _ _ T];rfl,.bool _ _⟩
   ·cases h
  ·cases h
 ·rename_i a b;split at h
  ·cases O:aT (a.size+b.size)with
   |false=>rw[O]at h;cases h
   | true=>
    rw[O]at h
    refine⟨_,h,rfl,λw B lab E F q I u v C D=>?_⟩
    obtain rfl:=C.om;obtain rfl:=D.om;have hL':a.size+b.size<1073741824:=by simpa [aT]using O
    refine⟨_,?_,.str _ _⟩;have h9:IntKind.i64.max=9223372036854775807:=rfl;simp only[eqGuard,binOp,Op.stringOp,h9];simp;omega
  ·refine⟨_,h,rfl,λw B lab E F q I u v C D=>?_⟩
   obtain rfl:=C.om;obtain rfl:=D.om;exact⟨_,by simp[eqGuard,binOp,Op.stringOp],.bool _ _⟩
  ·refine⟨_,h,rfl,λw B lab E F q I u v C D=>?_⟩
   obtain rfl:=C.om;obtain rfl:=D.om;exact⟨_,by simp[eqGuard,binOp,Op.stringOp],.bool _ _⟩
  ·cases h
 ·cases h
def Ey{X:Type}(D:UnOp)(x:V)(k:V->ah X):ah X:=
 match D,x with
 |.not,.bool b=>k (.bool (!b))
 |.neg,.int C n=>k (.int C (C.wrap (0-n)))
 |_,_=>none
def agN{D:UnOp}{x:V}{k:V->ah X}(h:Ey D x k=some r):∃ z,k z=some r/\z.plain=true/\∀ (w:World) (B:Nat) (lab:bg) (q:aa Nat) (u:Value),RV w B lab q x u->∃ t,(Op.unary D u).run P w = .ok t w/\RV w B lab [] z t:=by
 unfold Ey at h;split at h
 ·refine⟨_,h,rfl,λw B lab q u C=>?_⟩
  obtain rfl:=C.wS;exact⟨_,by simp[Op.unary],.bool _ _⟩
 ·refine⟨_,h,rfl,λw B lab q u C=>?_⟩
  obtain rfl:=C.fS;exact⟨_,by simp[Op.unary,Op.intArith],.int _ _ _⟩
 ·cases h
def V.Ez{x:V}(h:x.plain=true):x.aF=true:=by cases x<;>first|rfl|cases h
end
def iB(P:Program)(t:TypeId):ah Nat:=(P.info? t).map (·.size)
def BR(P:Program)(t:TypeId):ah Bool:=
 match P.underlying t with
 |some (.struct _)|some (.array _ _)=>some true
 |some _=>some false
 |none=>none
def oq(P:Program)(t:TypeId):ah TypeId:=
 match P.underlying t with
 |some (.slice e)=>some e
 |_=>none
def EA(P:Program)(s:TypeId)(f:Nat):ah Field:=
 match P.underlying s with
 |some (.struct C)=>C[f]?
 |_=>none
def uM{X:Type}(P:Program)(t:TypeId)(cs:aa Lf)(k:A->ah X):ah X:=
 match iB P t with
 | some n=>if cs.length=n then (match BR P t with
  |some true=>k (.agg cs)
  | some false=>(match cs with
   |[y]=>k (.lf y)
   |_=>none)
  |none=>none)else none
 |none=>none
def leaves(key:Nat->aa Nat):Nat->aa V->aa Lf
 |_,[]=>[]
 |j,z::C=>(bif z.aF then .v z else .own (key j))::leaves key (j+1) C
def mm{X:Type}(P:Program)(σ:S)(t:TypeId)(x:A)(k:A->ah X):ah X:=
 match iB P t with
 |none=>none
 | some n=>match x with
  | .aI r j=>(match σ.m r with
   |some (.blk cs)=>uM P t ((cs.drop j).take n) k
   |_=>none)
  |.ij cs=>uM P t ((cs.take n).map .v) k
  | .ptr (j :: i :: s :: q)=>iq σ.m q λy=>(match y with
   |.sl C (o+2) _ l=>if s=aA C then (if h:i<l.length then uM P t (leaves (λD=>D::i::s::q) j (((enc C o l[i]).drop j).take n)) k else none)else none
   |_=>none)
  |_=>none
section
variable {P:Program} {w:World} {w0:Wd} {B N:Nat} {lab:bg} {ρ:Nat->Loc} {σ:S} {a:Act} {X:Type} {r:X} {o:Oper}
def VO(key:Nat -> aa Nat):∀ (j:Nat) (C:aa V) (n:Nat),(leaves key j C)[n]?=(C[n]?).map λz=>bif z.aF then .v z else .own (key (j+n))
 |_,[],n=>by simp[leaves]
 |j,z::C,0=>by simp[leaves]
 | j,z :: C,n+1=>by
  simp[leaves,List.getElem?_cons_succ,VO]
  grind
def O3{t:TypeId}{cs:aa Lf}{k:A -> ah X}(h:uM P t cs k=some r):∃ x,k x=some r /\ ∀ (w:World) (B:Nat) (lab:bg) (ρ:Nat -> Loc) (b o:Nat) (D:aa Value),dR w B lab ρ cs D.toArray -> w.rangeAt b o D ->
  ∃v,(Instr.loadAt t (.pointer (some ⟨b,o,none⟩))).run P w = .ok v w/\RA w B lab ρ x v:=by
 unfold uM at h;split at h
 ·rename_i n L;split at h
  ·rename_i hlen;split at h
   ·rename_i C
    refine⟨_,h,λw B lab ρ b o D hl F=>?_⟩
    have I:D.length=n:=by have:=hl.1;simpa [hlen]using this
    unfold BR at C;split at C
    next U E=>exact⟨_,run_loadAt_mid w b o t D _ F E rfl (by rw[I];exact L),_,rfl,hl⟩
    next c e E=>exact⟨_,run_loadAt_mid w b o t D _ F E rfl (by rw[I];exact L),_,rfl,hl⟩
    ·cases C
    ·cases C
   ·rename_i C;split at h
    ·rename_i y
     refine⟨_,h,λw B lab ρ b o D hl F=>?_⟩
     have I:D.length=1:=by have:=hl.1;simpa using this
     obtain⟨v,rfl⟩:=List.length_eq_one_iff.1 I;have O:w.cell? ⟨b,o,none⟩=some v:=F 0 v rfl;obtain⟨u,E,hR⟩:=hl.2 0 y rfl;have:v=u:=by simpa using E
     subst this;refine⟨v,?_,hR⟩;unfold BR at C;split at C
     ·cases C
     ·cases C
     ·rename_i d Y Z E;have T:(isAgg t).run P w = .ok false w:=by
       unfold isAgg;rw[fA,fW E];simp_all
      simp[Instr.loadAt,Instr.sureAddr,loadVar,fA,T,load,Sem.run,O]
     ·cases C
    ·cases h
   ·cases h
  ·cases h
 ·cases h
def JG{α:Type}(l:aa α)(j n i:Nat)(x:α)(h:((l.drop j).take n)[i]?=some x):i<n/\l[j+i]?=some x:=by grind
def VP{t:TypeId}{x:A}{k:A -> ah X}(h:mm P σ t x k=some r):∃ y,k y=some r /\ ∀ lab ρ a w,Rl w0 N lab ρ σ a w -> ∀ u,RA w w0.heap.size lab ρ x u ->
  ∃v,(Instr.loadAt t u).run P w = .ok v w/\RA w w0.heap.size lab ρ y v:=by
 unfold mm at h;split at h
 ·cases h
 ·rename_i n hn;split at h
  ·rename_i r' j;split at h
   ·rename_i cs kH;obtain⟨y,T,U⟩:=O3 h
    refine⟨y,T,λlab ρ a w hR u Y=>?_⟩
    obtain⟨b,off,cD,rfl⟩:=Y;have I:=hR.root r' _ kH;generalize O:aM.blk cs=x at I;cases I with
    |sl=>cases O
    |mp=>cases O
    |gh=>cases O
    | blk b' zn cells e eo us gS hl hh hs hc=>
     injection O with O;subst O;rw[cD]at gS;injection gS with e1 e2;subst e1 e2
     refine U w _ lab ρ b (off+j) (((cs.drop j).take n).mapIdx λi _=>us (j+i)) ⟨by simp,λi x C=>?_⟩ (λi v D=>?_)
     ·obtain⟨hi,jW⟩:=JG _ _ _ _ _ C;simp_all
     ·rw[List.getElem?_mapIdx]at D;cases C:((cs.drop j).take n)[i]? with
      |none=>rw[C]at D;cases D
      | some x=>
       rw[C]at D;injection D with D;subst D;obtain⟨hi,jW⟩:=JG _ _ _ _ _ C;rw[cell_of_row w b _ cells _ _ hh,Nat.add_assoc];simp_all
   ·cases h
  ·rename_i cs;obtain⟨y,T,U⟩:=O3 h
   refine⟨y,T,λlab ρ a w hR u Y=>?_⟩
   obtain⟨b,off,rfl,hb,hl,hc⟩:=Y;have nL:∀ (i:Nat) (x:Lf),((cs.take n).map Lf.v)[i]?=some x -> ∃ z v,x = .v z/\z.aF=true/\w.cell? ⟨b,off+i,none⟩=some v/\RV w w0.heap.size lab [] z v:=by
    intro i x C;rw[dI]at C;cases F:(cs.take n)[i]? with
    |none=>rw[F]at C;cases C
    | some z=>
     rw[F]at C;injection C with C;rw[List.getElem?_take]at F;split at F
     ·obtain⟨qv,v,D,I⟩:=hc i z F
      grind
     ·cases F
   refine U w _ lab ρ b off (((cs.take n).map Lf.v).mapIdx λi _=>(w.cell? ⟨b,off+i,none⟩).getD undef) ⟨by simp,λi x C=>?_⟩ (λi v D=>?_)
   ·obtain⟨z,v,rfl,qv,D,I⟩:=nL i x C;refine⟨v,?_,qv,I⟩;simp_all
   ·rw[List.getElem?_mapIdx]at D;cases C:((cs.take n).map Lf.v)[i]? with
    |none=>rw[C]at D;cases D
    |some x =>grind
  ·rename_i j i s q;obtain⟨y0,hg,L⟩:=qq _ _ h;clear h;split at L
   ·rename_i E o' qn l;split at L
    ·rename_i hs;subst hs;split at L
     ·rename_i hi;obtain⟨y,T,U⟩:=O3 L
      refine⟨y,T,λlab ρ a w hR u Y=>?_⟩
      obtain⟨ad,rfl,qp⟩:=Y;obtain⟨D,iX,kI⟩:=hg.ok hR.root;cases kI with
      |dN=>simp at hi
      |eX=>simp at hi
      |fB=>simp at hi
      |aF _ _ _ _ _ _ _ _ _ ho=>omega
      | own _ _ _ _ _ b cap cs us ot hh hs hn qm hc I=>
       rw[zg j i (aA E) iX ot]at qp;injection qp with qp;subst qp;have nL:∀ (m:Nat) (x:Lf),(leaves (λZ=>Z :: i :: aA E :: q) j (((enc E o' l[i]).drop j).take n))[m]?=some x -> cs[i*aA E+(j+m)]?=some (us i (j+m))/\di w w0.heap.size lab ρ x (us i (j+m)):=by
        intro m x C;rw[VO]at C;cases F:(((enc E o' l[i]).drop j).take n)[m]? with
        |none=>rw[F]at C;cases C
        | some z=>
         rw[F]at C;injection C with C;have C:(bif z.aF then Lf.v z else Lf.own ((j+m)::i::aA E::q))=x:=C;obtain⟨_,BS⟩:=JG _ _ _ _ _ F;have h3:=hc i hi _ z BS;have h4:=I i hi _ z BS;refine⟨h3,?_⟩;cases BU:z.aF with
         | true=>
          rw[BU]at C;subst C;exact⟨BU,h4.key BU⟩
         | false=>
          rw[BU]at C;have C:Lf.own ((j+m)::i::aA E::q)=x:=C;subst C;refine⟨?_,?_⟩
          ·exact h4.OT BU
          ·rw[JA,zg _ i _ iX ot];show w.cell? _=_;rw[cell_of_row w b _ cs _ _ hh];exact h3
       refine U w _ lab ρ b (i*aA E+j) ((leaves (λZ=>Z::i::aA E::q) j (((enc E o' l[i]).drop j).take n)).mapIdx λm _=>us i (j+m)) ⟨by simp,λm x C=>?_⟩ (λm v D=>?_)
       ·simp[*]
       ·rw[List.getElem?_mapIdx]at D;cases C:(leaves (λZ=>Z :: i :: aA E :: q) j (((enc E o' l[i]).drop j).take n))[m]? with
        |none=>rw[C]at D;cases D
        | some x=>
         rw[C]at D;injection D with D;subst D;rw[cell_of_row w b _ cs _ _ hh,Nat.add_assoc];simp_all
     ·cases L
    ·cases L
   ·cases L
  ·cases h
end
def A.wT:A->ah (aa Lf)
 |.lf x=>some [x]
 |.agg xs=>some xs
 |_=>none
def Lf.live:Lf->Bool
 |.dead=>false
 |_=>true
def Lf.pl:Lf->ah V
 |.v x=>bif x.plain then some x else none
 |_=>none
def oY:aa Lf->ah (aa V)
 |[]=>some []
 | x :: xs=>match x.pl,oY xs with
  |some y,some ys=>some (y::ys)
  |_,_=>none
def uN{X:Type}(m:Nat->ah aM):aa Nat->V->((Nat->ah aM)->ah X)->ah X
 | [r],y,k=>match m r with
  |some (.sl _)=>k (bE m r (some (.sl y)))
  |_=>none
 | j :: i :: s :: q,y,k=>iq m q λz=>match z with
  | .sl t (o+2) C l=>if s=aA t then (if h:i<l.length then (if j<aA t then (match dec t o (cP (enc t o l[i]) j [y])with
   |some e=>uN m q (.sl t (o+2) C (l.set i e)) k
   |none=>none)else none)else none)else none
  |_=>none
 |_,_,_=>none
def ou{X:Type}(P:Program)(σ:S)(t:TypeId)(x y:A)(k:S->ah X):ah X:=
 match iB P t,y.wT with
 | some n,some xs=>if xs.length=n then (match x with
  | .aI r j=>(match σ.m r with
   |some (.blk cs)=>if j+n<=cs.length then (bif xs.all Lf.live then k ⟨σ.t,bE σ.m r (some (.blk (cP cs j xs)))⟩else none)else none
   |_=>none)
  | .ptr (j :: i :: s :: q)=>(match oY xs with
   |none=>none
   | some D=>iq σ.m q λy=>(match y with
    | .sl C (o+2) E l=>if s=aA C then (if h:i<l.length then (if j+D.length<=aA C then (bif (((enc C o l[i]).drop j).take D.length).all V.plain then (match dec C o (cP (enc C o l[i]) j D)with
     |some e=>uN σ.m q (.sl C (o+2) E (l.set i e)) λm=>k ⟨σ.t,m⟩
     |none=>none)else none)else none)else none)else none
    |_=>none))
  |_=>none)else none
 |_,_=>none
section
variable {P:Program} {w:World} {w0:Wd} {B N:Nat} {lab:bg} {ρ:Nat->Loc} {σ:S} {a:Act} {X:Type} {r:X} {o:Oper}
def VQ{m:Nat -> ah aM}:∀ (q:aa Nat) (y:V) (k:(Nat -> ah aM) -> ah X),uN m q y k=some r -> ∃ m',wP m q y m'/\k m'=some r
 |[],_,_,h=>by simp[uN]at h
 | [x],y,k,h=>by
  simp only[uN]at h;split at h
  next D E=>exact⟨_,.root x D y E,h⟩
  ·cases h
 | j :: i :: s :: q,y,k,h=>by
  simp only[uN]at h;obtain⟨z,F,C⟩:=qq q _ h;clear h;split at C
  ·split at C
   ·rename_i I;subst I;split at C
    ·rename_i hi;split at C
     ·rename_i L;split at C
      next e O=>obtain⟨m',T,U⟩:=VQ q _ k C;exact⟨m',.elem j i q _ _ _ _ y e m' F hi L O T,U⟩
      ·cases C
     ·cases C
    ·cases C
   ·cases C
  ·cases C
def JH:∀ (xs:aa Lf) (C:aa V),oY xs=some C -> xs=C.map .v /\ ∀ v∈C,v.plain=true
 | [],C,h=>by
  simp[oY]at h;subst h;exact⟨rfl,by simp⟩
 | x :: xs,C,h=>by
  unfold oY at h;split at h
  ·rename_i y ys D E;injection h with h;subst h;obtain⟨F,I⟩:=JH xs ys E;have:x = .v y/\y.plain=true:=by
    cases x with
    | v z=>
     unfold Lf.pl at D
     grind
    |own q=>cases D
    |dead=>cases D
   simp_all
  ·cases h
def agO{u:Value}(h:u.oneCell'=true):u.cells = #[u]:=by cases u<;>first|rfl|cases h
def di.one{x:Lf}{u:Value}(h:di w B lab ρ x u)(C:x.live=true):u.oneCell'=true:=by
 cases x with
 |v z=>exact h.2.one
 | own k=>
  have:=h.1;cases u<;>first|rfl|cases this
 |dead=>cases C
def EB{y:A}{xs:aa Lf}(h:y.wT=some xs)(D:xs.all Lf.live=true){u:Value}(C:RA w B lab ρ y u):dR w B lab ρ xs u.cells/\u.cells.all (·.oneCell')=true:=by
 have key:∀ us:Array Value,dR w B lab ρ xs us -> us.all (·.oneCell')=true:=by
  intro us E;rw[Array.all_eq_true];intro i hi;have I:=bQ (by rw[<- E.1];exact hi);obtain⟨v,F,L⟩:=E.2 i _ I;have:us[i]=v:=by rw[Array.getElem?_eq_getElem hi]at F;injection F
  rw[this];exact L.one (bW.1 D _ (cR _))
 cases y with
 | lf x=>
  injection h with h;subst h;have C:di w B lab ρ x u:=C;have O:=C.one (by simpa using D);have:dR w B lab ρ [x] u.cells:=by
   rw[agO O]
   refine⟨rfl,λj y T=>?_⟩
   grind
  simp_all
 | agg U=>
  injection h with h;subst h;obtain⟨us,rfl,h⟩:=C;exact⟨h,key _ h⟩
 |_=>cases h
def O4(w:World)(b o:Nat)(ty:TypeId)(v:Value)(D:w.there b o v.cells.size)(hi:(P.info? ty).map (·.size)=some v.cells.size)(F:v.cells.all (·.oneCell')=true):
  (Instr.storeAt ty (.pointer (some ⟨b,o,none⟩)) v).run P w = .ok () (w.setCells b o v.cells.toList):=by
 have:=run_storeCells_cells (P:=P) b o v.cells.toList 0 w (λj C=>by simpa using (D j (by simpa using C)).1) (λj C=>by simpa using (D j (by simpa using C)).2)
  (λv I=>(Array.all_eq_true_iff_forall_mem.1 F) v (by simpa using I))
 cases E:P.info? ty with
 |none=>simp_all
 | some i=>
  have L:v.cells.size=i.size:=by simp[E]at hi;omega
  simp[Instr.storeAt,Instr.sureAddr,storeVar,sizeOf,typeInfo,E,L,this]
def VR{t:TypeId}{x y:A}{k:S -> ah X}(h:ou P σ t x y k=some r):∃ cN,k cN=some r /\ ∀ lab ρ a w,Rl w0 N lab ρ σ a w -> ∀ u v,RA w w0.heap.size lab ρ x u -> RA w w0.heap.size lab ρ y v ->
  ∃w',(Instr.storeAt t u v).run P w = .ok () w'/\Rl w0 N lab ρ cN a w':=by
 unfold ou at h;split at h
 ·rename_i n xs hn oZ;split at h
  ·rename_i hlen;split at h
   ·rename_i r' j;split at h
    ·rename_i cs kH;split at h
     ·rename_i O;cases F:xs.all Lf.live with
      |false=>grind
      | true=>
       rw[F]at h
       refine⟨_,h,λlab ρ a w hR u v T U=>?_⟩
       obtain⟨b,off,cD,rfl⟩:=T;obtain⟨hl,Y⟩:=EB oZ F U;obtain⟨b',zn,gS,Z,eG⟩:=hR.Ev kH hl (by rw[hlen];exact O);rw[cD]at gS;injection gS with e1 e2;subst e1 e2;exact⟨_,O4 w b (off+j) t v Z (by rw[hl.1,hlen];exact hn) Y,eG⟩
     ·cases h
    ·cases h
   ·rename_i j i s q;split at h
    ·cases h
    ·rename_i E jX;obtain⟨y0,hg,C⟩:=qq _ _ h;clear h;split at C
     ·rename_i t' o' qn l;split at C
      ·rename_i hs;subst hs;split at C
       ·rename_i hi;split at C
        ·rename_i O;cases hold:(((enc t' o' l[i]).drop j).take E.length).all V.plain with
         |false=>grind
         | true=>
          rw[hold,aj]at C;split at C
          ·rename_i e he;obtain⟨m',rB,h3⟩:=VQ q _ _ C
           refine⟨_,h3,λlab ρ a w hR u v T U=>?_⟩
           obtain⟨ad,rfl,qp⟩:=T;obtain⟨I,JI⟩:=JH xs E jX;have F:xs.all Lf.live=true:=by rw[I];simp[Lf.live]
           obtain⟨hl,Y⟩:=EB oZ F U;have uO:E.length=n:=by rw[<- hlen,I,eE]
           have q1:∀ (D:Nat) x,D<E.length -> (enc t' o' l[i])[j+D]?=some x -> x.plain=true:=by
            intro D x wR hx;refine bW.1 hold x (fP (i:=D) ?_);simp_all
           have q2:∀ (D:Nat) x,E[D]?=some x -> ∃ L,v.cells[D]?=some L/\RV w w0.heap.size lab [] x L:=by
            intro D x hx;obtain⟨L,s5,fC⟩:=hl.2 D (.v x) (by rw[I,dI,hx];rfl);exact⟨L,s5,fC.2⟩
           obtain⟨b,hb,Z,eG⟩:=hR.agJ (xs:=E) (us:=v.cells) hg hi O he q1 JI (by rw[hl.1,I,eE]) q2 rB;rw[qp]at hb;injection hb with hb;subst hb;exact⟨_,O4 w b _ t v Z (by rw[hl.1,hlen];exact hn) Y,eG⟩
          ·cases C
        ·cases C
       ·cases C
      ·cases C
     ·cases C
   ·cases h
  ·cases h
 ·cases h
end
def BV{X:Type}(P:Program)(s:TypeId)(x:A)(f:Nat)(k:A->ah X):ah X:=
 match EA P s f with
 |none=>none
 | some C=>match iB P C.type with
  | some (_+1)=>(match x with
   |.aI r j=>k (.aI r (j+C.offset))
   |.ij cs=>k (.ij (cs.drop C.offset))
   |.ptr (j::i::s::q)=>k (.ptr ((j+C.offset)::i::s::q))
   |_=>none)
  |_=>none
def wU{X:Type}(P:Program)(σ:S)(t:TypeId)(x i:A)(k:A->ah X):ah X:=
 match oq P t with
 |none=>none
 | some e=>match iB P e,i with
  | some n,.lf (.v (.int _ C))=>(match x with
   |.lf (.v (.sl D g _ l))=>if n=aA D then (bif Nat.blt g 2 then (if h:0<=C/\C.toNat<l.length then k (.ij (enc D g (l[C.toNat]'h.2)))else none)else none)else none
   | .lf (.own q)=>iq σ.m q λy=>(match y with
    |.sl D g _ l=>if n=aA D then (if h:0<=C/\C.toNat<l.length then (bif Nat.blt g 2 then k (.ij (enc D g (l[C.toNat]'h.2)))else k (.ptr (0::C.toNat::aA D::q)))else none)else none
    |_=>none)
   |_=>none)
  |_,_=>none
def zo{X:Type}(P:Program)(σ:S)(t:TypeId)(x:A)(k:A->ah X):ah X:=
 match x with
 | .lf y=>nK σ y λz=>(match z with
  |.sl _ _ _ l=>(match P.underlying t with|some (.slice _)=>k (.lf (.v (.int .i64 (l.length:Int))))|_=>none)
  |.nil=>(match P.underlying t with|some (.slice _)=>k (.lf (.v (.int .i64 0)))|_=>none)
  |.str s=>(match P.underlying t with|some .string=>k (.lf (.v (.int .i64 (s.size:Int))))|_=>none)
  |_=>none)
 |.view _ _ i j=>(match P.underlying t with|some (.slice _)=>k (.lf (.v (.int .i64 ((j-i:Nat):Int))))|_=>none)
 |_=>none
def wV:Bool×aa Lf->ah A
 |(true,cs)=>some (.agg cs)
 |(false,[y])=>some (.lf y)
 |_=>none
def zq{X:Type}(x:A)(i:Nat)(k:A->ah X):ah X:=
 match x with
 | .ez xs=>match (xs[i]?).bind wV with
  |some y=>k y
  |none=>none
 |_=>none
section
variable {P:Program} {w:World} {w0:Wd} {B N:Nat} {lab:bg} {ρ:Nat->Loc} {σ:S} {a:Act} {X:Type} {r:X} {o:Oper} {w':World} {ax:bg} {ρ':Nat->Loc} {d:Nat}
def agP(n:Nat){j i s:Nat}{q:aa Nat}{ad:Addr}(h:addrAt w lab ρ (j :: i :: s :: q)=some ad):addrAt w lab ρ ((j+n) :: i :: s :: q)=some ⟨ad.block,ad.off+n,none⟩:=by
 match q,h with
 | [r],h=>
  simp[addrAt]at h ⊢;split at h
  ·grind
  ·cases h
 | x :: y :: q,h=>
  simp[addrAt]at h ⊢;split at h
  ·grind
  ·cases h
def O5(w:World)(s:TypeId)(f:Nat)(C:Field)(n b off:Nat)(D:EA P s f=some C)(E:iB P C.type=some (n+1)):
  (Instr.fieldAt s (.pointer (some ⟨b,off,none⟩)) f).run P w = .ok (.pointer (some ⟨b,off+C.offset,none⟩)) w:=by
 unfold EA at D;split at D
 ·rename_i L I;unfold iB at E;cases F:P.info? C.type with
  |none=>simp_all
  | some i=>
   have hi:i.size=n+1:=by simpa [F]using E
   simp[Instr.fieldAt,fW I,D,Instr.sureAddr,fieldPlace,sizeOf,typeInfo,F,hi,Addr.add_mid]
 ·cases D
def agQ{s:TypeId}{x:A}{f:Nat}{k:A -> ah X}(h:BV P s x f k=some r):∃ y,k y=some r /\ ∀ (w:World) (B:Nat) (lab:bg) (ρ:Nat -> Loc) (u:Value),RA w B lab ρ x u ->
  ∃v,(Instr.fieldAt s u f).run P w = .ok v w/\RA w B lab ρ y v:=by
 unfold BV at h;split at h
 ·cases h
 ·rename_i D E;split at h
  ·rename_i n F;split at h
   ·rename_i U j
    refine⟨_,h,λw B lab ρ u C=>?_⟩
    obtain⟨b,off,O,rfl⟩:=C;exact⟨_,O5 w s f D n b _ E F,b,off,O,by rw[Nat.add_assoc]⟩
   ·rename_i cs
    refine⟨_,h,λw B lab ρ u C=>?_⟩
    obtain⟨b,off,rfl,hb,hl,Y⟩:=C
    refine⟨_,O5 w s f D n b _ E F,b,_,rfl,hb,hl,λj x Z=>?_⟩
    grind
   ·rename_i j i s' q
    refine⟨_,h,λw B lab ρ u C=>?_⟩
    obtain⟨ad,rfl,I⟩:=C;have T:=agP D.offset I;obtain⟨_,_,_,_,_,_,_,L,_⟩:=zh _ _ I;obtain⟨b,off,sp⟩:=ad;simp only at L;subst L;exact⟨_,O5 w s f D n b off E F,_,rfl,T⟩
   ·cases h
  ·cases h
def O6(w:World)(t e:TypeId)(n b off len cap:Nat)(I:IntKind)(D:Int)(C:oq P t=some e)(E:iB P e=some n)(L:0 <= D)(Y:D.toNat<len):
  (Instr.indexAt t (.slice (some ⟨b,off,none⟩) len cap) (.int I D)).run P w = .ok (.pointer (some ⟨b,off+D.toNat*n,none⟩)) w:=by
 unfold oq at C;split at C
 ·rename_i O T;injection C with C;subst C;unfold iB at E;cases F:P.info? O with
  |none=>simp_all
  | some i=>
   have hi:i.size=n:=by simpa [F]using E
   have U:D<len:=by omega
   simp[Instr.indexAt,fW T,asIntOf,L,U,sizeOf,typeInfo,F,hi,Addr.add_mid]
 ·cases C
def agR{t:TypeId}{x i:A}{k:A -> ah X}(h:wU P σ t x i k=some r):∃ y,k y=some r /\ ∀ lab ρ a w,Rl w0 N lab ρ σ a w -> ∀ u v,RA w w0.heap.size lab ρ x u -> RA w w0.heap.size lab ρ i v ->
  ∃p,(Instr.indexAt t u v).run P w = .ok p w/\RA w w0.heap.size lab ρ y p:=by
 unfold wU at h;split at h
 ·cases h
 ·rename_i e U;split at h
  ·rename_i n Y Z hn;split at h
   ·rename_i t' g qn l;split at h
    ·rename_i wW;subst wW;cases D:Nat.blt g 2 with
     |false=>grind
     | true=>
      rw[D,aj]at h;split at h
      ·rename_i hb
       refine⟨_,h,λlab ρ a w hR u v E F=>?_⟩
       obtain rfl:=F.2.fS;have JJ:g<2:=by have:=cr D;omega
       cases E.2 with
       |dN=>simp at hb
       |eX=>simp at hb
       |fB=>simp at hb
       |own=>grind
       | aF _ _ _ _ _ b off cap us ho hl O7 h1 hcap hc T=>
        refine⟨_,O6 w t e _ b off _ cap Y Z U hn hb.1 hb.2,b,_,rfl,O7,hl,λj x I=>⟨oh t' g _ JJ j x I,us _ j,?_,T _ hb.2 j x I⟩⟩
        grind
      ·cases h
    ·cases h
   ·rename_i q;obtain⟨y0,D,C⟩:=qq _ _ h;clear h;split at C
    ·rename_i t' L qn l;split at C
     ·rename_i wW;subst wW;split at C
      ·rename_i hb;cases O:Nat.blt L 2 with
       | true=>
        rw[O,aj]at C;have VS:L<2:=cr O
        refine⟨_,C,λlab ρ a w hR u v E F=>?_⟩
        obtain rfl:=F.2.fS;obtain⟨zi,iX,kI⟩:=D.ok hR.root;have:zi=u:=by
         have h3:=E.2;simp_all
        subst this;cases kI with
        |dN=>simp at hb
        |eX=>simp at hb
        |fB=>simp at hb
        |own=>grind
        | aF _ _ _ _ _ b off cap us ho hl O7 h1 hcap hc T=>
         refine⟨_,O6 w t e _ b off _ cap Y Z U hn hb.1 hb.2,b,_,rfl,O7,hl,λj x I=>⟨oh t' L _ VS j x I,us _ j,?_,T _ hb.2 j x I⟩⟩
         grind
       | false=>
        rw[O,au]at C;have VS:¬ L<2:=λdV=>by have h9:Nat.blt L 2=true:=gP dV;rw[h9]at O;cases O
        refine⟨_,C,λlab ρ a w hR u v E F=>?_⟩
        obtain rfl:=F.2.fS;obtain⟨zi,iX,kI⟩:=D.ok hR.root;have:zi=u:=by
         have h3:=E.2;simp_all
        subst this;cases kI with
        |dN=>simp at hb
        |eX=>simp at hb
        |fB=>simp at hb
        |aF _ _ _ _ _ _ _ _ _ ho=>omega
        | own _ _ _ _ _ b cap cs us ot hh hs wR qm hc T=>
         refine⟨_,O6 w t e _ b 0 _ cap Y Z U hn hb.1 hb.2,_,rfl,?_⟩;rw[zg 0 _ _ iX ot];simp
      ·cases C
     ·cases C
    ·cases C
   ·cases h
  ·cases h
def agS{t ty:TypeId}{x:A}{k:A->ah X}(h:zo P σ t x k=some r):∃ y,k y=some r/\∀ lab ρ a w,Rl w0 N lab ρ σ a w->∀ u,RA w w0.heap.size lab ρ x u->
  ∃v,(Builtin.len_ #[t] ty #[u]).run P w = .ok v w/\RA w w0.heap.size lab ρ y v:=by
 unfold zo at h;split at h
 ·rename_i y;have key:∃ z,(∀ lab ρ a w,Rl w0 N lab ρ σ a w->∀ u,di w w0.heap.size lab ρ y u->∃ q,RV w w0.heap.size lab q z u)/\(match z with
    |.sl _ _ _ l=>(match P.underlying t with|some (.slice _)=>k (.lf (.v (.int .i64 (l.length:Int))))|_=>none)
    |.nil=>(match P.underlying t with|some (.slice _)=>k (.lf (.v (.int .i64 0)))|_=>none)
    |.str s=>(match P.underlying t with|some .string=>k (.lf (.v (.int .i64 (s.size:Int))))|_=>none)
    |_=>none)=some r:=by
   cases y with
   |v z=>exact⟨z,λlab ρ a w _ u D=>⟨[],D.2⟩,h⟩
   |dead=>cases h
   | own q=>
    obtain⟨z,I,h⟩:=qq q _ h
    refine⟨z,λlab ρ a w hR u D=>?_,h⟩
    obtain⟨v,O,F⟩:=I.ok hR.root;have L:=D.2;rw[O]at L;injection L with L;subst L;exact⟨q,F⟩
  obtain⟨z,I,C⟩:=key;clear h;split at C
  ·rename_i T g U l;split at C
   ·rename_i e E
    refine⟨_,C,λlab ρ a w hR u D=>?_⟩
    obtain⟨q,F⟩:=I lab ρ a w hR u D;cases F with
    |dN=>exact⟨_,by simp[Builtin.len_,fW E,goInt],rfl,.int _ _ _⟩
    |eX=>exact⟨_,by simp[Builtin.len_,fW E,goInt],rfl,.int _ _ _⟩
    |fB=>exact⟨_,by simp[Builtin.len_,fW E,goInt],rfl,.int _ _ _⟩
    |aF=>exact⟨_,by simp[Builtin.len_,fW E,goInt],rfl,.int _ _ _⟩
    |own=>exact⟨_,by simp[Builtin.len_,fW E,goInt],rfl,.int _ _ _⟩
   ·cases C
  ·split at C
   ·rename_i e E
    refine⟨_,C,λlab ρ a w hR u D=>?_⟩
    obtain⟨q,F⟩:=I lab ρ a w hR u D;cases F;exact⟨_,by simp[Builtin.len_,fW E,goInt],rfl,.int _ _ _⟩
   ·cases C
  ·split at C
   ·rename_i E
    refine⟨_,C,λlab ρ a w hR u D=>?_⟩
    obtain⟨q,F⟩:=I lab ρ a w hR u D;obtain rfl:=F.om;exact⟨_,by simp[Builtin.len_,fW E,goInt],rfl,.int _ _ _⟩
   ·cases C
  ·cases C
 ·split at h
  ·rename_i e E
   refine⟨_,h,λlab ρ a w hR u D=>?_⟩
   obtain⟨A,n,c,O,Y,C,rfl⟩:=D;exact⟨_,by cases A<;>simp[sliced,Builtin.len_,fW E,goInt],rfl,.int _ _ _⟩
  ·cases h
 ·cases h
def O8{p:Bool×aa Lf}{y:A}(h:wV p=some y){u:Value}(C:RP w B lab ρ p u):RA w B lab ρ y u:=by
 unfold wV at h;split at h
 ·injection h with h;subst h;exact C
 ·rename_i z;injection h with h;subst h;obtain⟨D,E,F⟩:=C.2 0 z rfl;have:u=D:=by simpa using E
  subst this;exact F
 ·cases h
def agT{x:A}{i:Nat}{k:A -> ah X}(h:zq x i k=some r):∃ y,k y=some r /\ ∀ (w:World) (B:Nat) (lab:bg) (ρ:Nat -> Loc) (u:Value),RA w B lab ρ x u ->
  ∃v,(Instr.extract u i).run P w = .ok v w/\RA w B lab ρ y v:=by
 unfold zq at h;split at h
 ·rename_i xs;split at h
  ·rename_i y C
   refine⟨y,h,λw B lab ρ u E=>?_⟩
   obtain⟨us,rfl,O,F⟩:=E;cases D:xs[i]? with
   |none=>simp_all
   | some p=>
    rw[D]at C;obtain⟨v,I,L⟩:=F i p D;exact⟨v,by simp[Instr.extract,I],O8 C L⟩
  ·cases h
 ·cases h
def VT{k:aa Nat}(h:cF d k=true):[d] <:+ k:=by
 have h:k.getLast?=some d:=by simpa [cF]using h
 obtain⟨y,C⟩:=List.getLast?_eq_some_iff.1 h;simp_all
def JK{j i s:Nat}{q:aa Nat}(C:q≠[]):cF d (j :: i :: s :: q)=cF d q:=by
 cases q with
 |nil=>simp_all
 |cons x q=>simp[cF]
structure BW (w w':World) (lab ax:bg) (d:Nat):Prop where
 size:w.heap.size<=w'.heap.size
 block:∀b,b<w.heap.size->lab b≠some [d]->w'.heap[b]?=w.heap[b]?
 O9:∀b,b<w.heap.size->ax b=lab b
 ne:∀b,lab b≠some []
def BW.tr(C:BW w w' lab ax d)(D:∀ b k,lab b=some k->b<w.heap.size)(E:∀ r,r≠d->ρ' r=ρ r):Tr w w' lab ax ρ ρ' (cF d) (λr=>Nat.beq r d):=by
 refine⟨C.size,λb hb hl=>⟨C.block b hb (by rw[hl];simp),(C.O9 b hb).trans hl⟩,λb k hl F=>⟨C.block b (D b k hl) ?_,(C.O9 b (D b k hl)).trans hl⟩,λr I=>E r (by rintro rfl;simp at I),λj i s x q=>JK (by simp),λb hb=>absurd hb (C.ne b)⟩
 rw[hl];intro e;injection e with e;subst e;simp[cF]at F
def RA.Pa{x:A}{u:Value}(h:RA w B lab ρ x u)(C:BW w w' lab ax d)(D:∀b k,lab b=some k->b<w.heap.size)(E:∀r,r≠d->ρ' r=ρ r):RA w' B ax ρ' (x.drop d) u:=h.tr (C.tr D E) (sX (λ_ h=>h) λ_=>nH)
def dz.Pa{r:Nat}(C:r≠d){x:aM}(h:dz w B lab ρ r x)(D:BW w w' lab ax d)(E:∀b k,lab b=some k->b<w.heap.size)(F:∀r,r≠d->ρ' r=ρ r):dz w' B ax ρ' r (x.drop d):=h.tr (D.tr E F) (sX (λ_ h=>h) λ_=>nH) (by simpa [cF]using C) (nH C)
def Rl.s6{x:aM}(h:Rl w0 N lab ρ σ a w)(T:w0.F d=none)(hb:gQ w0 w w')(E:BW w w' lab ax d)(U:∀ b k,w.heap.size <= b -> ax b=some k -> b<w'.heap.size/\k≠[])(I:∀ r,r≠d -> ρ' r=ρ r)(hx:dz w' w0.heap.size ax ρ' d x):
  Rl w0 N ax ρ' ((σ.drop d).root d x) a w':=by
 have O:=λb k hb=>(h.cE b k hb).2.1
 refine⟨h.below.trans hb,λb k L=>?_,λr y C=>?_,λk=>(h.tmp k).Pa E O I,h.size,h.defers,λr Y D=>(I r (by rintro rfl;rw[T]at D;cases D)).trans (h.fix r Y D),h.cY⟩
 ·rcases Nat.lt_or_ge b w.heap.size with Z | nI
  ·rw[E.O9 b Z]at L;have:=h.cE b k L;exact⟨this.1,Nat.lt_of_lt_of_le this.2.1 E.size,this.2.2⟩
  ·have:=U b k nI L;exact⟨.inl (Nat.le_trans h.below.size nI),this.1,this.2⟩
 ·by_cases D:r=d
  ·subst D;have C:(bE (σ.drop r).m r _) r=some y:=C;rw[bF]at C;simp_all
  ·have C:(bE (σ.drop d).m d (some x)) r=some y:=C;rw[bZ _ _ _ D]at C;have hb:Nat.beq r d=false:=by
    cases hb:Nat.beq r d with
    |false=>rfl
    |true=>simp_all
   simp only[S.drop,hb,au]at C;cases hm:σ.m r with
   |none=>simp_all
   | some z=>
    rw[hm]at C;injection C with C;subst C;exact(h.root r z hm).Pa D E O I
end
def ga(q:Nat)(nk k:aa Nat):aa Nat:=bif cF q k then k.dropLast++nk else k
def bg.ga(lab:bg)(q:Nat)(nk:aa Nat):bg:=λb=>(lab b).map (Proofs.YthmgjjfedieljaaGreatDoor.ga q nk)
section
variable {P:Program} {w w':World} {w0:Wd} {B N:Nat} {lab ax:bg} {ρ ρ':Nat->Loc} {σ:S} {a:Act} {X:Type} {d q:Nat} {nk:aa Nat}
def VU:ga q nk [q]=nk:=by simp[ga,cF]
def agU{k:aa Nat}(h:cF q k=false):ga q nk k=k:=by simp[ga,h]
def agV{j i s:Nat}{k:aa Nat}(C:k≠[]):ga q nk (j :: i :: s :: k)=j :: i :: s :: ga q nk k:=by
 unfold ga;rw[JK C];cases cF q k with
 |false=>rfl
 | true=>
  cases k with
  |nil=>simp_all
  |cons x k=>simp
def VV{k:aa Nat}(C:nk≠[])(D:k≠[]):ga q nk k≠[]:=by
 unfold ga;cases cF q k with
 |false=>simp_all
 |true=>simp[C]
def bg.Pb{b:Nat}(h:lab b=none):lab.ga q nk b=none:=by simp[bg.ga,h]
def bg.VW{b:Nat}{k:aa Nat}(h:lab b=some k):lab.ga q nk b=some (Proofs.YthmgjjfedieljaaGreatDoor.ga q nk k):=by simp[bg.ga,h]
def bg.VX{b:Nat}{k:aa Nat}(h:lab b=some k)(C:cF q k=false):lab.ga q nk b=some k:=by rw[bg.VW h,agU C]
def RV.ga{k:aa Nat}{x:V}{v:Value}(h:RV w B lab k x v)(D:∀ b,lab b≠some []):RV w B (lab.ga q nk) (Proofs.YthmgjjfedieljaaGreatDoor.ga q nk k) x v:=
 h.map (Q:=λk C=>C=Proofs.YthmgjjfedieljaaGreatDoor.ga q nk k) (c9 _) (λb _ h=>⟨rfl,bg.Pb h⟩) (λb k C _ hl e=>by
  subst e;exact⟨rfl,bg.VW hl,λj i s=>(agV λe=>D b (e ▸ hl)).symm⟩) (.inr rfl)
structure Rel (q:Nat) (lab ax:bg):Prop where
 ne:∀b,lab b≠some []
 none:∀b,lab b=none->ax b=Option.none
 jz:∀b k,lab b=some k->cF q k=false->ax b=some k
def EC(C:∀b,lab b≠some []):Rel q lab (lab.ga q nk):=⟨C,λ_ h=>bg.Pb h,λ_ _ h D=>bg.VX h D⟩
def Rel.tr(C:Rel q lab ax):Tr w w lab ax ρ ρ (cF q) (λ_=>false):=
 ⟨c9 _,λb _ hl=>⟨rfl,C.none b hl⟩,λb k hl D=>⟨rfl,C.jz b k hl D⟩,λ_ _=>rfl,λj i s x q=>JK (by simp),λb hb=>absurd hb (C.ne b)⟩
def RV.rel(C:Rel q lab ax){k:aa Nat}{x:V}{v:Value}(h:RV w B lab k x v)(D:cF q k=false\/x.aF=true):RV w B ax k x v:=h.tr (ρ:=λ_=>.cO undef) C.tr D.symm
def agW(C:Rel q lab ax)(k:aa Nat)(u:Value)(D:cF q k=false)(h:cC w lab ρ k=some u):cC w ax ρ k=some u:=OX C.tr k u (.inr D) (OY k) h
def dR.rel(C:Rel q lab ax){cs:aa Lf}{us:Array Value}(h:dR w B lab ρ cs us):dR w B ax ρ (cs.map (Lf.drop q)) us:=h.tr C.tr (sX (λ_ h=>h) λ_ _=>rfl)
def RA.rel(C:Rel q lab ax){x:A}{u:Value}(h:RA w B lab ρ x u):RA w B ax ρ (x.drop q) u:=h.tr C.tr (sX (λ_ h=>h) λ_ _=>rfl)
def dz.rel(C:Rel q lab ax){r:Nat}(D:r≠q){x:aM}(h:dz w B lab ρ r x):dz w B ax ρ r (x.drop q):=h.tr C.tr (sX (λ_ h=>h) λ_ _=>rfl) (by simpa [cF]using D) rfl
def Rl.uP(h:Rl w0 N lab ρ σ a w):∀b,lab b≠some []:=λb hb=>(h.cE b [] hb).2.2 rfl
def Rl.rel(h:Rl w0 N lab ρ σ a w)(E:Rel q lab ax)(I:∀ b k,ax b=some k -> (∃ D,lab b=some D)/\k≠[]):Rl w0 N ax ρ (σ.drop q) a w:=by
 refine⟨h.below,λb k L=>?_,λr x C=>?_,λk=>(h.tmp k).rel E,h.size,h.defers,h.fix,h.cY⟩
 ·obtain⟨⟨D,hl⟩,T⟩:=I b k L;have:=h.cE b D hl;simp_all
 ·have C:(bif Nat.beq r q then none else (σ.m r).map _)=some x:=C;cases hb:Nat.beq r q with
  |true=>simp_all
  | false=>
   rw[hb]at C;have O:r≠q:=by rintro rfl;simp at hb
   cases F:σ.m r with
   |none=>simp_all
   | some y=>
    rw[F]at C;injection C with C;subst C;exact(h.root r y F).rel E O
def Rl.agX{z:V}(h:Rl w0 N lab ρ σ a w)(I:σ.m q=some (.sl z))(L:nk≠[]):∃ u,ρ q = .cO u/\Rl w0 N (lab.ga q nk) ρ (σ.drop q) a w/\RV w w0.heap.size (lab.ga q nk) nk z u:=by
 have E:=h.uP;have F:=h.root q _ I;generalize C:aM.sl z=x at F;cases F with
 |blk=>cases C
 |mp=>cases C
 |gh=>cases C
 | sl u y O T=>
  injection C with C;subst C
  refine⟨u,O,h.rel (EC E) λb k D=>?_,?_⟩
  ·unfold bg.ga at D;cases hl:lab b with
   |none=>simp_all
   | some U=>
    rw[hl]at D;injection D with D;subst D;exact⟨⟨U,rfl⟩,VV L (λe=>E b (by rw[hl,e]))⟩
  ·have:=T.ga (q:=q) (nk:=nk) E
   rwa [VU]at this
def gp(r:Nat)(key:Nat->aa Nat):Nat->Nat->aa Lf->S->ah (aa V×S)
 |_,_,[],σ=>some ([],σ)
 |f+1,j,.v x::xs,σ=>(gp r key f (j+1) xs σ).map λp=>(x::p.1,p.2)
 | f+1,j,.own [q] :: xs,σ=>match σ.m q with
  |some (.sl z)=>bif Nat.beq q r then none else (gp r key f (j+1) (xs.map (Lf.drop q)) (σ.drop q)).map λp=>(z::p.1,p.2)
  |_=>none
 |_,_,_,_=>none
def JL{r:Nat}{key:Nat->aa Nat}(T:∀ j,cF r (key j)=true):∀ (f j:Nat) (xs:aa Lf) (σ E:S) (F:aa V),gp r key f j xs σ=some (F,E)->∀ lab ρ a w,Rl w0 N lab ρ σ a w->∀ us:aa Value,dR w w0.heap.size lab ρ xs us.toArray->
  ∃ ax,Rl w0 N ax ρ E a w/\F.length=xs.length/\(∀ (n:Nat) x,F[n]?=some x->∃ u,us[n]?=some u/\RV w w0.heap.size ax (key (j+n)) x u)/\(∀ k x v,cF r k=true->RV w w0.heap.size lab k x v->RV w w0.heap.size ax k x v)/\
   (∀x,σ.m r=some (.sl x)->E.m r=some (.sl x))/\(∀k u,cF r k=true->cC w lab ρ k=some u->cC w ax ρ k=some u)/\(∀b,lab b=some [r]->ax b=some [r])/\(∀b,lab b=none->ax b=none)
 | 0,j,[],σ,E,F,h,lab,ρ,a,w,hR,us,I=>by
  simp only[gp,gG,Prod.mk.injEq]at h;obtain⟨rfl,rfl⟩:=h;exact⟨lab,hR,rfl,by simp,λ_ _ _ _ h=>h,λ_ h=>h,λ_ _ _ h=>h,λ_ h=>h,λ_ h=>h⟩
 | f+1,j,[],σ,E,F,h,lab,ρ,a,w,hR,us,I=>by
  simp only[gp,gG,Prod.mk.injEq]at h;obtain⟨rfl,rfl⟩:=h;exact⟨lab,hR,rfl,by simp,λ_ _ _ _ h=>h,λ_ h=>h,λ_ _ _ h=>h,λ_ h=>h,λ_ h=>h⟩
 |0,j,x::xs,σ,E,F,h,lab,ρ,a,w,hR,us,I=>by simp[gp]at h
 | f+1,j,x :: xs,σ,E,F,h,lab,ρ,a,w,hR,us,I=>by
  obtain⟨O,us,rfl⟩:∃ O JM,us=O :: JM:=by
   cases us with
   |nil=>have:=I.1;simp at this
   |cons O us=>exact⟨_,_,rfl⟩
  have U:di w w0.heap.size lab ρ x O:=by
   obtain⟨u,e,h⟩:=I.2 0 x rfl;simp at e;subst e;exact h
  have iL:dR w w0.heap.size lab ρ xs us.toArray:=⟨by have:=I.1;simpa using this,λn y C=>by
   obtain⟨u,e,h⟩:=I.2 (n+1) y C;exact⟨u,by simpa using e,h⟩⟩
  cases x with
  | v x=>
   simp only[gp,Option.map_eq_some_iff]at h;obtain⟨⟨Pc,qw⟩,h,e⟩:=h;simp only[Prod.mk.injEq]at e;obtain⟨rfl,rfl⟩:=e;obtain⟨ax,Y,Z,h3,D,h5⟩:=JL T f (j+1) xs σ qw Pc h lab ρ a w hR us iL
   refine⟨ax,Y,by simp[Z],λn y C=>?_,D,h5⟩
   cases n with
   | zero=>
    simp at C;subst C;refine⟨O,rfl,D _ _ _ (T _) (U.2.key U.1)⟩
   | succ n=>
    obtain⟨u,e,h⟩:=h3 n y (by simpa using C);exact⟨u,by simpa using e,by rw[show j+(n+1)=j+1+n by omega];exact h⟩
  |dead=>simp[gp]at h
  | own k=>
   match k,U,h with
   |[],_,h=>simp[gp]at h
   |_::_::_,_,h=>simp[gp]at h
   | [q],U,h=>
    simp only[gp]at h;split at h
    ·rename_i z hz;cases Pd:Nat.beq q r with
     |true=>rw[Pd]at h;cases h
     | false=>
      rw[Pd,au,Option.map_eq_some_iff]at h;obtain⟨⟨Pc,qw⟩,agY,e⟩:=h;simp only[Prod.mk.injEq]at e;obtain⟨rfl,rfl⟩:=e;have cS:q≠r:=by rintro rfl;simp at Pd
      have VY:key j≠[]:=by intro e;have:=T j;rw[e]at this;simp[cF]at this
      obtain⟨u,cD,eG,kI⟩:=hR.agX hz VY;have zu:u=O:=by
       have D:=U.2;simp only[cC,cD]at D;injection D
      subst zu;have mq:∀ k,cF r k=true->cF q k=false:=by
       intro k L;cases hq:cF q k with
       |false=>rfl
       | true=>
        exfalso;have Y:=VT L;have Z:=VT hq;exact cS (VK Y Z)
      obtain⟨ax,Y,Z,h3,D,h5,h6,h7,h8⟩:=JL T f (j+1) (xs.map (Lf.drop q)) (σ.drop q) qw Pc agY _ ρ a w eG us (iL.rel (EC hR.uP))
      refine⟨ax,Y,by simp[Z],λn y C=>?_,λk x v L hv=>D _ _ _ L (hv.rel (EC hR.uP) (.inl (mq k L))),λx hx=>h5 x ?_,λk v L hv=>h6 k v L (agW (EC hR.uP) k v (mq k L) hv),λb hb=>h7 b (bg.VX hb (by simpa [cF]using λe=>cS e.symm)),λb hb=>h8 b (bg.Pb hb)⟩
      ·cases n with
       | zero=>
        simp at C;subst C;exact⟨u,rfl,D _ _ _ (T _) kI⟩
       | succ n=>
        obtain⟨u,e,h⟩:=h3 n y (by simpa using C);exact⟨u,by simpa using e,by rw[show j+(n+1)=j+1+n by omega];exact h⟩
      ·have hb:Nat.beq r q=false:=by
        cases hb:Nat.beq r q with
        |false=>rfl
        |true=>exact absurd (cv hb).symm cS
       show (bif Nat.beq r q then none else (σ.m r).map (aM.drop q))=_;rw[hb,hx];rfl
    ·cases h
end
def mw:Value->Lf
 |.int k n=>.v (.int k n)
 |.bool b=>.v (.bool b)
 |.string s=>.v (.str s)
 |.slice none 0 0=>.v .nil
 |_=>.dead
def zeroV:Value->ah V
 |.int k n=>some (.int k n)
 |.bool b=>some (.bool b)
 |.string s=>some (.str s)
 |.slice none 0 0=>some .nil
 |_=>none
def ED:aa Value->ah (aa V)
 |[]=>some []
 | v :: C=>match zeroV v,ED C with
  |some x,some xs=>some (x::xs)
  |_,_=>none
def zeroOf(P:Program)(e:TypeId):ah Value:=(P.info? e).bind (·.zero)
def bytesOf(P:Program)(e:TypeId):ah Nat:=(P.info? e).map (·.bytes)
def fO{X:Type}(N:Nat)(σ:S)(d:Nat)(x:aM)(y:A)(k:S->ah X):ah X:=
 bif Nat.blt d N then k (((σ.drop d).root d x).set d y)else none
def o6{X:Type}(P:Program)(N:Nat)(σ:S)(d:Nat)(e:TypeId)(k:S->ah X):ah X:=
 match zeroOf P e with
 |some z=>fO N σ d (.blk (z.cells.toList.map mw)) (.aI d 0) k
 |none=>none
def rC(P:Program)(t:TypeId):ah (TypeId×TC):=
 match oq P t with
 |none=>none
 | some e=>match VE e,iB P e,bytesOf P e with
  |some C,some n,some b=>bif Nat.beq n (aA C)&&Nat.ble b 65536 then some (e,C)else none
  |_,_,_=>none
def JN(P:Program)(e:TypeId)(C:TC):ah (T C):=
 match zeroOf P e with
 |none=>none
 | some z=>match ED z.cells.toList with
  |none=>none
  |some D=>dec C (full C) D
def wX{X:Type}(P:Program)(N:Nat)(σ:S)(d:Nat)(t:TypeId)(l c:A)(k:S->ah X):ah X:=
 match rC P t,l,c with
 | some (e,C),.lf (.v (.int _ n)),.lf (.v (.int _ c))=>match JN P e C with
  |none=>none
  |some z=>if 0<=n/\n<=c/\c<1073741824 then fO N σ d (.sl (.sl C (full C+2) false (List.replicate n.toNat z))) (.lf (.own [d])) k else none
 |_,_,_=>none
def V.JO(t:TC):V->ah (aa (T t))
 |.sl C _ _ l=>if h:C=t then some (h ▸ l)else none
 |.nil=>some []
 |_=>none
def rD{X:Type}(P:Program)(N:Nat)(σ:S)(d:Nat)(t:TypeId)(x y:A)(k:S->ah X):ah X:=
 match rC P t with
 | some (e,C)=>bif Nat.beq (full C) 0&&(zeroOf P e).any (λz=>Nat.beq z.cells.size (aA C))then qt σ y λD=>(match D.JO C with
  |none=>none
  | some l2=>match x with
   |.lf (.v .nil)=>bif aT l2.length then fO N σ d (.sl (.sl C 2 false l2)) (.lf (.own [d])) k else none
   | .lf (.own [r])=>(match σ.m r with
    |some (.sl (.sl E (o+2) q l))=>if h:E=C then (bif Nat.blt d N&&(Nat.blt r N ||Nat.ble 60000 r)&&aT (l.length+l2.length)then k (((σ.drop r).root r (.sl (.sl C (o+2) false ((h ▸ l)++l2)))).set d (.lf (.own [r])))else none)else none
    |_=>none)
   |_=>none)else none
 |none=>none
section
variable {P:Program} {w w':World} {w0:Wd} {B N:Nat} {lab ax:bg} {ρ ρ':Nat->Loc} {σ:S} {a:Act} {X:Type} {d:Nat} {r:X} {q:Nat} {o:Oper}
def JP(v:Value):di w B lab ρ (mw v) v:=by
 unfold mw;split
 ·exact⟨rfl,.int _ _ _⟩
 ·exact⟨rfl,.bool _ _⟩
 ·exact⟨rfl,.str _ _⟩
 ·exact⟨rfl,.nil _⟩
 ·trivial
def VZ{v:Value}{x:V}(h:zeroV v=some x)(q:aa Nat):RV w B lab q x v:=by
 unfold zeroV at h;split at h<;>first|(injection h with h;subst h;first|exact .int _ _ _|exact .bool _ _|exact .str _ _|exact .nil _)|cases h
def Pe:∀ (C:aa Value) (xs:aa V),ED C=some xs -> xs.length=C.length /\ ∀ (j:Nat) x,xs[j]?=some x -> ∃ v,C[j]?=some v/\zeroV v=some x
 | [],xs,h=>by
  simp[ED]at h;simp_all
 | v :: C,xs,h=>by
  unfold ED at h;split at h
  ·rename_i y ys E D;injection h with h;subst h;obtain⟨F,I⟩:=Pe C ys D
   grind
  ·cases h
def gQ.V0(w0:Wd)(w:World)(o:Obj)(h:w0.heap.size<=w.heap.size):gQ w0 w (w.alloc o):=.of ((Below.refl w0.heap.size w).alloc h o) (c9 _)
def Rl.zw{c:Array Value}{e:TypeId}{x:aM}{ρ':Nat -> Loc}(h:Rl w0 N lab ρ σ a w)(D:w0.F d=none)(E:∀ r,r≠d -> ρ' r=ρ r)
  (I:dz (w.alloc (.cells c e)) w0.heap.size (bE lab w.heap.size (some [d])) ρ' d x):Rl w0 N (bE lab w.heap.size (some [d])) ρ' ((σ.drop d).root d x) a (w.alloc (.cells c e)):=by
 refine h.s6 D (gQ.V0 w0 w _ h.below.size) ⟨by simp,λb hb _=>Below.heap_alloc w _ b hb,λb hb=>bZ _ _ _ (by omega),λb hb=>(h.cE b [] hb).2.2 rfl⟩ (λb k hb C=>?_) E I
 by_cases e:b=w.heap.size
 ·subst e;rw[bF]at C;injection C with C;subst C;simp_all
 ·rw[bZ _ _ _ e]at C;have:=(h.cE b k C).2.1;omega
def kJ{x:aM}{y:A}{k:S -> ah X}(h:fO N σ d x y k=some r):d<N/\k (((σ.drop d).root d x).set d y)=some r:=by
 unfold fO at h;cases C:Nat.blt d N with
 |false=>simp_all
 |true=>simp_all
def agZ{e:TypeId}{k:S -> ah X}(h:o6 P N σ d e k=some r):∃ E,k E=some r /\ ∀ lab ρ a w,Rl w0 N lab ρ σ a w -> ∃ w' ax ρ' v,(Instr.alloc e true (.tuple #[])).run P w = .ok v w'/\Rl w0 N ax ρ' E (a.put (some d) v) w':=by
 unfold o6 at h;split at h
 ·rename_i z D;obtain⟨F,h⟩:=kJ h
  refine⟨_,h,λlab ρ a w hR=>?_⟩
  have O:(Instr.alloc e true (.tuple #[])).run P w = .ok (.pointer (some ⟨w.heap.size,0,none⟩)) (w.alloc (.cells z.cells e)):=by
   unfold zeroOf at D;cases hi:P.info? e with
   |none=>simp_all
   | some i=>
    have D:i.zero=some z:=by simpa [hi]using D
    simp[Instr.alloc,zeroValue,typeInfo,hi,D,newVar,newRow]
  refine⟨_,bE lab w.heap.size (some [d]),bE ρ d (.blk w.heap.size 0),_,O,(hR.zw (hR.cY d (.inl F)) (λr T=>bZ _ _ _ T) ?_).set ⟨w.heap.size,0,bF _ _ _,rfl⟩ F⟩
  refine .blk w.heap.size 0 z.cells e _ (λj=>z.cells.getD j undef) (bF _ _ _) (bF _ _ _) (heap_alloc_new w _) (by simp) λj x C=>?_
  rw[dI]at C;cases I:z.cells.toList[j]? with
  |none=>simp_all
  | some v=>
   rw[I]at C;injection C with C;subst C;have L:z.cells[j]?=some v:=by simpa using I
   have U:z.cells.getD j undef=v:=by rw[gw,L];rfl
   rw[U,eS];exact⟨L,JP v⟩
 ·cases h
def uQ{t e:TypeId}{C:TC}(h:rC P t=some (e,C)):P.underlying t=some (.slice e)/\tid C=e /\ ∃ i,P.info? e=some i/\i.size=aA C/\i.bytes <= 65536:=by
 unfold rC at h;split at h
 ·cases h
 ·rename_i F D;split at h
  ·rename_i I n b L O hb;cases E:(Nat.beq n (aA I)&&Nat.ble b 65536)with
   |false=>simp_all
   | true=>
    rw[E,aj]at h;injection h with h;injection h with T U;subst T U;rw[aH]at E;refine⟨?_,agD L,?_⟩
    ·unfold oq at D;split at D
     ·simp_all
     ·cases D
    ·unfold iB at O;unfold bytesOf at hb;cases hi:P.info? F with
     |none=>simp_all
     |some i =>simp_all
  ·cases h
def V1(z:Array Value)(n i j:Nat)(C:j<z.size)(h:i*z.size+j<n):(madeCells z n)[i*z.size+j]?=some z[j]:=by
 have D:(i*z.size+j) % z.size=j:=by rw[Nat.add_comm,Nat.add_mul_mod_self_right,Nat.mod_eq_of_lt C]
 simp[madeCells,Array.getElem?_map,Array.getElem?_range,h,if_true,Option.map_some,D];simp[C]
def ag0{t:TypeId}{l c:A}{k:S -> ah X}(h:wX P N σ d t l c k=some r):∃ Z,k Z=some r /\ ∀ lab ρ a w,Rl w0 N lab ρ σ a w -> ∀ u v,RA w w0.heap.size lab ρ l u -> RA w w0.heap.size lab ρ c v ->
  ∃w' ax ρ' x,(Instr.makeSlice t u v).run P w = .ok x w'/\Rl w0 N ax ρ' Z (a.put (some d) x) w':=by
 unfold wX at h;split at h
 ·rename_i e D kl n kc c nM;split at h
  ·cases h
  ·rename_i z E;split at h
   ·rename_i hb;obtain⟨hd,h⟩:=kJ h
    refine⟨_,h,λlab ρ a w hR u v hu O=>?_⟩
    obtain rfl:=hu.2.fS;obtain rfl:=O.2.fS;obtain⟨fK,ht,i,hi,hsz,ir⟩:=uQ nM;unfold JN at E;split at E
    ·cases E
    ·rename_i C BX;split at E
     ·cases E
     ·rename_i vs jX;have nN:i.zero=some C:=by unfold zeroOf at BX;simpa [hi]using BX
      obtain⟨s8,jY⟩:=Pe _ _ jX;have T:=jU D (full D) vs z E;have L:C.cells.size=aA D:=by rw[<- jT D (full D) z,<- T.1,s8];simp
      have Eg:(i.bytes:Int)*c <= 281474976710656:=by
       have h1:(i.bytes:Int) <= 65536:=by omega
       have h2:i.bytes*c <= 65536*c:=Int.mul_le_mul_of_nonneg_right h1 (by omega);omega
      have dZ:=run_make (P:=P) w t e i C fK hi nN kl kc n c hb.1 hb.2.1 Eg (by omega);rw[hsz,<- L]at dZ
      refine⟨_,bE lab w.heap.size (some [d]),bE ρ d (.cO (.slice (some ⟨w.heap.size,0,none⟩) n.toNat c.toNat)),_,dZ,(hR.zw (hR.cY d (.inl hd)) (λr hr=>bZ _ _ _ hr) ?_).set ⟨rfl,?_⟩ hd⟩
      ·refine .sl _ _ (bF _ _ _) ?_;have hlen:(List.replicate n.toNat z).length=n.toNat:=by simp
       have:=RV.own (w:=w.alloc (.cells (madeCells C.cells (c.toNat*C.cells.size)) e)) (B:=w0.heap.size) (lab:=bE lab w.heap.size (some [d])) [d] D (full D) false (List.replicate n.toNat z) w.heap.size c.toNat (madeCells C.cells (c.toNat*C.cells.size)) (λ_ j=>C.cells.getD j undef)
        (bF _ _ _) (by rw[ht];exact heap_alloc_new w _) (by rw[size_madeCells,L]) (by rw[hlen];omega) ⟨by unfold maxLen;omega,λh=>by cases h⟩ (λU h' j x F=>?_) (λU h' j x F=>?_)
       ·rw[hlen]at this;exact this
       ·rw[List.getElem_replicate]at F;have I:j<aA D:=by have:=(de.1 F).1;rwa [jT]at this
        rw[hlen]at h';rw[<- L]at I;rw[<- L,V1 C.cells _ U j I (by
         have:(U+1)*C.cells.size <= c.toNat*C.cells.size:=gO _ (by omega);rw[gE]at this;omega)]
        simp[gw,I]
       ·rw[List.getElem_replicate]at F;have I:j<(enc D (full D) z).length:=(de.1 F).1;rw[<- T.1]at I;have Y:=bQ I;generalize vs[j]=y at Y;obtain⟨v,O,Pf⟩:=jY j y Y;have zi:C.cells[j]?=some v:=by simpa using O
        have hg:C.cells.getD j undef=v:=by rw[gw,zi];rfl
        rw[hg];exact(VZ Pf _).wk (T.2 j y x Y F)
      ·simp[cC,bF]
   ·cases h
 ·cases h
def BY(t:TC)(h:full t=0)(o C:Nat)(x:T t):enc t o x=enc t C x:=by
 have key:∀ o,enc t o x=enc t 0 x:=by
  intro o;rw[VF t o x];have:=wM t o x h
  conv=>lhs;rw[<- List.map_id (enc t o x)]
  apply nc;intro y D;have E:=this y D;cases y<;>first|rfl|cases E
 simp_all
def uR(u:Nat->Nat->Value)(n s:Nat):aa Value:=(List.range (n*s)).map λk=>u (k / s) (k % s)
def V2(u:Nat -> Nat -> Value)(n s i j:Nat)(hi:i<n)(C:j<s):(uR u n s)[i*s+j]?=some (u i j):=by
 have D:i*s+j<n*s:=by
  have:(i+1)*s <= n*s:=gO _ hi
  grind
 have E:(i*s+j) / s=i:=by rw[Nat.add_comm,Nat.add_mul_div_right _ _ (by omega),Nat.div_eq_of_lt C,eS]
 have F:(i*s+j) % s=j:=by rw[Nat.add_comm,Nat.add_mul_mod_self_right,Nat.mod_eq_of_lt C]
 simp[uR,D,E,F]
def JQ(u:Nat -> Nat -> Value)(n s k:Nat)(v:Value)(D:0<s)(h:(uR u n s)[k]?=some v):∃ i j,k=i*s+j/\i<n/\j<s/\v=u i j:=by
 have C:k<n*s:=by
  have:=(de.1 h).1
  simpa [uR]using this
 refine⟨k / s,k % s,by rw[Nat.mul_comm];exact(Nat.div_add_mod k s).symm,Nat.div_lt_of_lt_mul (by rw[Nat.mul_comm];exact C),Nat.mod_lt _ D,?_⟩;simp[uR,dI,List.getElem?_range C,Option.map_some,gG]at h;simp_all
def zx(t:TC)(o:Nat)(x:T t)(j:Nat)(C:j<aA t):∃y,(enc t o x)[j]?=some y:=⟨_,bQ (by rw[jT];exact C)⟩
def rE(t:TC)(l:aa (T t))(C:aa Value):Prop:=
 ∀i (hi:i<l.length) (o j:Nat) x,(enc t o l[i])[j]?=some x->∃v,C[i*aA t+j]?=some v/\v.oneCell'=true/\∀(w':World) (B':Nat) (ax:bg) (D:aa Nat),RV w' B' ax D x v
def RV.reads{q:aa Nat}{t:TC}{g:Nat}{qn:Bool}{l:aa (T t)}{u:Value}(h:RV w B lab q (.sl t g qn l) u)(O:full t=0):
  ∃A c news,u = .slice A l.length c/\Reads w w.heap.size (aA t) A l.length news/\(∀v∈news,v.oneCell'=true)/\rE t l news:=by
 cases h with
 |dN=>exact⟨none,0,[],rfl,Reads.none_,by simp,λi hi=>by simp at hi⟩
 |eX=>exact⟨_,_,[],rfl,⟨by simp,λh=>by simp at h⟩,by simp,λi hi=>by simp at hi⟩
 |fB=>exact⟨_,_,[],rfl,⟨by simp,λh=>by simp at h⟩,by simp,λi hi=>by simp at hi⟩
 | aF _ _ _ _ _ b off cap us ho hl hb h1 hcap Y I=>
  have L:∀ i (hi:i<l.length) j,j<aA t -> (us i j).oneCell'=true:=by
   intro i hi j C;obtain⟨y,F⟩:=zx t g l[i] j C;exact(I i hi j y F).one
  refine⟨_,cap,uR us l.length (aA t),rfl,⟨by simp[uR],λZ=>⟨b,off,rfl,hb,λk v E=>?_⟩⟩,λv E=>?_,λi hi o j x D=>?_⟩
  ·obtain⟨i,j,rfl,hi,C,rfl⟩:=JQ us _ _ k v (mh t) E;obtain⟨y,F⟩:=zx t g l[i] j C;exact Y i hi j y F
  ·obtain⟨k,U⟩:=List.mem_iff_getElem?.1 E;obtain⟨i,j,rfl,hi,C,rfl⟩:=JQ us _ _ k v (mh t) U;exact L i hi j C
  ·have C:j<aA t:=by have:=(de.1 D).1;rwa [jT]at this
   rw[BY t O o g]at D
   refine⟨us i j,V2 us _ _ i j hi C,L i hi j C,λw' B' ax q'=>(I i hi j x D).rz (wM t g l[i] O x (fP D))⟩
 | own _ _ o _ _ b cap cs us hl hh hs Z hm Y I=>
  have L:∀ i (hi:i<l.length) j,j<aA t -> (us i j).oneCell'=true:=by
   intro i hi j C;obtain⟨y,F⟩:=zx t o l[i] j C;exact(I i hi j y F).one
  refine⟨_,cap,uR us l.length (aA t),rfl,⟨by simp[uR],λZ=>⟨b,0,rfl,(gD.1 hh).1,λk v E=>?_⟩⟩,λv E=>?_,λi hi o' j x D=>?_⟩
  ·obtain⟨i,j,rfl,hi,C,rfl⟩:=JQ us _ _ k v (mh t) E;obtain⟨y,F⟩:=zx t o l[i] j C;rw[eS,cell_of_row w b _ cs _ _ hh];simp_all
  ·obtain⟨k,U⟩:=List.mem_iff_getElem?.1 E;obtain⟨i,j,rfl,hi,C,rfl⟩:=JQ us _ _ k v (mh t) U;exact L i hi j C
  ·have C:j<aA t:=by have:=(de.1 D).1;rwa [jT]at this
   rw[BY t O o' o]at D
   refine⟨us i j,V2 us _ _ i j hi C,L i hi j C,λw' B' ax q'=>(I i hi j x D).rz (wM t o l[i] O x (fP D))⟩
def RV.owns{q:aa Nat}{t:TC}{o:Nat}{D:Bool}{l:aa (T t)}{u:Value}(h:RV w B lab q (.sl t (o+2) D l) u)(E:full t=0){B':Nat}(hB:∀ b,lab b=some q -> B' <= b):
  ∃xs,w.ownsRow B' (tid t) (aA t) u l.length xs/\(∀b,u.ownBlock=some b -> lab b=some q)/\(D=true -> u.ownBlock≠none)/\rE t l xs:=by
 cases h with
 |eX=>omega
 |fB=>omega
 |dN=>exact⟨[],⟨by simp,.inl ⟨rfl,rfl⟩⟩,by simp[Value.ownBlock],by simp,λi hi=>by simp at hi⟩
 |aF _ _ _ _ _ _ _ _ _ ho=>omega
 | own _ _ _ _ _ b cap cs us hl I L O U hc F=>
  refine⟨cs.toList.take _,⟨?_,.inr ⟨b,cap,cs,rfl,hB b hl,I,O,U.1,L,rfl⟩⟩,λY Z=>?_,λ_=>by simp[Value.ownBlock],λi hi o' j x C=>?_⟩
  ·simp_all
  ·have:b=Y:=by simpa [Value.ownBlock]using Z
   simp_all
  ·have hj:j<aA t:=by have:=(de.1 C).1;rwa [jT]at this
   have dV:i*aA t+j<l.length*aA t:=by
    have:(i+1)*aA t <= l.length*aA t:=gO _ hi;rw[gE]at this;omega
   rw[BY t E o' o]at C
   refine⟨us i j,?_,(F i hi j x C).one,λw' B' ax q'=>(F i hi j x C).rz (wM t o l[i] E x (fP C))⟩
   grind
def rE.append{t:TC}{l l2:aa (T t)}{xs ys:aa Value}(h:rE t l xs)(E:rE t l2 ys)(hl:xs.length=l.length*aA t):rE t (l++l2) (xs++ys):=by
 intro i hi o j x C;by_cases D:i<l.length
 ·rw[List.getElem_append_left D]at C;obtain⟨v,F,r⟩:=h i D o j x C
  grind
 ·rw[List.getElem_append_right (by omega)]at C;have I:i-l.length<l2.length:=by rw[iH]at hi;omega
  obtain⟨v,F,r⟩:=E _ I o j x C;refine⟨v,?_,r⟩;have e:i*aA t+j=xs.length+((i-l.length)*aA t+j):=by
   rw[hl,Nat.sub_mul];have:l.length*aA t <= i*aA t:=gO _ (by omega);omega
  grind
def EE{q:aa Nat}{t:TC}{o:Nat}{l:aa (T t)}{u:Value}{xs:aa Value}{B':Nat}(h:w.ownsRow B' (tid t) (aA t) u l.length xs)(D:rE t l xs)(hl:∀ b,u.ownBlock=some b -> lab b=some q):
  RV w B lab q (.sl t (o+2) false l) u:=by
 rcases h.2 with ⟨rfl,E⟩|⟨b,cap,cs,rfl,hB,F,I,L,O,Y⟩
 ·have:=List.eq_nil_of_length_eq_zero E;subst this;exact .dN _ _ _
 ·have Z:∀ i _ j x,(enc t o l[i])[j]?=some x -> ∃ v,cs[i*aA t+j]?=some v /\ ∀ w' B' ax U,RV w' B' ax U x v:=by
   intro i hi j x C;obtain⟨v,hv,_,r⟩:=D i hi o j x C
   grind
  refine .own q t o false l b cap cs (λi j=>(cs[i*aA t+j]?).getD undef) (hl b rfl) F O I ⟨L,λh=>by cases h⟩ (λi hi j x C=>?_) (λi hi j x C=>?_)
  ·grind
  ·grind
def Rl.append{t e ty:TypeId}{C:TC}{i:TypeInfo}{z:Value}{rr o g:Nat}{q qn:Bool}{l l2:aa (T C)}{u v:Value}{q':aa Nat}{Bx:Nat}{Pg:bg}(h:Rl w0 N lab ρ σ a w)(hF:w0.F rr=none)(fK:P.underlying t=some (.slice e))(ht:tid C=e)(hi:P.info? e=some i)(hz:i.zero=some z)
  (hsz:i.size=aA C) (ir:i.bytes <= 65536) (lH:z.cells.size=aA C) (hf:full C=0) (hd:RV w w0.heap.size lab [rr] (.sl C (o+2) q l) u) (hs:RV w Bx Pg q' (.sl C g qn l2) v) (hlen:l.length+l2.length<1073741824):
  ∃D w' ax,(Builtin.append_ #[t,t] ty #[u,v]).run P w = .ok D w'/\Rl w0 N ax (bE ρ rr (.cO D)) ((σ.drop rr).root rr (.sl (.sl C (o+2) false (l++l2)))) a w'/\jy D=true:=by
 subst ht;obtain⟨xs,rF,U,BZ,fT⟩:=hd.owns hf (B':=0) (λb _=>gF b);obtain⟨A,c,news,rfl,uS,o7,zy⟩:=hs.reads hf;have gI:(l.length+l2.length)*i.bytes <= 140737488355328:=by
  have h1:(l.length+l2.length)*i.bytes <= 1073741824*65536:=Nat.mul_le_mul (by omega) ir;omega
 obtain⟨D,w',dZ,L,I,iM⟩:=OF (P:=P) w 0 t ty (tid C) i z (aA C) i.bytes fK hi hz hsz rfl lH (mh C) u l.length xs rF _ A l2.length c news uS o7 (by unfold maxLen;omega) gI (gF _);have zz:(l++l2).length=l.length+l2.length:=iH;rw[<- zz]at L;have s9:=fT.append zy rF.1;have fo:jy D=true:=by rcases L.2 with ⟨rfl,_⟩|⟨_,_,_,rfl,_⟩<;>rfl
 have Y:Below 0 w w':=(Below.refl 0 w).grown I (gF _) (λ_ _=>gF _);have o8:gQ w0 w w':=⟨Y.os,Y.tape,Y.output,Y.size,λk E hL=>I.block k (Nat.lt_of_lt_of_le E h.below.size) (λO=>by
  rcases(h.cE k _ (U k O.symm)).1 with h1|h1
  ·exact absurd E (Nat.not_lt.2 h1)
  ·exact h1 hL)⟩
 by_cases Z:D.ownBlock=some w.heap.size
 ·have dV:w.heap.size<w'.heap.size:=by
   rcases L.2 with ⟨rfl,_⟩|⟨b,cap,cs,rfl,_,hh,_⟩
   ·cases Z
   ·have:b=w.heap.size:=by simpa [Value.ownBlock]using Z
    grind
  refine⟨D,w',bE lab w.heap.size (some [rr]),dZ,h.s6 hF o8 ⟨I.size,λb hb cS=>I.block b hb (λO=>cS (U b O.symm)),λb hb=>bZ _ _ _ (by omega),λb hb=>(h.cE b [] hb).2.2 rfl⟩ (λb k hb E=>?_) (λr hr=>bZ _ _ _ hr) (.sl D _ (bF _ _ _) (EE L s9 (λb hb=>?_))),fo⟩
  ·by_cases e:b=w.heap.size
   ·subst e;rw[bF]at E
    grind
   ·rw[bZ _ _ _ e]at E;have:=(h.cE b k E).2.1;omega
  ·rw[Z]at hb;injection hb with hb;subst hb;exact bF _ _ _
 ·have EF:D.ownBlock=u.ownBlock:=by
   rcases iM with iM|iM
   ·exact iM
   ·exact absurd iM Z
  refine⟨D,w',lab,dZ,h.s6 hF o8 ⟨I.size,λb hb cS=>I.block b hb (λO=>cS (U b O.symm)),λ_ _=>rfl,λb hb=>(h.cE b [] hb).2.2 rfl⟩ (λb k hb E=>?_) (λr hr=>bZ _ _ _ hr) (.sl D _ (bF _ _ _) (EE L s9 (λb hb=>U b (by rw[<- EF];exact hb)))),fo⟩
  have:=(h.cE b k E).2.1;omega
def Ph{t:TC}{x:V}{l:aa (T t)}(h:x.JO t=some l){q:aa Nat}{u:Value}(C:RV w B lab q x u):∃ g D,RV w B lab q (.sl t g D l) u:=by
 unfold V.JO at h;split at h
 ·grind
 ·injection h with h;subst h;cases C;exact⟨0,false,.dN _ _ _⟩
 ·cases h
def Pj{x:Lf}{k:V -> ah X}(h:nK σ x k=some r):∃ y,(∀ lab ρ a w,Rl w0 N lab ρ σ a w -> ∀ u,di w w0.heap.size lab ρ x u -> ∃ q,RV w w0.heap.size lab q y u)/\k y=some r:=by
 cases x with
 |v z=>exact⟨z,λlab ρ a w _ u C=>⟨[],C.2⟩,h⟩
 |dead=>cases h
 | own q=>
  obtain⟨z,D,h⟩:=qq q _ h
  refine⟨z,λlab ρ a w hR u C=>?_,h⟩
  obtain⟨v,E,F⟩:=D.ok hR.root;have I:=C.2
  grind
def V3{y:A}{k:V -> ah X}(h:qt σ y k=some r):∃ z,(∀ lab ρ a w,Rl w0 N lab ρ σ a w -> ∀ u,RA w w0.heap.size lab ρ y u -> ∃ q B' ax,RV w B' ax q z u)/\k z=some r:=by
 unfold qt at h;split at h
 ·obtain⟨z,C,D⟩:=Pj h;exact⟨z,λlab ρ a w hR u E=>let ⟨q,F⟩:=C lab ρ a w hR u E;⟨q,_,_,F⟩,D⟩
 ·obtain⟨z,D,_,C⟩:=VN h;exact⟨z,λlab ρ a w hR u E=>⟨[],0,_,C _ _ _ _ _ _ hR u E 0⟩,D⟩
 ·cases h
def ag1{t ty:TypeId}{x y:A}{k:S -> ah X}(h:rD P N σ d t x y k=some r):∃ cN,k cN=some r /\ ∀ lab ρ a w,Rl w0 N lab ρ σ a w -> ∀ u v,RA w w0.heap.size lab ρ x u -> RA w w0.heap.size lab ρ y v ->
  ∃w' ax ρ' z,(Builtin.append_ #[t,t] ty #[u,v]).run P w = .ok z w'/\Rl w0 N ax ρ' cN (a.put (some d) z) w':=by
 unfold rD at h;split at h
 ·rename_i e tc nM;obtain⟨fK,ht,i,hi,hsz,ir⟩:=uQ nM;cases L:(Nat.beq (full tc) 0&&(zeroOf P e).any (λz=>Nat.beq z.cells.size (aA tc)))with
  |false=>grind
  | true=>
   rw[L,aj]at h;rw[aH]at L;have hf:=cv L.1;obtain⟨z,hz,O⟩:=(Option.any_eq_true _ _).1 L.2;have O:=cv O;have nN:i.zero=some z:=by unfold zeroOf at hz;simpa [hi]using hz
   obtain⟨yv,JR,C⟩:=V3 (w0:=w0) (N:=N) h;clear h;split at C
   ·cases C
   ·rename_i l2 jY;split at C
    ·cases D:aT l2.length with
     |false=>grind
     | true=>
      rw[D,aj]at C;have D:l2.length<1073741824:=by simpa [aT]using D
      obtain⟨T,h3⟩:=kJ C
      refine⟨_,h3,λlab ρ a w hR u v I U=>?_⟩
      have I:u = .slice none 0 0:=by cases I.2;rfl
      subst I;obtain⟨q',_,_,E⟩:=JR lab ρ a w hR v U;obtain⟨g,qn,E⟩:=Ph jY E;obtain⟨Y,w',ax,Z,eG,fo⟩:=hR.append (ty:=ty) (rr:=d) (o:=0) (q:=false) (l:=[]) (hR.cY d (.inl T)) fK ht hi nN hsz ir O hf (.dN _ _ _) E (by simpa using D);exact⟨w',ax,_,Y,Z,eG.set ⟨fo,by simp[cC,bF]⟩ T⟩
    ·rename_i rr;split at C
     ·rename_i t' o q l hm;split at C
      ·rename_i lQ;subst lQ;cases D:(Nat.blt d N&&(Nat.blt rr N || Nat.ble 60000 rr)&&aT (l.length+l2.length))with
       |false=>grind
       | true=>
        rw[D,aj]at C;rw[aH,aH,dA]at D;have wY:l.length+l2.length<1073741824:=by simpa [aT]using D.2
        have T:d<N:=by have:=cr D.1.1;omega
        have ov:rr<N \/ 60000 <= rr:=D.1.2.imp (λh=>by have:=cr h;omega) (λh=>cr h)
        refine⟨_,C,λlab ρ a w hR u v I U=>?_⟩
        obtain⟨q',_,_,E⟩:=JR lab ρ a w hR v U;obtain⟨g,qn,E⟩:=Ph jY E;have eM:=hR.root rr _ hm;generalize F:aM.sl (.sl t' (o+2) q l)=x at eM;cases eM with
        |blk=>cases F
        |mp=>cases F
        |gh=>cases F
        | sl uu y cD hr=>
         injection F with F;subst F;have zu:uu=u:=by
          have h4:=I.2;simp only[cC,cD]at h4;simp_all
         subst zu;obtain⟨Y,w',ax,Z,eG,fo⟩:=hR.append (ty:=ty) (hR.cY rr ov) fK ht hi nN hsz ir O hf hr E wY;exact⟨w',ax,_,Y,Z,eG.set ⟨fo,by simp[cC,bF]⟩ T⟩
      ·cases C
     ·cases C
    ·cases C
 ·cases h
def Rl.V4{t:TC}{g p:Nat}{Y:Bool}{l ys:aa (T t)}{news:aa Value}(h:Rl w0 N lab ρ σ a w)(hm:σ.m q=some (.sl (.sl t (g+2) Y l)))(hf:full t=0)(hp:p+ys.length <= l.length)(mq:0<l.length)(fT:rE t ys news)(rG:news.length=ys.length*aA t):
  ∃ b cap,ρ q = .cO (.slice (some ⟨b,0,none⟩) l.length cap)/\l.length <= cap/\(∀ n,n<news.length -> (w.cell? ⟨b,p*aA t+n,none⟩).isSome=true/\w.frozen? ⟨b,p*aA t+n,none⟩=false) /\
   Rl w0 N lab ρ ⟨σ.t,bE σ.m q (some (.sl (.sl t (g+2) Y (cP l p ys))))⟩ a (w.setCells b (p*aA t) news):=by
 have eM:=h.root q _ hm;generalize L:aM.sl (.sl t (g+2) Y l)=x at eM;cases eM with
 |blk=>cases L
 |mp=>cases L
 |gh=>cases L
 | sl v y cD jZ=>
  injection L with L;subst L;cases jZ with
  |dN=>exact absurd mq (Nat.lt_irrefl 0)
  |eX=>exact absurd mq (Nat.lt_irrefl 0)
  |fB=>exact absurd mq (Nat.lt_irrefl 0)
  |aF _ _ _ _ _ _ _ _ _ ho=>omega
  | own _ _ _ _ _ b cap cs u ot Z hs hn qm hc hr=>
   have zk:(p+ys.length)*aA t <= cap*aA t:=gO _ (by omega);rw[Nat.add_mul]at zk;have mj:p*aA t+news.length <= cs.size:=by rw[rG,hs];exact zk
   have hW:=JD w b (p*aA t) news;obtain⟨F,gI,lP⟩:=Eh b (tid t) news (p*aA t) w cs Z mj;have rA:∀ n,F[n]?=if n<p*aA t then cs[n]? else if n<p*aA t+news.length then news[n-p*aA t]? else cs[n]?:=by
    intro n;have e2:F[n]?=(cP cs.toList (p*aA t) news)[n]?:=by
     rw[show F[n]?=F.toList[n]? by simp,lP];rfl
    rw[e2,uJ _ _ _ (by simpa using mj)];simp
   have Ew:F.size=cs.size:=by
    rw[<- jr,lP];have:=wO cs.toList (p*aA t) news (by simpa using mj);simp only[cP]at this;simp_all
   have rH:=mh t;have hC:oX w (w.setCells b (p*aA t) news) lab ρ:=by
    intro k ad v ha E fo;by_cases cS:ad.block=b
    ·obtain⟨D,C,s',q',rfl,Es,agK,uK,_⟩:=zh k ad ha;have qp:ad=⟨b,ad.off,none⟩:=by cases ad;simp_all
     rw[qp,cell_of_row w b _ cs _ _ Z]at E;rw[qp,cell_of_row _ b _ F _ _ gI,rA];by_cases O:ad.off<p*aA t
     ·rw[bJ O];exact E
     ·by_cases h2:ad.off<p*aA t+news.length
      ·exfalso;have hk:ad.off=(ad.off / aA t)*aA t+ad.off % aA t:=by rw[Nat.mul_comm];exact(Nat.div_add_mod _ _).symm
       have dV:ad.off<l.length*aA t:=by
        have:(p+ys.length)*aA t <= l.length*aA t:=gO _ hp;rw[Nat.add_mul]at this;omega
       have hi:ad.off / aA t<l.length:=Nat.div_lt_of_lt_mul (by rw[Nat.mul_comm];exact dV);obtain⟨y,hy⟩:=zx t g l[ad.off / aA t] (ad.off % aA t) (Nat.mod_lt _ rH);have h3:=hc _ hi _ y hy;rw[<- hk,E]at h3;injection h3 with h3;have:=(hr _ hi _ y hy).VL (wM t g _ hf y (fP hy));rw[<- h3,fo]at this;cases this
      ·rw[bx O,bx h2];exact E
    ·exact(World.cell?_of_block (hW.block _ cS)).trans E
   have zj:cC w lab ρ [q]=some (.slice (some ⟨b,0,none⟩) l.length cap):=by simp only[cC,cD]
   refine⟨b,cap,cD,hn,λn wR=>⟨?_,frozen_of_row w b _ cs _ Z⟩,h.wrote hW ot hC ((wP.root q _ _ hm).ok h.root hW ot (List.suffix_refl _) hC zj ?_)⟩
   ·rw[cell_of_row w b _ cs _ _ Z];simp;omega
   ·have hlen:(cP l p ys).length=l.length:=wO l p ys hp;have key:∀ C (h:C<(cP l p ys).length) (D:Nat) x,(enc t g (cP l p ys)[C])[D]?=some x -> ∃ v,F[C*aA t+D]?=some v/\RV (w.setCells b (p*aA t) news) w0.heap.size lab (D :: C :: aA t :: [q]) x v:=by
     intro C h' D x U;have qj:D<aA t:=by have:=(de.1 U).1;rwa [jT]at this
     have I:=bQ h';generalize (cP l p ys)[C]=e at I U;rw[uJ l p ys hp]at I;have wQ:=wM t g e hf x (fP U);have V5:l[C]?=some e -> ∃ v,cs[C*aA t+D]?=some v/\RV (w.setCells b (p*aA t) news) w0.heap.size lab (D :: C :: aA t :: [q]) x v:=λhle=>by
      obtain⟨hi,rfl⟩:=de.1 hle;exact⟨_,hc C hi D x U,(hr C hi D x U).rz wQ⟩
     by_cases O:C<p
     ·rw[bJ O]at I;have dV:(C+1)*aA t <= p*aA t:=gO _ O;rw[gE]at dV;rw[rA,bJ];exact V5 I
     ·rw[bx O]at I;by_cases h2:C<p+ys.length
      ·rw[bJ h2]at I;obtain⟨hi,rfl⟩:=de.1 I;obtain⟨v,E,_,kI⟩:=fT (C-p) hi g D x U;have awx:(C-p)*aA t=C*aA t-p*aA t:=Nat.sub_mul _ _ _;have hle:p*aA t <= C*aA t:=gO _ (by omega);have dV:=(de.1 E).1;refine⟨v,?_,kI _ _ _ _⟩;rw[rA,bx,bJ,<- E];congr 1;omega
      ·rw[bx h2]at I;have nI:(p+ys.length)*aA t <= C*aA t:=gO _ (by omega);rw[Nat.add_mul]at nI;rw[rA,bx,bx (by rw[rG];omega)];exact V5 I
    rw[<- hlen]
    refine .own [q] t g Y (cP l p ys) b cap F (λC D=>(F[C*aA t+D]?).getD undef) ot gI (Ew.trans hs) (by rw[hlen];exact hn) ⟨qm.1,λh=>by rw[hlen];exact qm.2 h⟩ (λC h D x jW=>?_) (λC h D x jW=>?_)
    ·obtain⟨v,E,_⟩:=key C h D x jW;rw[E];rfl
    ·obtain⟨v,E,hr⟩:=key C h D x jW;rw[E];exact hr
def V6(b i c s:Nat):sliced (some ⟨b,0,none⟩) 0 i c s = .slice (some ⟨b,0,none⟩) i c:=by
 unfold sliced;split
 ·rfl
 ·rw[Option.map_some,Addr.add_lit];simp
def EG{X:Type}(P:Program)(N:Nat)(σ:S)(d:Nat)(t:TypeId)(x y:A)(k:S->ah X):ah X:=
 match x,y with
 | .view [q] s 0 i,.view [E] F j m=>(match rC P t with
  | some (e,C)=>bif Nat.beq E q&&Nat.beq s (aA C)&&Nat.beq F (aA C)&&Nat.beq (full C) 0&&Nat.blt d N then (match σ.m q with
   |some (.sl (.sl D (o+2) I l))=>bif Nat.beq (full D) 0&&Nat.beq (aA D) (aA C)then (if i<=j/\j<=m/\m<=l.length/\0<l.length then k ((σ.root q (.sl (.sl D (o+2) I (cP l i ((l.take m).drop j))))).set d (.view [q] s 0 (i+(m-j))))else none)else none
   |_=>none)else none
  |none=>none)
 |_,_=>none
def ag2{t ty:TypeId}{x y:A}{k:S -> ah X}(h:EG P N σ d t x y k=some r):∃ cN,k cN=some r /\ ∀ lab ρ a w,Rl w0 N lab ρ σ a w -> ∀ u v,RA w w0.heap.size lab ρ x u -> RA w w0.heap.size lab ρ y v ->
  ∃w' ax ρ' z,(Builtin.append_ #[t,t] ty #[u,v]).run P w = .ok z w'/\Rl w0 N ax ρ' cN (a.put (some d) z) w':=by
 unfold EG at h;split at h
 ·rename_i q s i q' s' j m;split at h
  ·rename_i e D nM;obtain⟨fK,ht,inf,hi,I,ir⟩:=uQ nM;cases Z:(Nat.beq q' q&&Nat.beq s (aA D)&&Nat.beq s' (aA D)&&Nat.beq (full D) 0&&Nat.blt d N)with
   |false=>grind
   | true=>
    rw[Z,aj]at h;simp only[aH]at Z;obtain⟨⟨⟨⟨c1,c2⟩,c3⟩,c4⟩,c5⟩:=Z;obtain rfl:=cv c1;obtain rfl:=cv c2;obtain rfl:=cv c3;have hd:d<N:=by have:=cr c5;omega
    split at h
    ·rename_i L g qn l hm;cases O:(Nat.beq (full L) 0&&Nat.beq (aA L) (aA D))with
     |false=>grind
     | true=>
      rw[O,aj]at h;rw[aH]at O;have hf:=cv O.1;have T:=cv O.2;split at h
      ·rename_i hb;obtain⟨b1,b2,b3,b4⟩:=hb
       refine⟨_,h,λlab ρ a w hR u v hu hv=>?_⟩
       obtain⟨A,n,c,V7,a1,a2,rfl⟩:=hu;obtain⟨A',n',c',U,a1',a2',rfl⟩:=hv;rw[V7]at U;injection U with U;injection U with C e2 e3;subst C e2 e3
       -- what is moved
       have eM:=hR.root q' _ hm;generalize E:aM.sl (.sl L (g+2) qn l)=x at eM;cases eM with
       |blk=>cases E
       |mp=>cases E
       |gh=>cases E
       | sl uT y cD jZ=>
        injection E with E;subst E;have JS:uT = .slice A n c:=by
         simp only[cC,cD]at V7;simp_all
        subst JS;have JT:RV w 0 (λ_=>none) [] (.sl L 0 qn l) (.slice A n c):=jZ.fJ;have hn:n=l.length:=by cases JT<;>rfl
        obtain⟨hp,B0,zB⟩:=JT.part (a:=j) (h:=m) (by omega) b2 (by omega);obtain⟨A2,c2,news,fo,uS,o7,fT⟩:=hp.reads hf;have hlen:((l.take m).drop j).length=m-j:=by rw[List.length_drop,fX];omega
        obtain⟨b,cap,Y,hcap,o9,eG⟩:=hR.V4 hm hf (p:=i) (ys:=(l.take m).drop j) (news:=news) (by rw[hlen];omega) b4 fT (by rw[hlen];exact hlen ▸ uS.1);rw[cD]at Y;injection Y with Y;injection Y with C e2 e3;subst C e2 e3;rw[hlen]at fo;have JU:sliced (some ⟨b,0,none⟩) 0 i c (aA D) = .slice (some ⟨b,0,none⟩) i c:=V6 b i c _;obtain⟨ad,uT⟩:∃ ad,sliced (some ⟨b,0,none⟩) j m c (aA D) = .slice (some ad) (m-j) (c-j):=by
         unfold sliced;by_cases hcj:c=j
         ·grind
         ·grind
        have Pm:A2=some ad:=by
         grind
        subst Pm;have rG:news.length=(m-j)*inf.size:=by rw[uS.1,hlen,I,T]
        have dZ:=run_append_room_cells (P:=P) w t ty e inf fK hi b 0 i c ad (m-j) (c-j) news rG (λk u F=>by
         have nO:=(de.1 F).1;have rH:0<((l.take m).drop j).length:=by
          rcases Nat.eq_zero_or_pos ((l.take m).drop j).length with h0|h0
          ·grind
          ·exact h0
         obtain⟨b',zn,C,_,uU⟩:=uS.2 rH;injection C with C;subst C;rw[Addr.add_lit];exact uU k u F) o7 (by omega) (λk F=>by rw[eS,I,<- T];exact(o9 k F).1) (λk F=>by rw[eS,I,<- T];exact(o9 k F).2)
        refine⟨_,lab,ρ,_,by rw[JU,uT];exact dZ,?_⟩;rw[eS,I,<- T];exact eG.set ⟨some ⟨b,0,none⟩,l.length,c,by simp only[cC,cD],gF _,by omega,(V6 b _ c _).symm⟩ hd
      ·cases h
    ·cases h
  ·cases h
 ·cases h
def ag3{t:TypeId}{x y:A}:cu λX k=>EG (X:=X) P N σ d t x y k:=λX Y k g=>by
 unfold EG
 repeat' first|rfl|refine cK ?_ ?_|split
def EH{X:Type}(P:Program)(σ:S)(t:TypeId)(x:A)(k:S->ah X):ah X:=
 match x with
 | .view [q] s i j=>(match rC P t with
  | some (e,C)=>(match JN P e C with
   | some z=>(match σ.m q with
    |some (.sl (.sl D (o+2) E l))=>if h:C=D then (bif Nat.beq s (aA C)&&Nat.beq (full C) 0 then (if i<=j/\j<=l.length then k (σ.root q (.sl (.sl D (o+2) E (cP l i (List.replicate (j-i) (h ▸ z))))))else none)else none)else none
    |_=>none)
   |none=>none)
  |none=>none)
 |_=>none
def ag4{t ty:TypeId}{x:A}{k:S->ah X}(h:EH P σ t x k=some r):∃ cN,k cN=some r/\∀ lab ρ a w,Rl w0 N lab ρ σ a w->∀ u,RA w w0.heap.size lab ρ x u->
  ∃w',(Builtin.clear_ #[t] ty #[u]).run P w = .ok (.tuple #[]) w'/\Rl w0 N lab ρ cN a w':=by
 unfold EH at h;split at h
 ·rename_i q s i j;split at h
  ·rename_i e C nM;obtain⟨fK,ht,inf,hi,hsz,ir⟩:=uQ nM;split at h
   ·rename_i z O;split at h
    ·rename_i t' g qn l hm;split at h
     ·rename_i lQ;subst lQ;cases T:(Nat.beq s (aA C)&&Nat.beq (full C) 0)with
      |false=>rw[T]at h;cases h
      | true=>
       rw[T,aj]at h;rw[aH]at T;obtain rfl:=cv T.1;have hf:=cv T.2;split at h
       ·rename_i hb
        refine⟨_,h,λlab ρ a w hR u hu=>?_⟩
        obtain⟨A,n,c,U,a1,a2,rfl⟩:=hu;unfold JN at O;split at O
        ·cases O
        ·rename_i D BX;split at O
         ·cases O
         ·rename_i vs jX;have nN:inf.zero=some D:=by unfold zeroOf at BX;simpa [hi]using BX
          obtain⟨s8,jY⟩:=Pe _ _ jX;have E:=jU C (full C) vs z O;have lH:D.cells.size=aA C:=by rw[<-jT C (full C) z,<-E.1,s8];simp
          have hzr:∀w:World,(zeroValue e).run P w = .ok D w:=λw=>by simp[zeroValue,typeInfo,hi,nN]
          rcases Nat.eq_zero_or_pos (j-i)with h0|h0
          ·have uK:cP l i (List.replicate (j-i) z)=l:=by rw[h0];simp[cP]
           refine⟨w,?_,?_⟩
           ·unfold sliced;rw[h0];cases (if c=i then A else A.map (·.add (i*aA C)))<;>simp[Builtin.clear_,fW fK]
           ·show Rl w0 N lab ρ (σ.root q (.sl (.sl C (g+2) qn (cP l i (List.replicate (j-i) z))))) a w;rw[uK];have:σ.root q (.sl (.sl C (g+2) qn l))=σ:=by
             unfold S.root;have:bE σ.m q (some (.sl (.sl C (g+2) qn l)))=σ.m:=by
              funext k;by_cases E:k=q
              ·subst E;rw[bF,hm]
              ·rw[bZ _ _ _ E]
             rw[this]
            rw[this];exact hR
          ·have nP:(Builtin.zeroCells D.cells (j-i))=madeCells D.cells ((j-i)*D.cells.size):=rfl;have fT:rE C (List.replicate (j-i) z) (Builtin.zeroCells D.cells (j-i)).toList:=by
            intro i' h' o' F x I;rw[List.getElem_replicate]at I;have hj:F<aA C:=by have:=(de.1 I).1;rwa [jT]at this
            rw[lI]at h';have qj:=hj;rw[<-lH]at qj;have Y:(Builtin.zeroCells D.cells (j-i)).toList[i'*aA C+F]?=some D.cells[F]:=by
             rw[nP,Array.getElem?_toList,<-lH];exact V1 D.cells _ i' F qj (by
              have:(i'+1)*D.cells.size<=(j-i)*D.cells.size:=gO _ (by omega);rw[gE]at this;omega)
            rw[BY C hf o' (full C)]at I;have EI:F<(enc C (full C) z).length:=(de.1 I).1;rw[<-E.1]at EI;have hy:=bQ EI;generalize vs[F]=y at hy;obtain⟨v,Z,Pf⟩:=jY F y hy;have L:D.cells[F]=v:=by
             have e1:D.cells.toList[F]?=some D.cells[F]:=by simp[qj]
             rw[e1]at Z;injection Z
            have kI:∀(w':World) (B':Nat) (ax:bg) (q':aa Nat),RV w' B' ax q' x v:=λw' B' ax q'=>(VZ Pf _).wk (E.2 F y x hy I)
            exact⟨_,Y,by rw[L];exact(kI w 0 (λ_=>none) []).one,λw' B' ax q'=>by rw[L];exact kI _ _ _ _⟩
           have rG:(Builtin.zeroCells D.cells (j-i)).toList.length=(List.replicate (j-i) z).length*aA C:=by rw[nP,lI,jr,size_madeCells,lH]
           obtain⟨b,cap,cD,hcap,Y,eG⟩:=hR.V4 hm hf (p:=i) (ys:=List.replicate (j-i) z) (by rw[lI];omega) (by omega) fT rG;simp only[cC,cD]at U;injection U with U;injection U with e1 e2 e3;subst e1 e2 e3;refine⟨_,?_,eG⟩;have fo:sliced (some ⟨b,0,none⟩) i j cap (aA C) = .slice (some ⟨b,i*aA C,none⟩) (j-i) (cap-i):=by
            unfold sliced;rw[bx,Option.map_some,Addr.add_lit,eS]
           have jB:=run_storeCells_cells (P:=P) b (i*aA C) (Builtin.zeroCells D.cells (j-i)).toList 0 w (λk E=>(Y k E).1) (λk E=>(Y k E).2) (λv Z=>by
            obtain⟨k,E⟩:=List.mem_iff_getElem?.1 Z;have nO:=(de.1 E).1;rw[rG,lI]at nO;have rH:=mh C;obtain⟨x,I⟩:=zx C 0 z (k % aA C) (Nat.mod_lt _ rH);have dV:k / aA C<(List.replicate (j-i) z).length:=by rw[lI];exact Nat.div_lt_of_lt_mul (by rw[Nat.mul_comm];exact nO)
            obtain⟨v',L,o7,_⟩:=fT (k / aA C) dV 0 (k % aA C) x (by rw[List.getElem_replicate];exact I);rw[Nat.mul_comm,Nat.div_add_mod,E]at L;injection L with L;rw[L];exact o7)
           simp only[Nat.add_zero]at jB;rw[fo];obtain⟨n',wR⟩:∃n',j-i=n'+1:=⟨j-i-1,by omega⟩
           rw[wR]at jB ⊢;simp[Builtin.clear_,fW fK,hzr,jB]
       ·cases h
     ·cases h
    ·cases h
   ·cases h
  ·cases h
 ·cases h
def ag5{t:TypeId}{x:A}:cu λX k=>EH (X:=X) P σ t x k:=λX Y k g=>by
 unfold EH
 repeat' first|rfl|refine cK ?_ ?_|split
end
def wZ(place:Nat->ah (Nat×Nat))(cells:aa Lf):aa (Nat×A)->ah (aa Lf)
 |[]=>some cells
 | (i,x) :: rest=>match place i,x.wT with
  |some (off,n),some xs=>if xs.length=n/\off+n<=cells.length then (bif xs.all Lf.live then wZ place (cP cells off xs) rest else none)else none
  |_,_=>none
def places(P:Program)(t:TypeId):ah (Nat->ah (Nat×Nat)):=
 match P.underlying t with
 |some (.array _ e)=>(P.info? e).map λC=>λi=>some (i*C.size,C.size)
 |some (.struct fields)=>(fields.toList.mapM (λf=>(P.info? f.type).map λi=>(f.offset,i.size))).map λps=>(ps.toArray[·]?)
 |_=>none
def B1{X:Type}(P:Program)(σ:S)(t:TypeId)(parts:aa (Nat×Operand))(k:A->ah X):ah X:=
 match zeroOf P t,places P t with
 | some z,some pl=>match wZ pl (z.cells.toList.map mw) (parts.map λp=>(p.1,aE σ p.2))with
  |some cs=>k (.agg cs)
  |none=>none
 |_,_=>none
def Lf.asV:Lf->ah V
 |.v x=>some x
 |_=>none
def rI:aa Lf->ah (aa V)
 |[]=>some []
 | x :: xs=>match x.asV,rI xs with
  |some y,some ys=>some (y::ys)
  |_,_=>none
def zC(t:TC)(g:Nat):Nat->aa V->ah (aa (T t))
 |0,[]=>some []
 |0,_=>none
 | n+1,C=>match dec t g (C.take (aA t)),zC t g n (C.drop (aA t))with
  |some x,some xs=>some (x::xs)
  |_,_=>none
def w4{X:Type}(P:Program)(N:Nat)(σ:S)(d:Nat)(t:TypeId)(len:Nat)(parts:aa (Nat×Operand))(k:S->ah X):ah X:=
 match rC P t with
 | some (e,C)=>match zeroOf P e with
  | some z=>bif Nat.beq (full C) 0&&Nat.beq z.cells.size (aA C)&&Nat.blt (len*aA C) 16777217 then (match wZ (λi=>some (i*aA C,aA C)) (List.replicate len (z.cells.toList.map mw)).flatten (parts.map λp=>(p.1,aE σ p.2))with
   | some cs=>(match rI cs with
    | some D=>(match zC C 0 len D with
     |some l=>fO N σ d (.sl (.sl C 2 true l)) (.lf (.own [d])) k
     |none=>none)
    |none=>none)
   |none=>none)else none
  |none=>none
 |none=>none
section
variable {P:Program} {w w':World} {w0:Wd} {B N:Nat} {lab ax:bg} {ρ ρ':Nat->Loc} {σ:S} {a:Act} {X:Type} {d:Nat} {r:X}
def V8(off:Nat):∀ (l:aa Value) (n:Nat) (cs:Array Value),off+n+l.length <= cs.size ->
  ((l.zipIdx n).foldl (λ(cs:Array Value) (p:Value×Nat)=>cs.setIfInBounds (off+p.2) p.1) cs).toList=cP cs.toList (off+n) l
 |[],n,cs,_=>by simp[cP]
 | v :: l,n,cs,h=>by
  simp at h;rw[List.zipIdx_cons,List.foldl_cons,V8 off l (n+1) _ (by simp;omega)];have C:off+n<cs.toList.length:=by simp;omega
  simp only[cP,Array.toList_setIfInBounds,kB];have D:(cs.toList.set (off+n) v).take (off+(n+1))=cs.toList.take (off+n)++[v]:=by
   rw[show off+(n+1)=off+n+1 by omega,List.take_succ_eq_append_getElem (by simpa using C),List.getElem_set_self,List.take_set_of_le (c9 _)]
  have E:(cs.toList.set (off+n) v).drop (off+(n+1)+l.length)=cs.toList.drop (off+(n+1)+l.length):=by
   rw[List.drop_set_of_lt (by omega)]
  grind
def dR.cP{cs xs:aa Lf}{D E:Array Value}(h:dR w B lab ρ cs D)(F:dR w B lab ρ xs E){off:Nat}(I:off+xs.length <= cs.length){L:Array Value}(T:L.toList=Proofs.YthmgjjfedieljaaGreatDoor.cP D.toList off E.toList):dR w B lab ρ (Proofs.YthmgjjfedieljaaGreatDoor.cP cs off xs) L:=by
 have U:off+E.toList.length <= D.toList.length:=by rw[jr,jr,F.1,h.1];exact I
 refine⟨?_,λj x C=>?_⟩
 ·rw[wO _ _ _ I,<- jr,T,wO _ _ _ U,jr,h.1]
 ·have e:L[j]?=(Proofs.YthmgjjfedieljaaGreatDoor.cP D.toList off E.toList)[j]?:=by rw[<- T,Array.getElem?_toList]
  rw[e,uJ _ _ _ U,jr,F.1];rw[uJ _ _ _ I]at C;by_cases O:j<off
  ·simp[O,Array.getElem?_toList]at C ⊢;exact h.2 j x C
  ·by_cases Y:j<off+xs.length
   ·simp[O,Y,Array.getElem?_toList]at C ⊢;exact F.2 _ x C
   ·simp[O,Y,Array.getElem?_toList]at C ⊢;exact h.2 j x C
def JV{place:Nat -> ah (Nat×Nat)}:∀ (parts:aa (Nat×A)) (cells:aa Lf) (C:Array Value) (D:aa (Nat×Value)) (out:aa Lf),wZ place cells parts=some out -> dR w B lab ρ cells C -> D.length=parts.length ->
  (∀(j:Nat) p q,parts[j]?=some p -> D[j]?=some q -> p.1=q.1/\RA w B lab ρ p.2 q.2) -> ∃E,Instr.fill place C D=some E/\dR w B lab ρ out E
 | [],cells,C,D,out,h,hR,hl,F=>by
  have:D=[]:=List.eq_nil_of_length_eq_zero hl;subst this;injection h with h;subst h;exact⟨C,rfl,hR⟩
 | (i,x) :: rest,cells,C,D,out,h,hR,hl,F=>by
  cases D with
  |nil=>simp at hl
  | cons v D=>
   obtain⟨i',v⟩:=v;obtain⟨e,I⟩:=F 0 _ _ rfl rfl;simp only at e I;subst e;unfold wZ at h;split at h
   ·rename_i off n xs T U;split at h
    ·rename_i hb;cases L:xs.all Lf.live with
     |false=>grind
     | true=>
      rw[L,aj]at h;obtain⟨O,_⟩:=EB U L I;have Y:v.cells.size=n:=by rw[O.1];exact hb.1
      have mj:¬ (off+v.cells.size > C.size):=by rw[Y,hR.1];omega
      have Z:(v.cells.zipIdx.foldl (λ(cs:Array Value) (p:Value×Nat)=>cs.setIfInBounds (off+p.2) p.1) C).toList=Proofs.YthmgjjfedieljaaGreatDoor.cP C.toList off v.cells.toList:=by
       have:=V8 off v.cells.toList 0 C (by rw[jr];omega);rw[<- Array.foldl_toList,Array.toList_zipIdx];exact this
      have uK:=hR.cP O (off:=off) (by rw[hb.1];exact hb.2) Z;obtain⟨E,qv,eG⟩:=JV rest _ _ D out h uK (by simpa using hl) (λj p q hp' Es=>F (j+1) p q (by simpa using hp') (by simpa using Es));refine⟨E,?_,eG⟩;have cS:(v.cells.size≠n || off+v.cells.size > C.size)=false:=by
       grind
      simp only[Instr.fill,T];rw[bx (by rw[cS];simp)];exact qv
    ·cases h
   ·cases h
def ag6(z:Value):dR w B lab ρ (z.cells.toList.map mw) z.cells:=by
 refine⟨by simp,λj x C=>?_⟩
 rw[dI]at C;cases D:z.cells.toList[j]? with
 |none=>simp_all
 | some v=>
  rw[D]at C;injection C with C;subst C;exact⟨v,by simpa using D,JP v⟩
def ag7{t:TypeId}{parts:Array (Nat×Operand)}{k:A -> ah X}(h:B1 P σ t parts.toList k=some r):∃ y,k y=some r /\ ∀ lab ρ a w,Rl w0 N lab ρ σ a w ->
  ∃v,(Instr.build t (parts.map λ(i,x)=>(i,a.eval x))).run P w = .ok v w/\RA w w0.heap.size lab ρ y v:=by
 unfold B1 at h;split at h
 ·rename_i z pl E C;split at h
  ·rename_i cs Y
   refine⟨_,h,λlab ρ a w hR=>?_⟩
   obtain⟨O,T,Z⟩:=JV (w:=w) (B:=w0.heap.size) (lab:=lab) (ρ:=ρ) _ _ z.cells (parts.toList.map λp=>(p.1,a.eval p.2)) cs Y (ag6 z) (by simp) (λj p q D F=>by
    rw[dI]at D F;cases U:parts.toList[j]? with
    |none=>rw[U]at D;cases D
    | some x=>
     rw[U]at D F;injection D with D;injection F with F;subst D F;exact⟨rfl,hR.aE x.2⟩)
   refine⟨_,run_build (P:=P) w t _ O ?_,O,rfl,Z⟩;have EJ:(parts.map λ(i,x)=>(i,a.eval x)).toList=parts.toList.map λp=>(p.1,a.eval p.2):=by simp
   rw[EJ];unfold zeroOf at E;unfold Program.built;cases hi:P.info? t with
   |none=>simp[hi]at E
   | some i=>
    have E:i.zero=some z:=by simpa [hi]using E
    unfold places at C;split at C
    ·rename_i n e I;cases L:P.info? e with
     |none=>simp[L]at C
     | some ie=>
      rw[L]at C;injection C with C;subst C;simp[I,E,L];exact T
    ·rename_i fields I;cases D:fields.toList.mapM (λf=>(P.info? f.type).map λi=>(f.offset,i.size))with
     |none=>rw[D]at C;cases C
     | some ps=>
      rw[D]at C;injection C with C;subst C;simp only[I,E,D];exact T
    ·cases C
  ·cases h
 ·cases h
def EK:∀ (cs:aa Lf) (C:aa V),rI cs=some C->cs=C.map .v
 |[],C,h=>by injection h with h;subst h;rfl
 | x :: xs,C,h=>by
  unfold rI at h;split at h
  next y ys D E=>injection h with h;subst h;rw[EK xs ys E,List.map_cons];cases x<;>first|(injection D with D;rw[D])|cases D
  ·cases h
def JW(t:TC)(g:Nat):∀ (n:Nat) (C:aa V) (l:aa (T t)),zC t g n C=some l -> l.length=n/\C.length=n*aA t /\ ∀ i (hi:i<l.length) (j:Nat) x,(enc t g l[i])[j]?=some x -> ∃ y,C[i*aA t+j]?=some y/\Wk y x
 | 0,[],l,h=>by
  injection h with h;subst h;exact⟨rfl,by simp,λi hi=>by simp at hi⟩
 |0,_::_,l,h=>by cases h
 | n+1,C,l,h=>by
  unfold zC at h;split at h
  ·rename_i x xs F I;injection h with h;subst h;obtain⟨L,Y,Z⟩:=JW t g n _ xs I;have D:=jU t g _ x F;have hlen:(C.take (aA t)).length=aA t:=by rw[D.1,jT]
   have nI:aA t <= C.length:=by rw[fX]at hlen;omega
   refine⟨by simp[L],?_,λi hi j y E=>?_⟩
   ·grind
   ·cases i with
    | zero=>
     have O:j<aA t:=by have:=(de.1 E).1;rwa [jT]at this
     have U:=bQ (by rw[hlen];exact O);refine⟨_,?_,D.2 j _ y U E⟩;simp_all
    |succ i =>grind
  ·cases h
def RV.under{k:aa Nat}{x:V}{v:Value}{n:Nat}(h:RV w B lab k x v)(E:1<k.length\/x.aF=true)(F:w.heap.size<=w'.heap.size)(hb:∀ b,b<w.heap.size->lab b≠some [n]->w'.heap[b]?=w.heap[b]?)(hl:∀ b,b<w.heap.size->ax b=lab b):RV w' B ax k x v:=
 h.map (Q:=λk D=>k=D/\1<k.length) F (λb C h=>⟨hb b C (by rw[h];simp),(hl b C).trans h⟩) (λb k D C h e=>by
  obtain⟨rfl,e⟩:=e;exact⟨hb b C (by rw[h];rintro⟨⟩;simp at e),(hl b C).trans h,λ_ _ _=>⟨rfl,by simp⟩⟩) (E.symm.imp_right λh=>⟨rfl,h⟩)
def rJ(w:World)(B:Nat)(lab:bg)(n C:Nat)(t:TC)(o:Nat)(l:aa (T t))(D:aa Value):Prop:=
 ∀i (hi:i<l.length) j x,(enc t o l[i])[j]?=some x->∃v,D[i*aA t+j]?=some v/\RV w B lab (j::(C+i)::aA t::[n]) x v
def RV.ag8{n:Nat}{t:TC}{o:Nat}{C:Bool}{l:aa (T t)}{u:Value}(h:RV w B lab [n] (.sl t (o+2) C l) u){B':Nat}(hB:∀ b,lab b=some [n] -> B' <= b):
  ∃xs,w.ownsRow B' (tid t) (aA t) u l.length xs/\(∀b,u.ownBlock=some b -> lab b=some [n])/\(C=true -> u.ownBlock≠none)/\rJ w B lab n 0 t o l xs:=by
 cases h with
 |eX=>omega
 |fB=>omega
 |dN=>exact⟨[],⟨by simp,.inl ⟨rfl,rfl⟩⟩,by simp[Value.ownBlock],by simp,λi hi=>by simp at hi⟩
 |aF _ _ _ _ _ _ _ _ _ Y=>omega
 | own _ _ _ _ _ b cap cs us hl D E F I Z hr=>
  refine⟨cs.toList.take _,⟨?_,.inr ⟨b,cap,cs,rfl,hB b hl,D,F,I.1,E,rfl⟩⟩,λL O=>?_,λ_=>by simp[Value.ownBlock],λi hi j x U=>?_⟩
  ·simp_all
  ·have:b=L:=by simpa [Value.ownBlock]using O
   simp_all
  ·have hj:j<aA t:=by have:=(de.1 U).1;rwa [jT]at this
   have dV:i*aA t+j<l.length*aA t:=by
    have:(i+1)*aA t <= l.length*aA t:=gO _ hi;rw[gE]at this;omega
   grind
def rJ.append{n:Nat}{t:TC}{o:Nat}{l l2:aa (T t)}{xs ys:aa Value}(h:rJ w B lab n 0 t o l xs)(E:rJ w B lab n l.length t o l2 ys)(hl:xs.length=l.length*aA t):rJ w B lab n 0 t o (l++l2) (xs++ys):=by
 intro i hi j x C;by_cases D:i<l.length
 ·rw[List.getElem_append_left D]at C;obtain⟨v,F,r⟩:=h i D j x C
  grind
 ·rw[List.getElem_append_right (by omega)]at C;have I:i-l.length<l2.length:=by rw[iH]at hi;omega
  obtain⟨v,F,r⟩:=E _ I j x C;refine⟨v,?_,?_⟩
  ·have e:i*aA t+j=xs.length+((i-l.length)*aA t+j):=by
    rw[ Nat.sub_mul];have:l.length*aA t <= i*aA t:=gO _ (by omega);omega
   grind
  ·grind
def rJ.under{n C:Nat}{t:TC}{o:Nat}{l:aa (T t)}{D:aa Value}(h:rJ w B lab n C t o l D)(E:w.heap.size<=w'.heap.size)(hb:∀ b,b<w.heap.size->lab b≠some [n]->w'.heap[b]?=w.heap[b]?)(hl:∀ b,b<w.heap.size->ax b=lab b):rJ w' B ax n C t o l D:=
 λi hi j x F=>let ⟨v,I,r⟩:=h i hi j x F;⟨v,I,r.under (.inl (by simp)) E hb hl⟩
def V9{n:Nat}{t:TC}{o:Nat}{l:aa (T t)}{u:Value}{xs:aa Value}{B':Nat}(h:w.ownsRow B' (tid t) (aA t) u l.length xs)(D:rJ w B lab n 0 t o l xs)(hl:∀ b,u.ownBlock=some b -> lab b=some [n]):
  RV w B lab [n] (.sl t (o+2) false l) u:=by
 rcases h.2 with ⟨rfl,E⟩|⟨b,cap,cs,rfl,hB,F,I,L,O,U⟩
 ·have:=List.eq_nil_of_length_eq_zero E;subst this;exact .dN _ _ _
 ·have Y:∀ i _ j x,(enc t o l[i])[j]?=some x -> ∃ v,cs[i*aA t+j]?=some v/\RV w B lab (j :: i :: aA t :: [n]) x v:=by
   intro i hi j x C;obtain⟨v,Z,r⟩:=D i hi j x C
   grind
  refine .own [n] t o false l b cap cs (λi j=>(cs[i*aA t+j]?).getD undef) (hl b rfl) F O I ⟨L,λh=>by cases h⟩ (λi hi j x C=>?_) (λi hi j x C=>?_)
  ·grind
  ·grind
def Rl.ag9{t e ty:TypeId}{C:TC}{i:TypeInfo}{z:Value}{rr o m c:Nat}{q:Bool}{l l2:aa (T C)}{u:Value}{ad:ah Addr}{news:aa Value}(h:Rl w0 N lab ρ σ a w)(hF:w0.F rr=none)(fK:P.underlying t=some (.slice e))(ht:tid C=e)(hi:P.info? e=some i)(hz:i.zero=some z)
  (hsz:i.size=aA C) (ir:i.bytes <= 65536) (lH:z.cells.size=aA C) (hd:RV w w0.heap.size lab [rr] (.sl C (o+2) q l) u) (uS:Reads w w.heap.size (aA C) ad m news) (o7:∀v∈news,v.oneCell'=true) (hm:m=l2.length)
  (zy:rJ w w0.heap.size lab rr l.length C o l2 news) (hlen:l.length+l2.length<1073741824):
  ∃D w' ax,(Builtin.append_ #[t,t] ty #[u,.slice ad m c]).run P w = .ok D w'/\Rl w0 N ax (bE ρ rr (.cO D)) ((σ.drop rr).root rr (.sl (.sl C (o+2) false (l++l2)))) a w'/\jy D=true:=by
 subst ht hm;obtain⟨xs,rF,Z,BZ,fT⟩:=hd.ag8 (B':=0) (λb _=>gF b);have gI:(l.length+l2.length)*i.bytes <= 140737488355328:=by
  have h1:(l.length+l2.length)*i.bytes <= 1073741824*65536:=Nat.mul_le_mul (by omega) ir;omega
 obtain⟨D,w',dZ,L,I,iM⟩:=OF (P:=P) w 0 t ty (tid C) i z (aA C) i.bytes fK hi hz hsz rfl lH (mh C) u l.length xs rF _ ad l2.length c news uS o7 (by unfold maxLen;omega) gI (gF _);have zz:(l++l2).length=l.length+l2.length:=iH;rw[<- zz]at L;have s9:=fT.append zy rF.1;have fo:jy D=true:=by rcases L.2 with ⟨rfl,_⟩|⟨_,_,_,rfl,_⟩<;>rfl
 have O:Below 0 w w':=(Below.refl 0 w).grown I (gF _) (λ_ _=>gF _);have o8:gQ w0 w w':=⟨O.os,O.tape,O.output,O.size,λk E hL=>I.block k (Nat.lt_of_lt_of_le E h.below.size) (λe'=>by
  rcases(h.cE k _ (Z k e'.symm)).1 with h1|h1
  ·exact absurd E (Nat.not_lt.2 h1)
  ·exact h1 hL)⟩
 have U:∀b,b<w.heap.size -> lab b≠some [rr] -> w'.heap[b]?=w.heap[b]?:=λb hb cS=>I.block b hb (λe'=>cS (Z b e'.symm))
 by_cases Y:D.ownBlock=some w.heap.size
 ·have dV:w.heap.size<w'.heap.size:=by
   rcases L.2 with ⟨rfl,_⟩|⟨b,cap,cs,rfl,_,hh,_⟩
   ·cases Y
   ·have:b=w.heap.size:=by simpa [Value.ownBlock]using Y
    grind
  have zD:∀b,b<w.heap.size -> bE lab w.heap.size (some [rr]) b=lab b:=λb hb=>bZ _ _ _ (by omega)
  refine⟨D,w',bE lab w.heap.size (some [rr]),dZ,h.s6 hF o8 ⟨I.size,U,zD,λb hb=>(h.cE b [] hb).2.2 rfl⟩ (λb k hb E=>?_) (λr hr=>bZ _ _ _ hr) (.sl D _ (bF _ _ _) (V9 L (s9.under I.size U zD) (λb hb=>?_))),fo⟩
  ·by_cases e:b=w.heap.size
   ·subst e;rw[bF]at E
    grind
   ·rw[bZ _ _ _ e]at E;have:=(h.cE b k E).2.1;omega
  ·rw[Y]at hb;injection hb with hb;subst hb;exact bF _ _ _
 ·have EF:D.ownBlock=u.ownBlock:=by
   rcases iM with iM|iM
   ·exact iM
   ·exact absurd iM Y
  refine⟨D,w',lab,dZ,h.s6 hF o8 ⟨I.size,U,λ_ _=>rfl,λb hb=>(h.cE b [] hb).2.2 rfl⟩ (λb k hb E=>?_) (λr hr=>bZ _ _ _ hr) (.sl D _ (bF _ _ _) (V9 L (s9.under I.size U (λ_ _=>rfl)) (λb hb=>Z b (by rw[<- EF];exact hb)))),fo⟩
  have:=(h.cE b k E).2.1;omega
end
end Go.Proofs.YthmgjjfedieljaaGreatDoor
