/-
  Running the program over pure contents, and that it follows (part 1). Nothing here is a claim.
-/
import Derived.Test.YtpigmalhjkekiaaGreatAppend
import Derived.Test.YtpigmalhjkekiaaGreatLaws
import Derived.Handy
import Derived.Great.BuildSlice
import Derived.ArgAppend
set_option linter.unusedSimpArgs false
namespace Go.Proofs.YtpigmalhjkekiaaGreat
open Go.RowKit
set_option linter.defProp false
abbrev aa:=List
abbrev aj:=Option
abbrev ah:=Unit
def aq:=@cond_true
def dY:=@Bool.or_eq_true
def aM:=@Bool.and_eq_true
def cJ:=@Nat.eq_of_beq_eq_true
def cE:=@Nat.le_of_ble_eq_true
def gT:=@List.mem_of_getElem?
def eO:=@List.getElem?_map
def iY:=@Array.getElem?_eq_some_iff
def dg:=@Nat.le_refl
def fO:=@Nat.zero_add
def av:=@cond_false
def pW:=@List.map_congr_left
def bT:=@List.all_eq_true
def bB:=@congrArg
def l8:=@List.any_eq_false
theorem aW.{u}{c:Prop}{h:Decidable c}(k:c:=by omega){α:Sort u}{t e:α}:ite c t e=t:=if_pos k
def fy:=@List.length_map
def iO:=@Array.getD_eq_getD_getElem?
def mb:=@Array.length_toList
theorem aX.{u}{c:Prop}{h:Decidable c}(k:¬c:=by omega){α:Sort u}{t e:α}:ite c t e=e:=if_neg k
def gR:=@List.length_set
def dZ:=@List.getElem?_eq_some_iff
def bK:=@List.getElem?_eq_getElem
def iP:=@Nat.mul_le_mul_right
def iZ:=@Nat.succ_mul
def gA:=@Sem.run_bind
def me:=@Result.andThen_ok
def iu:=@run_underlying
def cX:=@List.getElem_mem
def ja:=@Nat.ble_eq_true_of_le
def jb:=@Option.some.injEq
def kU:=@List.length_take
def mT:=@List.length_replicate
def pX:=@List.getElem?_eq_none
def cK:=@List.getD_eq_getElem?_getD
def nQ:=@Bool.or_eq_false_iff
def gd:=@Bool.not_eq_true'
def gU:=@List.mem_cons
def cw:=@Bool.true_and
def iw:=@List.mem_singleton
theorem aK.{u}{c:Prop}{h:Decidable c}(k:c:=by omega){α:Sort u}{t:c->α}{e:¬c->α}:dite c t e=t k:=dif_pos k
def fS:=@List.mem_range
def jD:=@List.getElem_range
theorem bf{p:Prop}[Decidable p](k:p:=by omega):decide p=true:=decide_eq_true k
def gB:=@decide_eq_true_eq
def bE:=@Bool.not_true
def eW:=@Int.le_refl
def rT:=@Int.tmod_eq_emod_of_nonneg
theorem br{p:Prop}[Decidable p](k:¬p:=by omega):decide p=false:=decide_eq_false k
def bz:=@Int.toNat_natCast
def oD:=@of_decide_eq_true
def iQ:=@beq_self_eq_true
def cY:=@Int.natCast_zero
def dH:=@Int.eq_ofNat_of_zero_le
def mU:=@bne_self_eq_false
def gq:=@Sum.elim_inl
def ki:=@List.mem_iff_getElem
def rU:=@List.findIdx?_eq_some_iff_getElem
def dw:=@List.length_range
def sX:=@Int.tdiv_eq_ediv_of_nonneg
def pZ:=@decide_eq_false_iff_not
def eZ:=@beq_iff_eq
set_option linter.unusedVariables false
set_option linter.unusedSimpArgs false
structure aF where
 cm:Int
 aI:Int
 rows:Int
 aQ:Int
structure aO where
 ay:Int
 row:Int
 bZ:Int
structure nR where
 order:Int
 hash:Bool
structure aT where
 kind:Int
 ay:Int
 row:Int
 bZ:Int
structure c8 where
 p7:Int
 rp:Int
 ji:Int
 rV:Int
 nS:Int
 mg:Int
 rW:Int
 rX:Int
 mV:Int
 wr:Int
 rY:Int
 rZ:Int
 v5:Int
 sY:Int
 sZ:Int
 xp:Int
 xs:Int
structure gN where
 open_:Bool
 row:Int
structure cg where
 aI:List gN
 aR:Int
structure dO where
 at_:Int
 cmd:aT
structure ef where
 last:List Int
 bg:List Int
structure bO where
 symbols:List Int
 kj:Bool
structure cL where
 cells:List bO
 bh:List Int
 aY:List Int
structure ko where
 bh:Int
 aY:Int
structure cI where
 rows:List Int
 counts:List Int
 eJ:Int
structure eP where
 bL:Int
 map:List Int
structure dI where
 aB:List Int
 wait:Int
 dP:Bool
structure aU where
 id:Int
 eG:Int
 line:Int
 write:Bool
 data:Int
 at_:Int
structure cQ where
 weight:Int
 fP:Int
structure lM where
 on:Bool
 low:Int
 high:Int
structure iF where
 state:Int
 since:Int
 idle:Int
structure uK where
 down:Int
 sleep:Int
structure cr where
 line:Int
 code:Int
 times:Int
structure qT where
 next:Int
 every:Int
 wait:Int
structure cR where
 eK:Int
 cap:Int
 dn:Int
 low:Int
 high:Int
 weights:List Int
 cZ:uK
structure jE where
 bW:cR
 next:cR
 waits:Bool
structure eo where
 ak:aF
 bQ:c8
 mapping:nR
 bL:Int
 interval:Int
 gV:Int
 di:ko
structure ey where
 id:Int
 at_:Int
 data:Int
 code:Int
structure ax where
 config:eo
 box:jE
 now:Int
 aN:cg
 ready:ef
 array:cL
 spare:eP
 aD:dI
 bA:List cI
 guard:List Int
 pending:List aO
 queue:List aU
 shares:List cQ
 drain:lM
 aR:iF
 dJ:qT
 errors:List cr
 trace:List dO
 bF:List ey
structure fY where
 kind:Int
 request:aU
 n:Int
 xO:Int
 addr:aO
 eD:cR
structure bC where
 b:List Int
 i:Int
 h:Int
inductive TC where
 |int|u8|bool|str
 |gf
 |Addr
 |s7
 |Command
 |mW
 |p9
 |kV
 |Event
 |oE
 |Cell
 |Array
 |xP
 |mh
 |r3
 |kW
 |ez
 |gW
 |s8
 |Power
 |v7
 |iG
 |uL
 |nT
 |s9
 |Config
 |oF
 |dV
 |Act
 |ta
 |sl (t:TC)
 |DX
 |B3 (g:Nat)
 |B4 (g:Nat)
 |B5 (g:Nat)
 |fnCommand (g:Nat)
deriving DecidableEq
def T:TC->Type
 |.int=>Int
 |.u8=>Int
 |.bool=>Bool
 |.str=>ByteArray
 |.gf=>aF
 |.Addr=>aO
 |.s7=>nR
 |.Command=>aT
 |.mW=>c8
 |.p9=>gN
 |.kV=>cg
 |.Event=>dO
 |.oE=>ef
 |.Cell=>bO
 |.Array=>cL
 |.xP=>ko
 |.mh=>cI
 |.r3=>eP
 |.kW=>dI
 |.ez=>aU
 |.gW=>cQ
 |.s8=>lM
 |.Power=>iF
 |.v7=>uK
 |.iG=>cr
 |.uL=>qT
 |.nT=>cR
 |.s9=>jE
 |.Config=>eo
 |.oF=>ey
 |.dV=>ax
 |.Act=>fY
 |.ta=>bC
 |.sl t=>aa (T t)
 |.DX=>ax
 |.B3 _=>Int
 |.B4 _=>aU
 |.B5 _=>aO
 |.fnCommand _=>aT
def aC:TC->Nat
 |.DX=>76
 |.B3 _=>3
 |.B4 _=>8
 |.B5 _=>5
 |.fnCommand _=>6
 |.gf=>4
 |.Addr=>3
 |.s7=>2
 |.Command=>4
 |.mW=>17
 |.p9=>2
 |.kV=>2
 |.Event=>5
 |.oE=>2
 |.Cell=>2
 |.Array=>3
 |.xP=>2
 |.mh=>3
 |.r3=>2
 |.kW=>3
 |.ez=>6
 |.gW=>2
 |.s8=>3
 |.Power=>3
 |.v7=>2
 |.iG=>3
 |.uL=>3
 |.nT=>8
 |.s9=>17
 |.Config=>28
 |.oF=>4
 |.dV=>75
 |.Act=>20
 |.ta=>3
 |_=>1
def full:TC->Nat
 |.int|.u8|.bool|.str=>0
 |.gf=>0
 |.Addr=>0
 |.s7=>0
 |.Command=>0
 |.mW=>0
 |.p9=>0
 |.kV=>2
 |.Event=>0
 |.oE=>2
 |.Cell=>2
 |.Array=>4
 |.xP=>0
 |.mh=>2
 |.r3=>2
 |.kW=>2
 |.ez=>0
 |.gW=>0
 |.s8=>0
 |.Power=>0
 |.v7=>0
 |.iG=>0
 |.uL=>0
 |.nT=>2
 |.s9=>2
 |.Config=>0
 |.oF=>0
 |.dV=>4
 |.Act=>2
 |.ta=>2
 |.sl t=>full t+2
 |.DX=>4
 |.B3 _=>0
 |.B4 _=>0
 |.B5 _=>0
 |.fnCommand _=>0
def tid:TC->TypeId
 |.int=>3
 |.u8=>5
 |.bool=>4
 |.str=>9
 |.gf=>25
 |.Addr=>82
 |.s7=>29
 |.Command=>174
 |.mW=>27
 |.p9=>132
 |.kV=>47
 |.Event=>176
 |.oE=>49
 |.Cell=>154
 |.Array=>52
 |.xP=>31
 |.mh=>115
 |.r3=>54
 |.kW=>56
 |.ez=>78
 |.gW=>157
 |.s8=>62
 |.Power=>64
 |.v7=>36
 |.iG=>92
 |.uL=>66
 |.nT=>38
 |.s9=>44
 |.Config=>33
 |.oF=>90
 |.dV=>71
 |.Act=>86
 |.ta=>140
 |.sl .int=>34
 |.sl .bool=>286
 |.sl .str=>0
 |_=>0
inductive V where
 |int (k:IntKind) (n:Int)
 |bool (b:Bool)
 |str (s:ByteArray)
 |nil
 |sl (t:TC) (o:Nat) (q:Bool) (l:List (T t))
def V.aV:V->aj Int|.int .i64 n=>some n|_=>none
def V.RR:V->aj Int|.int .u8 n=>some n|_=>none
def V.oG:V->aj Bool|.bool b=>some b|_=>none
def V.RS:V->aj ByteArray|.str s=>some s|_=>none
def V.fK(t:TC)(o:Nat):V->aj (aa (T t))
 |.sl D C _ l=>bif Nat.beq C o ||(Nat.ble (full t+2) C&&Nat.ble (full t+2) o)then (if h:D=t then some (h ▸ l)else none)else none
 |.nil=>some []
 |_=>none
inductive Wk:V->V->Prop
 |same (x:V):Wk x x
 |nil (t:TC) (o:Nat):Wk .nil (.sl t o false [])
 |q (t:TC) (o:Nat) (l:List (T t)):Wk (.sl t o true l) (.sl t o false l)
 |gr (t:TC) (o o':Nat) (qn:Bool) (l:List (T t)) (h:full t+2<=o) (h':full t+2<=o'):Wk (.sl t o' qn l) (.sl t o false l)
def lN(xs ys:aa V):Prop:=xs.length=ys.length/\∀(j:Nat) (x y:V),xs[j]?=some x->ys[j]?=some y->Wk x y
def lN.nil:lN [] []:=⟨rfl,by simp⟩
def lN.cons{x y:V}{xs ys:aa V}(h:Wk x y)(k:lN xs ys):lN (x :: xs) (y :: ys):=by
 refine⟨by simp[k.1],λj a b C hb=>?_⟩
 cases j with
 |zero=>simp_all
 |succ j=>simp at C hb;exact k.2 j a b C hb
def V.ajk{x:V}{n:Int}(h:x.aV=some n):Wk x (.int .i64 n):=by
 unfold V.aV at h;split at h<;>first|(injection h with h;subst h;exact .same _)|cases h
def V.ajl{x:V}{n:Int}(h:x.RR=some n):Wk x (.int .u8 n):=by
 unfold V.RR at h;split at h<;>first|(injection h with h;subst h;exact .same _)|cases h
def V.ajm{x:V}{n:Bool}(h:x.oG=some n):Wk x (.bool n):=by
 unfold V.oG at h;split at h<;>first|(injection h with h;subst h;exact .same _)|cases h
def V.ajn{x:V}{n:ByteArray}(h:x.RS=some n):Wk x (.str n):=by
 unfold V.RS at h;split at h<;>first|(injection h with h;subst h;exact .same _)|cases h
def V.GF{x:V}{t:TC}{o:Nat}{l:aa (T t)}(h:x.fK t o=some l):Wk x (.sl t o false l):=by
 unfold V.fK at h;split at h
 ·rename_i E C q I;cases hc:(Nat.beq C o || (Nat.ble (full t+2) C&&Nat.ble (full t+2) o))with
  |false=>simp_all
  | true=>
   rw[hc,aq]at h;split at h
   ·rename_i D;subst D;injection h with h;subst h;rw[dY,aM]at hc;rcases hc with hc | hc
    ·obtain rfl:=cJ hc;cases q
     ·exact .same _
     ·exact .q _ _ _
    ·exact .gr _ _ _ _ _ (cE hc.2) (cE hc.1)
   ·cases h
 ·injection h with h;subst h;exact .nil _ _
 ·cases h
def DY(x:aO)(o:Nat):aa V:=[.int .i64 x.ay,.int .i64 x.row,.int .i64 x.bZ]
def DZ(x:aT)(o:Nat):aa V:=[.int .i64 x.kind,.int .i64 x.ay,.int .i64 x.row,.int .i64 x.bZ]
def D0(x:aU)(o:Nat):aa V:=[.int .i64 x.id,.int .i64 x.eG,.int .i64 x.line,.bool x.write,.int .i64 x.data,.int .i64 x.at_]
def D1(x:ax)(o:Nat):aa V:=[.int .i64 x.config.ak.cm,.int .i64 x.config.ak.aI,.int .i64 x.config.ak.rows,.int .i64 x.config.ak.aQ,.int .i64 x.config.bQ.p7,.int .i64 x.config.bQ.rp,.int .i64 x.config.bQ.ji,.int .i64 x.config.bQ.rV,.int .i64 x.config.bQ.nS,.int .i64 x.config.bQ.mg,.int .i64 x.config.bQ.rW,.int .i64 x.config.bQ.rX,.int .i64 x.config.bQ.mV,.int .i64 x.config.bQ.wr,.int .i64 x.config.bQ.rY,.int .i64 x.config.bQ.rZ,.int .i64 x.config.bQ.v5,.int .i64 x.config.bQ.sY,.int .i64 x.config.bQ.sZ,.int .i64 x.config.bQ.xp,.int .i64 x.config.bQ.xs,.int .i64 x.config.mapping.order,.bool x.config.mapping.hash,.int .i64 x.config.bL,.int .i64 x.config.interval,.int .i64 x.config.gV,.int .i64 x.config.di.bh,.int .i64 x.config.di.aY,.int .i64 x.box.bW.eK,.int .i64 x.box.bW.cap,.int .i64 x.box.bW.dn,.int .i64 x.box.bW.low,.int .i64 x.box.bW.high,.sl .int o false x.box.bW.weights,.int .i64 x.box.bW.cZ.down,.int .i64 x.box.bW.cZ.sleep,.int .i64 x.box.next.eK,.int .i64 x.box.next.cap,.int .i64 x.box.next.dn,.int .i64 x.box.next.low,.int .i64 x.box.next.high,.sl .int o false x.box.next.weights,.int .i64 x.box.next.cZ.down,.int .i64 x.box.next.cZ.sleep,.bool x.box.waits,.int .i64 x.now,.sl .p9 o false x.aN.aI,.int .i64 x.aN.aR,.sl .int o false x.ready.last,.sl .int o false x.ready.bg,.sl .Cell o false x.array.cells,.sl .int o false x.array.bh,.sl .int o false x.array.aY,.int .i64 x.spare.bL,.sl .int o false x.spare.map,.sl .int o false x.aD.aB,.int .i64 x.aD.wait,.bool x.aD.dP,.sl .mh o false x.bA,.sl .int o false x.guard,.sl .Addr o false x.pending,.sl .ez o false x.queue,.sl .gW o false x.shares,.bool x.drain.on,.int .i64 x.drain.low,.int .i64 x.drain.high,.int .i64 x.aR.state,.int .i64 x.aR.since,.int .i64 x.aR.idle,.int .i64 x.dJ.next,.int .i64 x.dJ.every,.int .i64 x.dJ.wait,.sl .iG o false x.errors,.sl .Event o false x.trace,.sl .oF o false x.bF]
def enc:(t:TC)->(o:Nat)->T t->aa V
 |.int,_,x=>[.int .i64 x]
 |.u8,_,x=>[.int .u8 x]
 |.bool,_,x=>[.bool x]
 |.str,_,x=>[.str x]
 |.gf,o,x=>[.int .i64 x.cm,.int .i64 x.aI,.int .i64 x.rows,.int .i64 x.aQ]
 |.Addr,o,x=>DY x o
 |.s7,o,x=>[.int .i64 x.order,.bool x.hash]
 |.Command,o,x=>DZ x o
 |.mW,o,x=>[.int .i64 x.p7,.int .i64 x.rp,.int .i64 x.ji,.int .i64 x.rV,.int .i64 x.nS,.int .i64 x.mg,.int .i64 x.rW,.int .i64 x.rX,.int .i64 x.mV,.int .i64 x.wr,.int .i64 x.rY,.int .i64 x.rZ,.int .i64 x.v5,.int .i64 x.sY,.int .i64 x.sZ,.int .i64 x.xp,.int .i64 x.xs]
 |.p9,o,x=>[.bool x.open_,.int .i64 x.row]
 |.kV,o,x=>[.sl .p9 o false x.aI,.int .i64 x.aR]
 |.Event,o,x=>[.int .i64 x.at_,.int .i64 x.cmd.kind,.int .i64 x.cmd.ay,.int .i64 x.cmd.row,.int .i64 x.cmd.bZ]
 |.oE,o,x=>[.sl .int o false x.last,.sl .int o false x.bg]
 |.Cell,o,x=>[.sl .int o false x.symbols,.bool x.kj]
 |.Array,o,x=>[.sl .Cell o false x.cells,.sl .int o false x.bh,.sl .int o false x.aY]
 |.xP,o,x=>[.int .i64 x.bh,.int .i64 x.aY]
 |.mh,o,x=>[.sl .int o false x.rows,.sl .int o false x.counts,.int .i64 x.eJ]
 |.r3,o,x=>[.int .i64 x.bL,.sl .int o false x.map]
 |.kW,o,x=>[.sl .int o false x.aB,.int .i64 x.wait,.bool x.dP]
 |.ez,o,x=>D0 x o
 |.gW,o,x=>[.int .i64 x.weight,.int .i64 x.fP]
 |.s8,o,x=>[.bool x.on,.int .i64 x.low,.int .i64 x.high]
 |.Power,o,x=>[.int .i64 x.state,.int .i64 x.since,.int .i64 x.idle]
 |.v7,o,x=>[.int .i64 x.down,.int .i64 x.sleep]
 |.iG,o,x=>[.int .i64 x.line,.int .i64 x.code,.int .i64 x.times]
 |.uL,o,x=>[.int .i64 x.next,.int .i64 x.every,.int .i64 x.wait]
 |.nT,o,x=>[.int .i64 x.eK,.int .i64 x.cap,.int .i64 x.dn,.int .i64 x.low,.int .i64 x.high,.sl .int o false x.weights,.int .i64 x.cZ.down,.int .i64 x.cZ.sleep]
 |.s9,o,x=>[.int .i64 x.bW.eK,.int .i64 x.bW.cap,.int .i64 x.bW.dn,.int .i64 x.bW.low,.int .i64 x.bW.high,.sl .int o false x.bW.weights,.int .i64 x.bW.cZ.down,.int .i64 x.bW.cZ.sleep,.int .i64 x.next.eK,.int .i64 x.next.cap,.int .i64 x.next.dn,.int .i64 x.next.low,.int .i64 x.next.high,.sl .int o false x.next.weights,.int .i64 x.next.cZ.down,.int .i64 x.next.cZ.sleep,.bool x.waits]
 |.Config,o,x=>[.int .i64 x.ak.cm,.int .i64 x.ak.aI,.int .i64 x.ak.rows,.int .i64 x.ak.aQ,.int .i64 x.bQ.p7,.int .i64 x.bQ.rp,.int .i64 x.bQ.ji,.int .i64 x.bQ.rV,.int .i64 x.bQ.nS,.int .i64 x.bQ.mg,.int .i64 x.bQ.rW,.int .i64 x.bQ.rX,.int .i64 x.bQ.mV,.int .i64 x.bQ.wr,.int .i64 x.bQ.rY,.int .i64 x.bQ.rZ,.int .i64 x.bQ.v5,.int .i64 x.bQ.sY,.int .i64 x.bQ.sZ,.int .i64 x.bQ.xp,.int .i64 x.bQ.xs,.int .i64 x.mapping.order,.bool x.mapping.hash,.int .i64 x.bL,.int .i64 x.interval,.int .i64 x.gV,.int .i64 x.di.bh,.int .i64 x.di.aY]
 |.oF,o,x=>[.int .i64 x.id,.int .i64 x.at_,.int .i64 x.data,.int .i64 x.code]
 |.dV,o,x=>D1 x o
 |.Act,o,x=>[.int .i64 x.kind,.int .i64 x.request.id,.int .i64 x.request.eG,.int .i64 x.request.line,.bool x.request.write,.int .i64 x.request.data,.int .i64 x.request.at_,.int .i64 x.n,.int .i64 x.xO,.int .i64 x.addr.ay,.int .i64 x.addr.row,.int .i64 x.addr.bZ,.int .i64 x.eD.eK,.int .i64 x.eD.cap,.int .i64 x.eD.dn,.int .i64 x.eD.low,.int .i64 x.eD.high,.sl .int o false x.eD.weights,.int .i64 x.eD.cZ.down,.int .i64 x.eD.cZ.sleep]
 |.ta,o,x=>[.sl .u8 o false x.b,.int .i64 x.i,.int .i64 x.h]
 |.sl t,o,x=>[.sl t o false x]
 |.DX,o,x=>.bool true::D1 x o
 |.B3 g,o,x=>.bool false::.int .i64 (g:Int)::[.int .i64 x]
 |.B4 g,o,x=>.bool false::.int .i64 (g:Int)::D0 x o
 |.B5 g,o,x=>.bool false::.int .i64 (g:Int)::DY x o
 |.fnCommand g,o,x=>.bool false::.int .i64 (g:Int)::DZ x o
def dF{α β:Type}(g:V->aj β)(f:β->aa V->aj α):aa V->aj α
 |x::cs=>(g x).bind λy=>f y cs
 |[]=>none
def dE{α:Type}(x:α):aa V->aj α
 |[]=>some x
 |_=>none
def V.bU(b:Bool):V->aj Bool|.bool c=>bif c==b then some c else none|_=>none
def V.D2(n:Int):V->aj Int|.int .i64 m=>if m=n then some m else none|_=>none
def DQ{α:Type}(e:α->aa V)(p:aa V->aa V)(d:aa V->aj α):Prop:=∀cs x,d cs=some x->∃L,e x=p L/\lN cs L
def ajo{α:Type}{e:α->aa V}{p:aa V->aa V}{x:α}(h:e x=p []):DQ e p (dE x):=λcs y C=>by
 cases cs with
 |nil=>injection C with C;subst C;exact⟨[],h,.nil⟩
 |cons=>cases C
def bind_some{α β:Type}{a:aj α}{f:α -> aj β}{b:β}(h:a.bind f=some b):∃ x,a=some x/\f x=some b:=by
 cases a with
 |none=>cases h
 |some x=>simp_all
def B6{α β:Type}{e:α->aa V}{p:aa V->aa V}{g:V->aj β}{k:β->V}(D:∀ {x y},g x=some y->Wk x (k y)){f:β->aa V->aj α}(E:∀ y,DQ e (λL=>p (k y :: L)) (f y)):DQ e p (dF g f):=λcs x C=>by
 cases cs with
 |nil=>cases C
 | cons c cs=>
  obtain⟨y,I,O⟩:=bind_some C;obtain⟨L,T,U⟩:=E y cs x O;exact⟨k y::L,T,.cons (D I) U⟩
def V.ajp{b:Bool}{x:V}{c:Bool}(h:x.bU b=some c):Wk x (.bool b):=by
 unfold V.bU at h;split at h
 next C=>cases C<;>cases b<;>first|exact .same _|cases h
 ·cases h
def V.ajq{n:Int}{x:V}{c:Int}(h:x.D2 n=some c):Wk x (.int .i64 n):=by
 unfold V.D2 at h;split at h
 ·split at h
  next C=>subst C;exact .same _
  ·cases h
 ·cases h
abbrev Zj (o:Nat):aa V->aj aO:=dF V.aV λC=>dF V.aV λD=>dF V.aV λE=>dE ⟨C,D,E⟩
abbrev Zk (o:Nat):aa V->aj aT:=dF V.aV λC=>dF V.aV λD=>dF V.aV λE=>dF V.aV λI=>dE ⟨C,D,E,I⟩
abbrev Zl (o:Nat):aa V->aj aU:=dF V.aV λC=>dF V.aV λD=>dF V.aV λE=>dF V.oG λI=>dF V.aV λO=>dF V.aV λT=>dE ⟨C,D,E,I,O,T⟩
abbrev Zm (o:Nat):aa V->aj ax:=dF V.aV λC=>dF V.aV λD=>dF V.aV λE=>dF V.aV λI=>dF V.aV λO=>dF V.aV λT=>dF V.aV λU=>dF V.aV λY=>dF V.aV λZ=>dF V.aV λx9=>dF V.aV λxQ=>dF V.aV λxR=>dF V.aV λxS=>dF V.aV λxT=>dF V.aV λxU=>dF V.aV λxV=>dF V.aV λxW=>dF V.aV λGG=>dF V.aV λGH=>dF V.aV λGI=>dF V.aV λRT=>dF V.aV λRU=>dF V.oG λRX=>dF V.aV λRY=>dF V.aV λRZ=>dF V.aV λR0=>dF V.aV λR1=>dF V.aV λR2=>dF V.aV λx28=>dF V.aV λx29=>dF V.aV λx30=>dF V.aV λx31=>dF V.aV λx32=>dF (V.fK .int o) λx33=>dF V.aV λx34=>dF V.aV λx35=>dF V.aV λx36=>dF V.aV λx37=>dF V.aV λx38=>dF V.aV λx39=>dF V.aV λx40=>dF (V.fK .int o) λx41=>dF V.aV λx42=>dF V.aV λx43=>dF V.oG λx44=>dF V.aV λx45=>dF (V.fK .p9 o) λx46=>dF V.aV λx47=>dF (V.fK .int o) λx48=>dF (V.fK .int o) λx49=>dF (V.fK .Cell o) λx50=>dF (V.fK .int o) λx51=>dF (V.fK .int o) λx52=>dF V.aV λx53=>dF (V.fK .int o) λx54=>dF (V.fK .int o) λx55=>dF V.aV λx56=>dF V.oG λx57=>dF (V.fK .mh o) λx58=>dF (V.fK .int o) λx59=>dF (V.fK .Addr o) λx60=>dF (V.fK .ez o) λx61=>dF (V.fK .gW o) λx62=>dF V.oG λx63=>dF V.aV λx64=>dF V.aV λx65=>dF V.aV λx66=>dF V.aV λx67=>dF V.aV λx68=>dF V.aV λx69=>dF V.aV λx70=>dF V.aV λx71=>dF (V.fK .iG o) λx72=>dF (V.fK .Event o) λx73=>dF (V.fK .oF o) λx74=>dE ⟨⟨⟨C,D,E,I⟩,⟨O,T,U,Y,Z,x9,xQ,xR,xS,xT,xU,xV,xW,GG,GH,GI,RT⟩,⟨RU,RX⟩,RY,RZ,R0,⟨R1,R2⟩⟩,⟨⟨x28,x29,x30,x31,x32,x33,⟨x34,x35⟩⟩,⟨x36,x37,x38,x39,x40,x41,⟨x42,x43⟩⟩,x44⟩,x45,⟨x46,x47⟩,⟨x48,x49⟩,⟨x50,x51,x52⟩,⟨x53,x54⟩,⟨x55,x56,x57⟩,x58,x59,x60,x61,x62,⟨x63,x64,x65⟩,⟨x66,x67,x68⟩,⟨x69,x70,x71⟩,x72,x73,x74⟩
def dec:(t:TC)->(o:Nat)->aa V->aj (T t)
 |.int,_=>dF V.aV dE
 |.u8,_=>dF V.RR dE
 |.bool,_=>dF V.oG dE
 |.str,_=>dF V.RS dE
 |.gf,o=>dF V.aV λC=>dF V.aV λD=>dF V.aV λE=>dF V.aV λI=>dE ⟨C,D,E,I⟩
 |.Addr,o=>Zj o
 |.s7,o=>dF V.aV λC=>dF V.oG λD=>dE ⟨C,D⟩
 |.Command,o=>Zk o
 |.mW,o=>dF V.aV λC=>dF V.aV λD=>dF V.aV λE=>dF V.aV λI=>dF V.aV λO=>dF V.aV λU=>dF V.aV λY=>dF V.aV λZ=>dF V.aV λx8=>dF V.aV λx9=>dF V.aV λxQ=>dF V.aV λxR=>dF V.aV λxS=>dF V.aV λxT=>dF V.aV λxU=>dF V.aV λxV=>dF V.aV λxW=>dE ⟨C,D,E,I,O,U,Y,Z,x8,x9,xQ,xR,xS,xT,xU,xV,xW⟩
 |.p9,o=>dF V.oG λC=>dF V.aV λD=>dE ⟨C,D⟩
 |.kV,o=>dF (V.fK .p9 o) λC=>dF V.aV λD=>dE ⟨C,D⟩
 |.Event,o=>dF V.aV λC=>dF V.aV λD=>dF V.aV λE=>dF V.aV λI=>dF V.aV λO=>dE ⟨C,⟨D,E,I,O⟩⟩
 |.oE,o=>dF (V.fK .int o) λC=>dF (V.fK .int o) λD=>dE ⟨C,D⟩
 |.Cell,o=>dF (V.fK .int o) λC=>dF V.oG λD=>dE ⟨C,D⟩
 |.Array,o=>dF (V.fK .Cell o) λC=>dF (V.fK .int o) λD=>dF (V.fK .int o) λE=>dE ⟨C,D,E⟩
 |.xP,o=>dF V.aV λC=>dF V.aV λD=>dE ⟨C,D⟩
 |.mh,o=>dF (V.fK .int o) λC=>dF (V.fK .int o) λD=>dF V.aV λE=>dE ⟨C,D,E⟩
 |.r3,o=>dF V.aV λC=>dF (V.fK .int o) λD=>dE ⟨C,D⟩
 |.kW,o=>dF (V.fK .int o) λC=>dF V.aV λD=>dF V.oG λE=>dE ⟨C,D,E⟩
 |.ez,o=>Zl o
 |.gW,o=>dF V.aV λC=>dF V.aV λD=>dE ⟨C,D⟩
 |.s8,o=>dF V.oG λC=>dF V.aV λD=>dF V.aV λE=>dE ⟨C,D,E⟩
 |.Power,o=>dF V.aV λC=>dF V.aV λD=>dF V.aV λE=>dE ⟨C,D,E⟩
 |.v7,o=>dF V.aV λC=>dF V.aV λD=>dE ⟨C,D⟩
 |.iG,o=>dF V.aV λC=>dF V.aV λD=>dF V.aV λE=>dE ⟨C,D,E⟩
 |.uL,o=>dF V.aV λC=>dF V.aV λD=>dF V.aV λE=>dE ⟨C,D,E⟩
 |.nT,o=>dF V.aV λC=>dF V.aV λD=>dF V.aV λE=>dF V.aV λI=>dF V.aV λO=>dF (V.fK .int o) λU=>dF V.aV λY=>dF V.aV λZ=>dE ⟨C,D,E,I,O,U,⟨Y,Z⟩⟩
 |.s9,o=>dF V.aV λC=>dF V.aV λD=>dF V.aV λE=>dF V.aV λI=>dF V.aV λO=>dF (V.fK .int o) λU=>dF V.aV λY=>dF V.aV λZ=>dF V.aV λx8=>dF V.aV λx9=>dF V.aV λxQ=>dF V.aV λxR=>dF V.aV λxS=>dF (V.fK .int o) λxT=>dF V.aV λxU=>dF V.aV λxV=>dF V.oG λxW=>dE ⟨⟨C,D,E,I,O,U,⟨Y,Z⟩⟩,⟨x8,x9,xQ,xR,xS,xT,⟨xU,xV⟩⟩,xW⟩
 |.Config,o=>dF V.aV λC=>dF V.aV λD=>dF V.aV λE=>dF V.aV λI=>dF V.aV λO=>dF V.aV λU=>dF V.aV λY=>dF V.aV λZ=>dF V.aV λx8=>dF V.aV λx9=>dF V.aV λxQ=>dF V.aV λxR=>dF V.aV λxS=>dF V.aV λxT=>dF V.aV λxU=>dF V.aV λxV=>dF V.aV λxW=>dF V.aV λGG=>dF V.aV λGH=>dF V.aV λGI=>dF V.aV λRT=>dF V.aV λRU=>dF V.oG λRX=>dF V.aV λRY=>dF V.aV λRZ=>dF V.aV λR0=>dF V.aV λR1=>dF V.aV λR2=>dE ⟨⟨C,D,E,I⟩,⟨O,U,Y,Z,x8,x9,xQ,xR,xS,xT,xU,xV,xW,GG,GH,GI,RT⟩,⟨RU,RX⟩,RY,RZ,R0,⟨R1,R2⟩⟩
 |.oF,o=>dF V.aV λC=>dF V.aV λD=>dF V.aV λE=>dF V.aV λI=>dE ⟨C,D,E,I⟩
 |.dV,o=>Zm o
 |.Act,o=>dF V.aV λC=>dF V.aV λD=>dF V.aV λE=>dF V.aV λI=>dF V.oG λO=>dF V.aV λU=>dF V.aV λY=>dF V.aV λZ=>dF V.aV λx8=>dF V.aV λx9=>dF V.aV λxQ=>dF V.aV λxR=>dF V.aV λxS=>dF V.aV λxT=>dF V.aV λxU=>dF V.aV λxV=>dF V.aV λxW=>dF (V.fK .int o) λGG=>dF V.aV λGH=>dF V.aV λGI=>dE ⟨C,⟨D,E,I,O,U,Y⟩,Z,x8,⟨x9,xQ,xR⟩,⟨xS,xT,xU,xV,xW,GG,⟨GH,GI⟩⟩⟩
 |.ta,o=>dF (V.fK .u8 o) λC=>dF V.aV λD=>dF V.aV λE=>dE ⟨C,D,E⟩
 |.sl t,o=>dF (V.fK t o) dE
 |.DX,o=>dF (V.bU true) λ_=>Zm o
 |.B3 g,o=>dF (V.bU false) λ_=>dF (V.D2 g) λ_=>dF V.aV dE
 |.B4 g,o=>dF (V.bU false) λ_=>dF (V.D2 g) λ_=>Zl o
 |.B5 g,o=>dF (V.bU false) λ_=>dF (V.D2 g) λ_=>Zj o
 |.fnCommand g,o=>dF (V.bU false) λ_=>dF (V.D2 g) λ_=>Zk o
def Zn:TC->Nat->aa V
 |.dV,o=>D1 ⟨⟨⟨0,0,0,0⟩,⟨0,0,0,0,0,0,0,0,0,0,0,0,0,0,0,0,0⟩,⟨0,false⟩,0,0,0,⟨0,0⟩⟩,⟨⟨0,0,0,0,0,[],⟨0,0⟩⟩,⟨0,0,0,0,0,[],⟨0,0⟩⟩,false⟩,0,⟨[],0⟩,⟨[],[]⟩,⟨[],[],[]⟩,⟨0,[]⟩,⟨[],0,false⟩,[],[],[],[],[],⟨false,0,0⟩,⟨0,0,0⟩,⟨0,0,0⟩,[],[],[]⟩ o
 |_,_=>[]
def kX(t:TC)(o:Nat)(x:T t):(enc t o x).length=aC t:=by cases t<;>rfl
def oH(t:TC):0<aC t:=by cases t<;>simp[aC]
def ajr(t:TC)(o:Nat):DQ (enc t o) id (dec t o):=by
 cases t<;>dsimp only[dec]<;>(repeat' first|exact ajo rfl|refine B6 V.ajk λ_=>?_|refine B6 V.ajm λ_=>?_|refine B6 V.GF λ_=>?_|refine B6 V.ajn λ_=>?_|refine B6 V.ajl λ_=>?_|refine B6 V.ajp λ_=>?_|refine B6 V.ajq λ_=>?_)
def mj(t:TC)(o:Nat)(cs:aa V)(x:T t)(h:dec t o cs=some x):lN cs (enc t o x):=by
 obtain⟨L,C,D⟩:=ajr t o cs x h;rw[C];exact D
def V.low(n:Nat):V->Bool
 |.sl t _ _ _=>Nat.ble (full t+2) n
 |_=>true
def LR(t:TC)(o:Nat)(x:T t):∀ y∈enc t o x,y.low (full t)=true:=by
 cases t<;>simp[enc,V.low,full,DY,DZ,D0,D1]
def V.plain:V->Bool
 |.int _ _|.bool _|.str _=>true
 |_=>false
def zR(t:TC)(o:Nat)(x:T t)(h:full t=0):∀ y∈enc t o x,y.plain=true:=by
 cases t<;>first|(simp[full]at h;done)|simp[enc,V.plain,DY,DZ,D0]
def V.ku:V->Bool
 |.nil=>false
 |_=>true
def R3(t:TC)(o:Nat)(x:T t):∀ y∈enc t o x,y.ku=true:=by
 cases t<;>simp[enc,V.ku,DY,DZ,D0,D1]
def tcs:aa TC:=[.int,.u8,.bool,.str,.sl .int,.sl .bool,.sl .str,.gf,.Addr,.s7,.Command,.mW,.p9,.kV,.Event,.oE,.Cell,.Array,.xP,.mh,.r3,.kW,.ez,.gW,.s8,.Power,.v7,.iG,.uL,.nT,.s9,.Config,.oF,.dV,.Act,.ta]
def Zo(e:TypeId):aj TC:=tcs.find? λt=>Nat.beq (tid t) e
def ajs{e:TypeId}{t:TC}(h:Zo e=some t):tid t=e:=cJ (List.find?_some (p:=λt=>Nat.beq (tid t) e) h)
def V.gr(o:Nat):V->Bool
 |.sl _ C _ _=>C==o
 |_=>true
def zS(t:TC)(o:Nat)(x:T t):∀ y∈enc t o x,y.gr o=true:=by
 cases t<;>simp[enc,V.gr,DY,DZ,D0,D1]
def V.aH:V->Bool
 |.sl _ o _ _=>decide (o<2)
 |_=>true
def V.gI:V->V
 |.sl t _ q l=>.sl t 0 q l
 |x=>x
def ajt(t:TC)(o:Nat)(x y:T t):(enc t o x).map (λv=>(v.plain,v.aH))=(enc t o y).map (λv=>(v.plain,v.aH)):=by cases t<;>rfl
def V.aju(x:V):x.gI.aH=true:=by cases x<;>simp[V.gI,V.aH]
def qU(t:TC)(o:Nat)(x:T t)(C:o<2)(j:Nat)(y:V)(h:(enc t o x)[j]?=some y):y.aH=true:=by
 have:=zS t o x y (gT h);cases y<;>simp_all [V.gr,V.aH]
def Zp(t:TC)(o:Nat)(x:T t):enc t 0 x=(enc t o x).map V.gI:=by cases t<;>rfl
def xX(t:TC)(o:Nat)(x:T t)(j:Nat)(y:V)(h:(enc t 0 x)[j]?=some y):∃ z,(enc t o x)[j]?=some z/\y=z.gI:=by
 rw[Zp t o x,eO]at h
 grind
def inner:Nat->Nat
 |0=>0
 |1=>1
 |n+2=>n
abbrev bw:=Nat->aj (aa Nat)
inductive RV (w:World) (B:Nat) (af:bw):List Nat->V->Value->Prop
 |int (q:List Nat) (k:IntKind) (n:Int):RV w B af q (.int k n) (.int k n)
 |bool (q:List Nat) (b:Bool):RV w B af q (.bool b) (.bool b)
 |str (q:List Nat) (s:ByteArray):RV w B af q (.str s) (.string s)
 |nil (q:List Nat):RV w B af q .nil (.slice none 0 0)
 |eS (q:List Nat) (t:TC) (o:Nat):RV w B af q (.sl t o false []) (.slice none 0 0)
 |fU (q:List Nat) (t:TC) (o:Nat) (A:Addr) (c:Nat) (ho:o<2):RV w B af q (.sl t o false []) (.slice (some A) 0 c)
 |gj (q:List Nat) (t:TC) (o:Nat) (A:Addr) (c:Nat) (ho:o<2):RV w B af q (.sl t o true []) (.slice (some A) 0 c)
 | aH (q:List Nat) (t:TC) (o:Nat) (qn:Bool) (l:List (T t)) (b off cap:Nat) (u:Nat->Nat->Value) (ho:o<2) (hl:af b=none) (hb:b<w.heap.size) (h1:o=1->B<=b) (kz:l.length<=cap)
   (hc:∀i (h:i<l.length) j x,(enc t o l[i])[j]?=some x->w.cell? ⟨b,off+(i*aC t+j),none⟩=some (u i j))
   (hr:∀i (h:i<l.length) j x,(enc t o l[i])[j]?=some x->RV w B af [] x (u i j)):RV w B af q (.sl t o qn l) (.slice (some ⟨b,off,none⟩) l.length cap)
 | own (q:List Nat) (t:TC) (o:Nat) (qn:Bool) (l:List (T t)) (b cap:Nat) (cs:Array Value) (u:Nat->Nat->Value) (hl:af b=some q) (hh:w.heap[b]?=some (.cells cs (tid t) (0,0)))
   (hs:cs.size=cap*aC t) (hn:l.length<=cap) (hm:cap<=maxLen/\(qn=true->cap=l.length))
   (hc:∀i (h:i<l.length) j x,(enc t o l[i])[j]?=some x->cs[i*aC t+j]?=some (u i j))
   (hr:∀i (h:i<l.length) j x,(enc t o l[i])[j]?=some x->RV w B af (j::i::aC t::q) x (u i j)):RV w B af q (.sl t (o+2) qn l) (.slice (some ⟨b,0,none⟩) l.length cap)
section
variable {w w':World} {B:Nat} {af aA:bw}
def V.GJ(n:Nat):V->V
 |.sl t _ q l=>.sl t n q l
 |x=>x
def ajv(t:TC)(o n:Nat)(x:T t):enc t n x=(enc t o x).map (V.GJ n):=by cases t<;>rfl
def V.fu(n:Nat):V->Prop
 |.sl t o _ _=>full t+2<=o/\full t+2<=n
 |_=>True
def RV.GJ{q:aa Nat}{x:V}{v:Value}(h:RV w B af q x v):∀ n,x.fu n -> RV w B af q (x.GJ n) v:=by
 induction h with
 |int=>exact λ_ _=>.int _ _ _
 |bool=>exact λ_ _=>.bool _ _
 |str=>exact λ_ _=>.str _ _
 |nil=>exact λ_ _=>.nil _
 |eS=>exact λ_ _=>.eS _ _ _
 |fU q t o A c I=>exact λn C=>by have:=C.1;omega
 |gj q t o A c I=>exact λn C=>by have:=C.1;omega
 |aH q t o O l b off cap u I hl hb T kz U Y Z=>exact λn C=>by have:=C.1;omega
 | own q t o O l b cap cs u hl hh hs C hm U Y Z=>
  intro n hf;obtain⟨T,h2⟩:=hf;obtain⟨m,rfl⟩:∃m,n=m+2:=⟨n-2,by omega⟩
  have key:∀ (i:Nat) (h:i<l.length) (j:Nat) (x:V),(enc t m l[i])[j]?=some x -> ∃ y:V,(enc t o l[i])[j]?=some y/\y.GJ m=x/\y.fu m:=by
   intro i h j x D;rw[ajv t o m l[i],eO]at D;cases E:(enc t o l[i])[j]? with
   |none=>simp_all
   | some y=>
    rw[E]at D;injection D with D;refine⟨y,rfl,D,?_⟩;have g1:=zS t o l[i] y (gT E);have g2:=LR t o l[i] y (gT E);cases y with
    | sl t' o' q' l'=>
     have e:o'=o:=by simpa [V.gr]using g1
     have:=cE (show Nat.ble _ _=true from g2);exact⟨by omega,by omega⟩
    |_=>trivial
  refine .own _ _ _ _ _ _ _ cs u hl hh hs C hm (λi h j x D=>?_) (λi h j x D=>?_)
  ·grind
  ·grind
def RV.wk{q:aa Nat}{x y:V}{v:Value}(h:RV w B af q x v)(k:Wk x y):RV w B af q y v:=by
 cases k with
 |same=>exact h
 |nil t o=>cases h;exact .eS _ _ _
 | gr t o o' I l O h2=>
  have h:=h.GJ o ⟨h2,O⟩;cases h with
  |eS=>exact .eS _ _ _
  |fU q t o A c C=>grind
  |gj q t o A c C=>grind
  |aH q t o I l b off cap u C hl hb O kz D E=>grind
  |own q t o I l b cap cs u hl T U Y Z D E=>exact .own _ _ _ _ _ _ _ cs u hl T U Y ⟨Z.1,λh=>by cases h⟩ D E
 | q t o l=>
  cases h with
  |gj q t o A c C=>exact .fU _ _ _ _ _ C
  |aH q t o I l b off cap u C hl hb O kz D E=>exact .aH _ _ _ _ _ _ _ _ u C hl hb O kz D E
  |own q t o I l b cap cs u hl T U Y Z D E=>exact .own _ _ _ _ _ _ _ cs u hl T U Y ⟨Z.1,λh=>by cases h⟩ D E
def RV.map{Q:aa Nat->aa Nat->Prop}(Z:w.heap.size<=w'.heap.size)(h0:∀ b,b<w.heap.size->af b=none->w'.heap[b]?=w.heap[b]?/\aA b=none)
  (h1:∀b q C,b<w.heap.size->af b=some q->Q q C->w'.heap[b]?=w.heap[b]?/\aA b=some C/\∀j i s,Q (j::i::s::q) (j::i::s::C)) {q C:aa Nat} {x:V} {v:Value} (h:RV w B af q x v) (hq:x.aH=true\/Q q C):RV w' B aA C x v:=by
 induction h generalizing C with
 |int=>exact .int _ _ _
 |bool=>exact .bool _ _
 |str=>exact .str _ _
 |nil=>exact .nil _
 |eS=>exact .eS _ _ _
 |fU _ _ _ _ _ D=>exact .fU _ _ _ _ _ D
 |gj _ _ _ _ _ D=>exact .gj _ _ _ _ _ D
 | aH q t o qn l b off cap u D hl hb Zq kz I hr O=>
  obtain⟨T,U⟩:=h0 b hb hl;exact .aH _ _ _ _ _ _ _ _ u D U (Nat.lt_of_lt_of_le hb Z) Zq kz (λi h j x E=>(World.cell?_of_block (a:=⟨b,_,none⟩) T).trans (I i h j x E)) (λi h j x E=>O i h j x E (.inl (qU t o l[i] D j x E)))
 | own q t o qn l b cap cs u hl Y hs hn hm I hr O=>
  obtain⟨T,U,e3⟩:=h1 b q C (iY.1 Y).1 hl (hq.resolve_left (by simp[V.aH]));exact .own _ _ _ _ _ _ _ cs u U (T.trans Y) hs hn hm I (λi h j x E=>O i h j x E (.inr (e3 _ _ _)))
def RV.Zr{q C:aa Nat}{x:V}{v:Value}(h:RV w B af q x v)(D:x.aH=true)(hl:∀ b,af b=none->aA b=none):RV w B aA C x v:=
 h.map (Q:=λ_ _=>False) (dg _) (λb _ h=>⟨rfl,hl b h⟩) (λ_ _ _ _ _ h=>h.elim) (.inl D)
def RV.LS{q:aa Nat}{x:V}{v:Value}(h:RV w B af q x v)(C:x.aH=true)(hl:∀b,af b=none->aA b=none):RV w B aA q x v:=h.Zr C hl
def RV.key{q C:aa Nat}{x:V}{v:Value}(h:RV w B af q x v)(D:x.aH=true):RV w B af C x v:=h.Zr D λ_ h=>h
def mX:Value->Bool
 |.slice ..=>true
 |_=>false
def RV.R4{q:aa Nat}{x:V}{u:Value}(h:RV w B af q x u)(C:x.aH=false):mX u=true:=by
 cases h<;>first|rfl|cases C
def RV.one{q:aa Nat}{x:V}{u:Value}(h:RV w B af q x u):u.oneCell'=true:=by
 cases h<;>rfl
def RV.jr{q:aa Nat}{x:V}{v:Value}(h:RV w B af q x v)(D:w.heap.size<=w'.heap.size)(C:∀ b,b<w.heap.size->w'.heap[b]?=w.heap[b]?/\aA b=af b):RV w' B aA q x v:=
 h.map (Q:=Eq) D (λb hb hl=>⟨(C b hb).1,(C b hb).2.trans hl⟩) (λb q E hb hl e=>by subst e;exact⟨(C b hb).1,(C b hb).2.trans hl,λ_ _ _=>rfl⟩) (.inr rfl)
def RV.apart{q kt:aa Nat}{x:V}{v:Value}{bt:Nat}(h:RV w B af q x v)(C:af bt=some kt)(I:¬ q <:+ kt\/x.aH=true)(O:w.heap.size<=w'.heap.size)(D:∀ b,b≠bt->w'.heap[b]?=w.heap[b]?):RV w' B af q x v:=
 h.map (Q:=λq E=>q=E/\¬ q <:+ kt) O (λb _ hl=>⟨D b (by rintro rfl;rw[hl]at C;cases C),hl⟩) (λb q E _ hl e=>by
  obtain⟨rfl,e⟩:=e;exact⟨D b (by rintro rfl;rw[hl]at C;injection C with C;subst C;exact e (List.suffix_refl _)),hl,λj i s=>⟨rfl,λT=>e (List.IsSuffix.trans ⟨[j,i,s],rfl⟩ T)⟩⟩) (I.symm.imp_right λh=>⟨rfl,h⟩)
def RV.gI{q E:aa Nat}{x:V}{v:Value}(h:RV w B af q x v){B':Nat}:RV w B' (λ_=>none) E x.gI v:=by
 induction h generalizing E with
 |int=>exact .int _ _ _
 |bool=>exact .bool _ _
 |str=>exact .str _ _
 |nil=>exact .nil _
 |eS=>exact .eS _ _ _
 |fU=>exact .fU _ _ _ _ _ (by first|assumption|omega)
 |gj=>exact .gj _ _ _ _ _ (by first|assumption|omega)
 | aH q t o T l b off cap u ho hl hb h1 U I Y Z=>
  refine .aH _ _ _ _ _ _ _ _ u (by omega) rfl hb (by omega) U (λi h j x C=>?_) (λi h j x C=>?_)
  ·obtain⟨y,D,_⟩:=xX t o l[i] j x C;simp_all
  ·obtain⟨y,D,rfl⟩:=xX t o l[i] j x C;simp_all
 | own q t o T l b cap cs u hl O hs hn hm I Y Z=>
  refine .aH _ _ _ _ _ _ _ _ u (by omega) rfl (iY.1 O).1 (by omega) hn (λi h j x C=>?_) (λi h j x C=>?_)
  ·obtain⟨y,D,_⟩:=xX t o l[i] j x C;have:=I i h j y D;rw[fO,cell_of_row w b _ cs _ _ O];exact this
  ·obtain⟨y,D,rfl⟩:=xX t o l[i] j x C;simp_all
end
set_option linter.unusedVariables false
inductive Lf where
 |v (x:V)
 |own (k:List Nat)
 |dead
inductive A where
 |undef
 |skip
 |lf (x:Lf)
 |agg (cs:List Lf)
 |fz (xs:List (Bool×List Lf))
 |ptr (k:List Nat)
 |aG (r j:Nat)
 |js (cs:List V)
 |nU (f:Nat) (cs:List V)
 |pk (r n:Nat)
 |view (k:List Nat) (s i j:Nat)
 |fn (f:Nat) (cap:List (Nat×Nat))
inductive aS where
 |az (cs:List Lf)
 |sl (y:V)
 |mp (l:List (Int×Bool))
 |gh (xs:List A)
structure S where
 t:Nat->A
 m:Nat->Option aS
inductive Loc where
 |az (b off:Nat)
 |dQ (v:Value)
 |bH (us:List Value)
def addrAt(w:World)(af:bw)(ρ:Nat->Loc):aa Nat->aj Addr
 | j :: i :: s :: [r]=>match ρ r with
  |.dQ (.slice (some ⟨b,0,none⟩) _ _)=>if af b=some [r]then some ⟨b,i*s+j,none⟩else none
  |_=>none
 | j :: i :: s :: q=>match (addrAt w af ρ q).bind w.cell? with
  |some (.slice (some ⟨b,0,none⟩) _ _)=>if af b=some q then some ⟨b,i*s+j,none⟩else none
  |_=>none
 |_=>none
def c9(w:World)(af:bw)(ρ:Nat->Loc):aa Nat->aj Value
 | [r]=>match ρ r with
  |.dQ v=>some v
  |_=>none
 |q=>(addrAt w af ρ q).bind w.cell?
def eB(w:World)(B:Nat)(af:bw)(ρ:Nat->Loc):Lf->Value->Prop
 |.v x,u=>x.aH=true/\RV w B af [] x u
 |.own k,u=>mX u=true/\c9 w af ρ k=some u
 |.dead,_=>True
def eX(w:World)(B:Nat)(af:bw)(ρ:Nat->Loc)(cs:aa Lf)(us:Array Value):Prop:=
 us.size=cs.length/\∀(j:Nat) x,cs[j]?=some x->∃u,us[j]?=some u/\eB w B af ρ x u
def RP(w:World)(B:Nat)(af:bw)(ρ:Nat->Loc)(p:Bool×aa Lf)(u:Value):Prop:=
 match p with
 |(true,cs)=>∃us,u = .agg us/\eX w B af ρ cs us
 |(false,cs)=>eX w B af ρ cs #[u]
def r4:Nat:=4294967296
def LU(b n:Nat):Value:=bif Nat.beq n r4 then .map (some b)else .slice (some ⟨b,0,none⟩) n n
def R5{b n:Nat}(h:n<r4):LU b n = .slice (some ⟨b,0,none⟩) n n:=by
 unfold LU;cases hb:Nat.beq n r4 with
 |true=>simp_all
 |false=>rfl
def R6(b:Nat):LU b r4 = .map (some b):=rfl
def RF(w:World)(B:Nat)(af:bw)(cs:aa V)(u:Value):Prop:=
 ∃b off,u = .pointer (some ⟨b,off,none⟩)/\b<w.heap.size/\af b=none/\∀(j:Nat) x,cs[j]?=some x->x.aH=true/\∃v,w.cell? ⟨b,off+j,none⟩=some v/\RV w B af [] x v
def RA(w:World)(B:Nat)(af:bw)(ρ:Nat->Loc):A->Value->Prop
 |.undef,_=>True
 |.skip,u=>u=Go.undef
 |.lf x,u=>eB w B af ρ x u
 |.agg cs,u=>RP w B af ρ (true,cs) u
 |.fz xs,u=>∃us:Array Value,u = .tuple us/\us.size=xs.length/\∀(j:Nat) p,xs[j]?=some p->∃v,us[j]?=some v/\RP w B af ρ p v
 |.ptr k,u=>∃ad,u = .pointer (some ad)/\addrAt w af ρ k=some ad
 |.aG r j,u=>∃b off,ρ r = .az b off/\u = .pointer (some ⟨b,off+j,none⟩)
 |.js cs,u=>RF w B af cs u
 |.nU f cs,u=>∃pv,u = .func (.func f) #[] #[pv]/\RF w B af cs pv
 |.pk r n,u=>∃b,ρ r = .az b 0/\u=LU b n
 |.view k s i j,u=>∃A n c,c9 w af ρ k=some (.slice A n c)/\i<=j/\j<=n/\u=sliced A i j c s
 |.fn f cap,u=>∃C:Array Value,u = .func (.func f) #[] C/\C.size=cap.length/\∀(j:Nat) p,cap[j]?=some p->∃b off,ρ p.1 = .az b off/\C[j]?=some (.pointer (some ⟨b,off+p.2,none⟩))
inductive eH (w:World) (B:Nat) (af:bw) (ρ:Nat->Loc) (r:Nat):aS->Prop
 | az (b off:Nat) (cells:Array Value) (e:TypeId) (cs:List Lf) (us:Nat->Value) (ck:ρ r = .az b off) (hl:af b=some [r]) (hh:w.heap[b]?=some (.cells cells e (0,0))) (hs:off+cs.length<=cells.size)
   (hc:∀(j:Nat) x,cs[j]?=some x->cells[off+j]?=some (us j)/\eB w B af ρ x (us j)):eH w B af ρ r (.az cs)
 |sl (v:Value) (y:V) (ck:ρ r = .dQ v) (hr:RV w B af [r] y v):eH w B af ρ r (.sl y)
 |mp (b clock:Nat) (es:Array MapEntry) (l:List (Int×Bool)) (ck:ρ r = .az b 0) (hl:af b=some [r]) (hh:w.heap[b]?=some (.map es clock)) (he:es.toList.map (λe=>(e.key,e.val))=l.map λp=>(.int .i64 p.1,.bool p.2)):eH w B af ρ r (.mp l)
 |gh (us:List Value) (xs:List A) (ck:ρ r = .bH us) (hx:∀(j:Nat) x,xs[j]?=some x->RA w B af ρ x (us.getD j undef)):eH w B af ρ r (.gh xs)
def Qw(_:World):Prop:=True
structure ajw (n:Nat) (L:bw) (w w':World):Prop where
 os:w'.os=w.os
 tape:w'.tape=w.tape
 output:w'.output=w.output
 size:w.heap.size<=w'.heap.size
 block:∀k,k<n->L k=none->w'.heap[k]?=w.heap[k]?
def Hd(w:World)(L:bw):Prop:=∀w',ajw w.heap.size L w w'->Qw w'
def ajx(w:World)(L:bw):Hd w L:=λ_ _=>trivial
structure Wd where
 w:World
 L:bw
 F:Nat->Option Loc
 held:Hd w L
 low:∀r,r<20000->F r=none
def Wd.heap(d:Wd):Array Obj:=d.w.heap
def Wd.of(w:World)(h:Hd w λ_=>none):Wd:=⟨w,λ_=>none,λ_=>none,h,λ_ _=>rfl⟩
structure jt (d:Wd) (w w':World):Prop where
 os:w'.os=w.os
 tape:w'.tape=w.tape
 output:w'.output=w.output
 size:w.heap.size<=w'.heap.size
 block:∀k,k<d.heap.size->d.L k=none->w'.heap[k]?=w.heap[k]?
def jt.trans{d:Wd}{a b c:World}(h:jt d a b)(k:jt d b c):jt d a c:=
 ⟨k.os.trans h.os,k.tape.trans h.tape,k.output.trans h.output,Nat.le_trans h.size k.size,λi hi hl=>(k.block i hi hl).trans (h.block i hi hl)⟩
def Wd.on(d:Wd){w:World}(h:jt d d.w w){L:bw}(D:∀ b k,L b=some k->d.heap.size<=b\/d.L b≠none):Hd w L:=λw' hb=>
 d.held w' ⟨hb.os.trans h.os,hb.tape.trans h.tape,hb.output.trans h.output,Nat.le_trans h.size hb.size,λk C hl=>by
  have e:L k=none:=by
   cases e:L k with
   |none=>rfl
   | some q=>
    rcases D k q e with h1|h1
    ·exact absurd C (Nat.not_lt.2 h1)
    ·exact absurd hl h1
  exact(hb.block k (Nat.lt_of_lt_of_le C h.size) e).trans (h.block k C hl)⟩
def jt.of{d:Wd}{a b:World}{B:Nat}(h:Below B a b)(hB:d.heap.size<=B):jt d a b:=
 ⟨h.os,h.tape,h.output,h.size,λi hi _=>h.block i (Nat.lt_of_lt_of_le hi hB)⟩
structure Rl (w0:Wd) (N:Nat) (af:bw) (ρ:Nat->Loc) (σ:S) (a:Act) (w:World):Prop where
 below:jt w0 w0.w w
 dj:∀b k,af b=some k->(w0.heap.size<=b\/w0.L b≠none)/\b<w.heap.size/\k≠[]
 root:∀r x,σ.m r=some x->eH w w0.heap.size af ρ r x
 tmp:∀k,RA w w0.heap.size af ρ (σ.t k) (a.tmps.getD k undef)
 size:a.tmps.size=N
 defers:a.defers=[]
 fix:∀r l,w0.F r=some l->ρ r=l
 cS:∀r,(r<N\/60000<=r)->w0.F r=none
def R(w0:Wd)(N:Nat)(σ:S)(a:Act)(w:World):Prop:=∃af ρ,Rl w0 N af ρ σ a w
/-! Reading along a key. -/
inductive xY (m:Nat->Option aS):List Nat->V->Prop
 |root (r:Nat) (y:V) (h:m r=some (.sl y)):xY m [r] y
 |elem (j i:Nat) (q:List Nat) (t:TC) (o:Nat) (qn:Bool) (l:List (T t)) (y:V) (h:xY m q (.sl t (o+2) qn l)) (hi:i<l.length) (hy:(enc t o l[i])[j]?=some y):xY m (j::i::aC t::q) y
section
variable {w w':World} {w0:Wd} {B N:Nat} {af aA:bw} {ρ ρ':Nat->Loc} {m:Nat->aj aS} {σ:S} {a:Act}
def B7{q:aa Nat}(j i s:Nat){b n c:Nat}(h:c9 w af ρ q=some (.slice (some ⟨b,0,none⟩) n c))(hl:af b=some q):addrAt w af ρ (j :: i :: s :: q)=some ⟨b,i*s+j,none⟩:=by
 match q,h,hl with
 | [r],h,hl=>
  simp[c9]at h;simp[addrAt]
  grind
 | x :: y :: q,h,hl=>
  simp[c9]at h;simp[addrAt,h,hl,if_true]
def LV{j i s:Nat}{q:aa Nat}:c9 w af ρ (j::i::s::q)=(addrAt w af ρ (j::i::s::q)).bind w.cell?:=rfl
def xY.ok{k:aa Nat}{y:V}(h:xY m k y)(D:∀ r x,m r=some x -> eH w B af ρ r x):∃ u,c9 w af ρ k=some u/\RV w B af k y u:=by
 induction h with
 | root r y h=>
  cases D _ _ h with
  |sl v y E C=>exact⟨v,by simp[c9,E],C⟩
 | elem j i q t o Y l y h hi I O=>
  obtain⟨u,T,C⟩:=O;cases C with
  |eS=>simp at hi
  |fU=>simp at hi
  |gj=>simp at hi
  |aH _ _ _ _ _ _ _ _ _ Z=>omega
  | own _ _ _ _ _ b cap cs us hl U hs hn D hc C=>
   refine⟨us i j,?_,C i hi j y I⟩;rw[LV,B7 j i _ T hl];show w.cell? _=_;rw[cell_of_row w b _ cs _ _ U];simp_all
def B8:∀ (k:aa Nat) (ad:Addr),addrAt w af ρ k=some ad -> ∃ j i s q,k=j :: i :: s :: q/\af ad.block=some q/\ad.off=i*s+j/\ad.spot=none/\(∀ r,q=[r] -> ∃ v,ρ r = .dQ v)
 |[],_,h=>by simp[addrAt]at h
 | [j,i,s,r],ad,h=>by
  simp only[addrAt]at h
  grind
 | j :: i :: s :: x :: y :: q,ad,h=>by
  simp only[addrAt]at h
  grind
/-! What is forgotten: keys of leaves,of addresses,roots. -/
structure nW where
 l:List Nat->Bool
 p:List Nat->Bool
 r:Nat->Bool
def Lf.cx(f:aa Nat->Bool):Lf->Lf
 |.own k=>bif f k then .dead else .own k
 |x=>x
def A.cx(K:nW):A->A
 |.lf x=>.lf (x.cx K.l)
 |.agg cs=>.agg (cs.map (Lf.cx K.l))
 |.fz xs=>.fz (xs.map λp=>(p.1,p.2.map (Lf.cx K.l)))
 |.ptr k=>bif K.p k then .undef else .ptr k
 |.aG r j=>bif K.r r then .undef else .aG r j
 |.pk r n=>bif K.r r then .undef else .pk r n
 |.view k s i j=>bif K.p k then .undef else .view k s i j
 |.fn f cap=>bif cap.any (λp=>K.r p.1)then .undef else .fn f cap
 |x=>x
def aS.cx(K:nW):aS->aS
 |.az cs=>.az (cs.map (Lf.cx K.l))
 |.gh xs=>.gh (xs.map (A.cx K))
 |x=>x
/-! What names nothing that is forgotten. -/
def Lf.fr(f:aa Nat->Bool):Lf->Bool
 |.own k=>!f k
 |_=>true
def A.fr(K:nW):A->Bool
 |.lf x=>x.fr K.l
 |.agg cs=>cs.all (Lf.fr K.l)
 |.fz xs=>xs.all λq=>q.2.all (Lf.fr K.l)
 |.ptr k=>!K.p k
 |.aG r _=>!K.r r
 |.pk r _=>!K.r r
 |.view k _ _ _=>!K.p k
 |.fn _ cap=>cap.all λq=>!K.r q.1
 |_=>true
def Lf.qa{f:aa Nat->Bool}{x:Lf}(h:x.fr f=true):x.cx f=x:=by
 cases x with
 |own k=>simp only[Lf.cx,show f k=false by simpa [Lf.fr]using h,av]
 |_=>rfl
def r5.qa{f:aa Nat->Bool}{cs:aa Lf}(h:cs.all (Lf.fr f)=true):cs.map (Lf.cx f)=cs:=
 (pW λx C=>Lf.qa (bT.1 h x C)).trans (List.map_id cs)
def A.qa{K:nW}{x:A}(h:x.fr K=true):x.cx K=x:=by
 cases x with
 |lf x=>exact bB A.lf (Lf.qa h)
 |agg cs=>exact bB A.agg (r5.qa h)
 |fz xs=>exact bB A.fz ((pW λq C=>by rw[r5.qa (bT.1 h q C)];rfl).trans (List.map_id xs))
 |ptr k=>simp only[A.cx,show K.p k=false by simpa [A.fr]using h,av]
 |view k=>simp only[A.cx,show K.p k=false by simpa [A.fr]using h,av]
 |aG r=>simp only[A.cx,show K.r r=false by simpa [A.fr]using h,av]
 |pk r=>simp only[A.cx,show K.r r=false by simpa [A.fr]using h,av]
 |fn f cap=>simp only[A.cx,show (cap.any λp=>K.r p.1)=false from l8.2 λp D=>by simpa using bT.1 h p D,av]
 |_=>rfl
def Lf.th{f g:aa Nat->Bool}(hl:∀ k,f k=true->g k=true){x:Lf}(h:x.fr g=true):x.fr f=true:=by
 cases x with
 | own k=>
  have h:(!g k)=true:=h;show (!f k)=true;cases C:f k with
  |false=>rfl
  |true=>rw[hl k C]at h;cases h
 |_=>rfl
def A.th{K J:nW}(hl:∀ k,K.l k=true->J.l k=true)(I:∀ k,K.p k=true->J.p k=true)(O:∀ r,K.r r=true->J.r r=true){x:A}(h:x.fr J=true):x.fr K=true:=by
 have C:∀r,(!J.r r)=true->(!K.r r)=true:=λr h=>Lf.th (x:=.own []) (f:=λ_=>K.r r) (λ_=>O r) h
 cases x with
 |lf x=>exact Lf.th hl h
 |agg cs=>exact bT.2 λc D=>Lf.th hl (bT.1 h c D)
 |fz xs=>exact bT.2 λq E=>bT.2 λc D=>Lf.th hl (bT.1 (bT.1 h q E) c D)
 |ptr k=>exact Lf.th (x:=.own k) I h
 |view k=>exact Lf.th (x:=.own k) I h
 |aG r=>exact C r h
 |pk r=>exact C r h
 |fn f cap=>exact bT.2 λq E=>C _ (bT.1 h q E)
 |_=>rfl
def Lf.qb(x:Lf)(f g:aa Nat->Bool):(x.cx f).cx g=(x.cx g).cx f:=by
 cases x with
 |own k=>cases C:f k<;>cases D:g k<;>simp[Lf.cx,C,D]
 |_=>rfl
def r5.qb(cs:aa Lf)(f g:aa Nat->Bool):(cs.map (Lf.cx f)).map (Lf.cx g)=(cs.map (Lf.cx g)).map (Lf.cx f):=by
 rw[List.map_map,List.map_map];exact pW λx _=>Lf.qb x f g
def A.qb(x:A)(K J:nW):(x.cx K).cx J=(x.cx J).cx K:=by
 cases x with
 |lf x=>exact bB A.lf (Lf.qb x _ _)
 |agg cs=>exact bB A.agg (r5.qb cs _ _)
 | fz xs=>
  refine bB A.fz ?_;rw[List.map_map,List.map_map];exact pW λq _=>bB (Prod.mk q.1) (r5.qb q.2 _ _)
 |ptr k=>cases C:K.p k<;>cases D:J.p k<;>simp[A.cx,C,D]
 |view k=>cases C:K.p k<;>cases D:J.p k<;>simp[A.cx,C,D]
 |aG r=>cases C:K.r r<;>cases D:J.r r<;>simp[A.cx,C,D]
 |pk r=>cases C:K.r r<;>cases D:J.r r<;>simp[A.cx,C,D]
 |fn f cap=>cases C:(cap.any λp=>K.r p.1)<;>cases D:(cap.any λp=>J.r p.1)<;>simp only[A.cx,C,D,aq,av]
 |_=>rfl
def aS.qb(x:aS)(K J:nW):(x.cx K).cx J=(x.cx J).cx K:=by
 cases x with
 |az cs=>exact bB aS.az (r5.qb cs _ _)
 | gh xs=>
  refine bB aS.gh ?_;rw[List.map_map,List.map_map];exact pW λx _=>A.qb x K J
 |_=>rfl
def cT(d:Nat)(k:aa Nat):Bool:=k.getLast?==some d
def ya(d:Nat):nW:=⟨cT d,cT d,λr=>Nat.beq r d⟩
def Lf.drop(d:Nat):Lf->Lf:=Lf.cx (cT d)
def A.drop(d:Nat):A->A:=A.cx (ya d)
def aS.drop(d:Nat):aS->aS:=aS.cx (ya d)
def jj(c:Nat->Bool)(k:aa Nat):Bool:=match k.getLast? with
 |some r=>c r
 |none=>false
structure Tr (w w':World) (af aA:bw) (ρ ρ':Nat->Loc) (t:List Nat->Bool) (c:Nat->Bool):Prop where
 size:w.heap.size<=w'.heap.size
 no:∀b,b<w.heap.size->af b=none->w'.heap[b]?=w.heap[b]?/\aA b=none
 so:∀b k,af b=some k->t k=false->w'.heap[b]?=w.heap[b]?/\aA b=some k
 fA:∀r,c r=false->ρ' r=ρ r
 up:∀j i s x q,t (j::i::s::x::q)=t (x::q)
 ne:∀b,af b=some []->∀k,t k=false
structure nW.OK (K:nW) (t:List Nat->Bool) (c:Nat->Bool):Prop where
 l:∀k,K.l k=false->(k.length=1\/t k=false)/\jj c k=false
 p:∀k,K.p k=false->t k=false/\jj c k=false
 r:∀r,K.r r=false->c r=false
section
variable {t:aa Nat->Bool} {c:Nat->Bool} {K:nW}
def RV.tr(T:Tr w w' af aA ρ ρ' t c){q:aa Nat}{x:V}{v:Value}(h:RV w B af q x v)(D:x.aH=true\/t q=false):RV w' B aA q x v:=
 h.map (Q:=λq C=>q=C/\t q=false) T.size T.no (λb q C _ hl e=>by
  obtain⟨rfl,e⟩:=e;exact⟨(T.so b q hl e).1,(T.so b q hl e).2,λj i s=>⟨rfl,by
   cases q with
   |nil=>exact T.ne b hl _
   |cons x q=>rw[T.up];exact e⟩⟩) (D.imp_right λh=>⟨rfl,h⟩)
def LW(j i s x:Nat)(q:aa Nat):jj c (j::i::s::x::q)=jj c (x::q):=by simp[jj,List.getLast?_cons_cons]
def R7(T:Tr w w' af aA ρ ρ' t c):∀ (k:aa Nat) (ad:Addr),t k=false->jj c k=false->addrAt w af ρ k=some ad->addrAt w' aA ρ' k=some ad
 |[],_,_,_,h=>by simp[addrAt]at h
 |[_],_,_,_,h=>by simp[addrAt]at h
 |[_,_],_,_,_,h=>by simp[addrAt]at h
 |[_,_,_],_,_,_,h=>by simp[addrAt]at h
 | [j,i,s,r],_,C,D,h=>by
  rw[T.up]at C;rw[LW]at D;simp only[addrAt]at h ⊢;rw[T.fA r D];split at h
  ·split at h
   next hl=>rw[aW (T.so _ _ hl C).2];exact h
   ·cases h
  ·cases h
 | j :: i :: s :: x :: y :: q,ad,C,D,h=>by
  rw[T.up]at C;rw[LW]at D;simp only[addrAt]at h ⊢;cases E:addrAt w af ρ (x::y::q)with
  |none=>rw[E]at h;cases h
  | some U=>
   rw[R7 T _ _ C D E];rw[E]at h;cases I:w.cell? U with
   |none=>simp[I]at h
   | some v=>
    obtain⟨Z,i',s',O,hk,Y,_,_⟩:=B8 _ _ E;have tj:t O=false:=by
     cases O with
     |nil=>exact T.ne _ Y _
     |cons z O=>rw[<-T.up Z i' s',<-hk];exact C
    have e:w'.cell? U=some v:=(World.cell?_of_block (T.so _ _ Y tj).1).trans I;simp only[Option.bind_some,I]at h;simp only[Option.bind_some,e];split at h
    ·split at h
     next hl=>rw[aW (T.so _ _ hl C).2];exact h
     ·cases h
    ·cases h
def R8(T:Tr w w' af aA ρ ρ' t c)(k:aa Nat)(u:Value)(C:k.length=1\/t k=false)(D:jj c k=false)(h:c9 w af ρ k=some u):c9 w' aA ρ' k=some u:=by
 match k,C,D,h with
 |[],_,_,h=>simp[c9,addrAt]at h
 | [r],_,D,h=>
  simp only[c9]at h ⊢;rw[T.fA r D];exact h
 | x :: y :: q,C,D,h=>
  have C:t (x::y::q)=false:=C.resolve_left (by simp);simp only[c9]at h ⊢;cases E:addrAt w af ρ (x::y::q)with
  |none=>rw[E]at h;cases h
  | some ad=>
   rw[R7 T _ _ C D E];rw[E]at h;have h:w.cell? ad=some u:=h;obtain⟨U,Y,Z,I,hk,O,_,_⟩:=B8 _ _ E;have tj:t I=false:=by
    cases I with
    |nil=>exact T.ne _ O _
    |cons z I=>rw[<-T.up U Y Z,<-hk];exact C
   exact(World.cell?_of_block (T.so _ _ O tj).1).trans h
def eB.tr(T:Tr w w' af aA ρ ρ' t c)(C:K.OK t c){x:Lf}{u:Value}(h:eB w B af ρ x u):eB w' B aA ρ' (x.cx K.l) u:=by
 cases x with
 |v x=>exact⟨h.1,h.2.tr T (.inl h.1)⟩
 |dead=>trivial
 | own k=>
  show eB w' B aA ρ' (bif K.l k then .dead else .own k) u;cases hl:K.l k with
  |true=>trivial
  |false=>exact⟨h.1,R8 T k u (C.l k hl).1 (C.l k hl).2 h.2⟩
def eX.tr(T:Tr w w' af aA ρ ρ' t c)(D:K.OK t c){cs:aa Lf}{us:Array Value}(h:eX w B af ρ cs us):eX w' B aA ρ' (cs.map (Lf.cx K.l)) us:=by
 refine⟨by rw[fy];exact h.1,λj x C=>?_⟩
 rw[eO]at C;obtain⟨y,E,rfl⟩:=Option.map_eq_some_iff.1 C;obtain⟨u,I,r⟩:=h.2 j y E;exact⟨u,I,r.tr T D⟩
def RP.tr(T:Tr w w' af aA ρ ρ' t c)(C:K.OK t c){p:Bool×aa Lf}{u:Value}(h:RP w B af ρ p u):RP w' B aA ρ' (p.1,p.2.map (Lf.cx K.l)) u:=by
 obtain⟨b,cs⟩:=p;cases b with
 |true=>obtain⟨us,e,h⟩:=h;exact⟨us,e,h.tr T C⟩
 |false=>exact eX.tr T C h
def RF.tr(T:Tr w w' af aA ρ ρ' t c){cs:aa V}{u:Value}(h:RF w B af cs u):RF w' B aA cs u:=by
 obtain⟨b,off,e,hb,hl,h⟩:=h;obtain⟨D,E⟩:=T.no b hb hl
 refine⟨b,off,e,Nat.lt_of_lt_of_le hb T.size,E,λj x I=>?_⟩
 obtain⟨C,v,O,U⟩:=h j x I;exact⟨C,v,(World.cell?_of_block (a:=⟨b,_,none⟩) D).trans O,U.tr T (.inl C)⟩
def RA.tr(T:Tr w w' af aA ρ ρ' t c)(C:K.OK t c){x:A}{u:Value}(h:RA w B af ρ x u):RA w' B aA ρ' (x.cx K) u:=by
 cases x with
 |undef=>trivial
 |skip=>exact h
 |lf x=>exact eB.tr T C h
 |agg cs=>exact RP.tr T C (p:=(true,cs)) h
 | fz xs=>
  obtain⟨us,e,E,h⟩:=h
  refine⟨us,e,by rw[fy];exact E,λj p D=>?_⟩
  rw[eO]at D;obtain⟨y,I,rfl⟩:=Option.map_eq_some_iff.1 D;obtain⟨v,O,r⟩:=h j y I;exact⟨v,O,r.tr T C⟩
 | ptr k=>
  simp only[A.cx];cases hl:K.p k with
  |true=>trivial
  |false=>obtain⟨ad,e,h⟩:=h;exact⟨ad,e,R7 T k ad (C.p k hl).1 (C.p k hl).2 h⟩
 | view k s i j=>
  simp only[A.cx];cases hl:K.p k with
  |true=>trivial
  |false=>obtain⟨A,n,c,h,g⟩:=h;exact⟨A,n,c,R8 T k _ (.inr (C.p k hl).1) (C.p k hl).2 h,g⟩
 | pk r n=>
  simp only[A.cx];cases hl:K.r r with
  |true=>trivial
  |false=>obtain⟨b,e,h⟩:=h;exact⟨b,(T.fA r (C.r r hl)).trans e,h⟩
 | aG r j=>
  simp only[A.cx];cases hl:K.r r with
  |true=>trivial
  |false=>obtain⟨b,off,e,h⟩:=h;exact⟨b,off,(T.fA r (C.r r hl)).trans e,h⟩
 |js cs=>exact RF.tr T h
 |nU f cs=>obtain⟨pv,e,h⟩:=h;exact⟨pv,e,h.tr T⟩
 | fn f cap=>
  simp only[A.cx];cases hl:cap.any (λp=>K.r p.1)with
  |true=>trivial
  | false=>
   obtain⟨U,e,E,h⟩:=h
   refine⟨U,e,E,λj p D=>?_⟩
   obtain⟨b,off,Y,Z⟩:=h j p D;exact⟨b,off,(T.fA _ (C.r _ (by simpa using l8.1 hl p (gT D)))).trans Y,Z⟩
def eH.tr(T:Tr w w' af aA ρ ρ' t c)(Y:K.OK t c){r:Nat}{x:aS}(h:eH w B af ρ r x)(D:t [r]=false)(E:c r=false):eH w' B aA ρ' r (x.cx K):=by
 cases h with
 | az b off cells e cs us C hl U hs Z=>
  refine .az b off cells e _ us ((T.fA r E).trans C) (T.so b _ hl D).2 ((T.so b _ hl D).1.trans U) (by rw[fy];exact hs) (λj x I=>?_)
  rw[eO]at I;obtain⟨y,O,rfl⟩:=Option.map_eq_some_iff.1 I;exact⟨(Z j y O).1,(Z j y O).2.tr T Y⟩
 |sl v y C hr=>exact .sl v y ((T.fA r E).trans C) (hr.tr T (.inr D))
 |mp b clock es l C hl U he=>exact .mp b clock es l ((T.fA r E).trans C) (T.so b _ hl D).2 ((T.so b _ hl D).1.trans U) he
 | gh us xs C I=>
  refine .gh us _ ((T.fA r E).trans C) (λj x hj=>?_)
  rw[eO]at hj;obtain⟨y,O,rfl⟩:=Option.map_eq_some_iff.1 hj;exact(I j y O).tr T Y
end
/-! Nothing is forgotten where old memory stays. -/
def LX:nW:=⟨λ_=>false,λ_=>false,λ_=>false⟩
def A.GK(x:A):x.cx LX=x:=by
 have h:∀cs:aa Lf,cs.all (Lf.fr LX.l)=true:=λcs=>bT.2 λc _=>by cases c<;>rfl
 refine A.qa ?_;cases x with
 |lf x=>cases x<;>rfl
 |agg cs=>exact h cs
 |fz xs=>exact bT.2 λq _=>h q.2
 |fn f cap=>exact bT.2 λ_ _=>rfl
 |_=>rfl
def aS.GK(x:aS):x.cx LX=x:=by
 cases x with
 |az cs=>exact bB aS.az (A.agg.inj (A.GK (.agg cs)))
 |gh xs=>exact bB aS.gh ((pW λx _=>A.GK x).trans (List.map_id xs))
 |_=>rfl
def R9(k:aa Nat):jj (λ_=>false) k=false:=by unfold jj;split<;>rfl
def Zs:LX.OK (λ_=>false) (λ_=>false):=⟨λk _=>⟨.inr rfl,R9 k⟩,λk _=>⟨rfl,R9 k⟩,λ_ _=>rfl⟩
def Tr.jr(E:w.heap.size<=w'.heap.size)(C:∀ b,b<w.heap.size->w'.heap[b]?=w.heap[b]?/\aA b=af b)(D:∀ b k,af b=some k->b<w.heap.size):Tr w w' af aA ρ ρ (λ_=>false) (λ_=>false):=
 ⟨E,λb hb hl=>⟨(C b hb).1,(C b hb).2.trans hl⟩,λb k hl _=>⟨(C b (D b k hl)).1,(C b (D b k hl)).2.trans hl⟩,λ_ _=>rfl,λ_ _ _ _ _=>rfl,λ_ _ _=>rfl⟩
def RA.jr{x:A}{u:Value}(h:RA w B af ρ x u)(C:w.heap.size<=w'.heap.size)(D:∀ b,b<w.heap.size->w'.heap[b]?=w.heap[b]?/\aA b=af b)(E:∀ b k,af b=some k->b<w.heap.size):RA w' B aA ρ x u:=by
 have:=h.tr (.jr C D E) Zs
 rwa [A.GK]at this
def eB.jr{x:Lf}{u:Value}(h:eB w B af ρ x u)(C:w.heap.size<=w'.heap.size)(D:∀b,b<w.heap.size->w'.heap[b]?=w.heap[b]?/\aA b=af b)(E:∀b k,af b=some k->b<w.heap.size):eB w' B aA ρ x u:=RA.jr (x:=.lf x) h C D E
def eX.jr{cs:aa Lf}{us:Array Value}(h:eX w B af ρ cs us)(C:w.heap.size<=w'.heap.size)(D:∀ b,b<w.heap.size->w'.heap[b]?=w.heap[b]?/\aA b=af b)(E:∀ b k,af b=some k->b<w.heap.size):eX w' B aA ρ cs us:=
 ⟨h.1,λj x I=>let ⟨u,hu,r⟩:=h.2 j x I;⟨u,hu,r.jr C D E⟩⟩
def eH.jr{r:Nat}{x:aS}(h:eH w B af ρ r x)(C:w.heap.size<=w'.heap.size)(D:∀ b,b<w.heap.size->w'.heap[b]?=w.heap[b]?/\aA b=af b)(E:∀ b k,af b=some k->b<w.heap.size):eH w' B aA ρ r x:=by
 have:=h.tr (.jr C D E) Zs rfl rfl
 rwa [aS.GK]at this
/-! A root's name is given anew. -/
def v8{d:Nat}{t:aa Nat->Bool}{c:Nat->Bool}(E:∀ k,cT d k=false->t k=false)(I:∀ r,r≠d->c r=false):(ya d).OK t c:=by
 have h:∀ k,cT d k=false->jj c k=false:=λk C=>by
  unfold jj;split
  next r D=>exact I r (by rintro rfl;simp[cT,D]at C)
  ·rfl
 exact⟨λk C=>⟨.inr (E k C),h k C⟩,λk C=>⟨E k C,h k C⟩,λr D=>I r (by rintro rfl;simp[ya]at D)⟩
def qc{d r:Nat}(h:r≠d):Nat.beq r d=false:=Bool.eq_false_iff.2 λe=>h (cJ e)
def Tr.GL{d:Nat}(C:∀ r,r≠d->ρ' r=ρ r):Tr w w af af ρ ρ' (λ_=>false) (λr=>Nat.beq r d):=
 ⟨dg _,λ_ _ h=>⟨rfl,h⟩,λ_ _ h _=>⟨rfl,h⟩,λr D=>C r (by rintro rfl;simp at D),λ_ _ _ _ _=>rfl,λ_ _ _=>rfl⟩
def RP.fA{d:Nat}(C:∀r,r≠d->ρ' r=ρ r){p:Bool×aa Lf}{u:Value}(h:RP w B af ρ p u):RP w B af ρ' (p.1,p.2.map (Lf.drop d)) u:=h.tr (.GL C) (v8 (λ_ _=>rfl) λ_=>qc)
def RA.fA{d:Nat}(C:∀r,r≠d->ρ' r=ρ r){x:A}{u:Value}(h:RA w B af ρ x u):RA w B af ρ' (x.drop d) u:=h.tr (.GL C) (v8 (λ_ _=>rfl) λ_=>qc)
def eX.fA{d:Nat}(C:∀r,r≠d->ρ' r=ρ r){cs:aa Lf}{us:Array Value}(h:eX w B af ρ cs us):eX w B af ρ' (cs.map (Lf.drop d)) us:=h.tr (.GL C) (v8 (λ_ _=>rfl) λ_=>qc)
def eB.fA{d:Nat}(C:∀r,r≠d->ρ' r=ρ r){x:Lf}{u:Value}(h:eB w B af ρ x u):eB w B af ρ' (x.drop d) u:=h.tr (.GL C) (v8 (λ_ _=>rfl) λ_=>qc)
def eH.fA{d r:Nat}(C:∀r,r≠d->ρ' r=ρ r)(D:r≠d){x:aS}(h:eH w B af ρ r x):eH w B af ρ' r (x.drop d):=h.tr (.GL C) (v8 (λ_ _=>rfl) λ_=>qc) rfl (qc D)
def bJ{α:Type}(f:Nat->α)(d:Nat)(x:α):Nat->α:=λk=>bif Nat.beq k d then x else f k
def bM{α:Type}(f:Nat->α)(d:Nat)(x:α):bJ f d x d=x:=by simp[bJ]
def cy{α:Type}(f:Nat -> α)(d:Nat)(x:α){k:Nat}(h:k≠d):bJ f d x k=f k:=by
 have:Nat.beq k d=false:=by
  cases hb:Nat.beq k d with
  |false=>rfl
  |true=>simp_all
 simp[bJ,this,av]
def S.set(σ:S)(d:Nat)(x:A):S:={ σ with t:=bJ σ.t d x }
def S.drop(σ:S)(d:Nat):S:=⟨λk=>(σ.t k).drop d,λr=>bif Nat.beq r d then none else (σ.m r).map (aS.drop d)⟩
def S.root(σ:S)(d:Nat)(x:aS):S:={ σ with m:=bJ σ.m d (some x) }
def Rl.set{x:A}{v:Value}{d:Nat}(h:Rl w0 N af ρ σ a w)(E:RA w w0.heap.size af ρ x v)(D:d<N):Rl w0 N af ρ (σ.set d x) (a.put (some d) v) w:=by
 refine⟨h.below,h.dj,h.root,λk=>?_,?_,h.defers,h.fix,h.cS⟩
 ·show RA w _ af ρ (bJ σ.t d x k) ((a.tmps.setIfInBounds d v).getD k undef);by_cases C:k=d
  ·subst C;rw[bM,iO,Array.getElem?_setIfInBounds_self];have:k<a.tmps.size:=by rw[h.size];exact D
   simp_all
  ·rw[cy _ _ _ C,iO,Array.getElem?_setIfInBounds_ne (Ne.symm C),<- iO];exact h.tmp k
 ·show (a.tmps.setIfInBounds d v).size=N;rw[Array.size_setIfInBounds];exact h.size
def Rl.grow(h:Rl w0 N af ρ σ a w)(hb:Below w.heap.size w w')(hl:∀ b,b<w.heap.size -> aA b=af b)(I:∀ b k,w.heap.size <= b -> aA b=some k -> b<w'.heap.size/\k≠[]):Rl w0 N aA ρ σ a w':=by
 have D:∀b,b<w.heap.size -> w'.heap[b]?=w.heap[b]?/\aA b=af b:=λb E=>⟨hb.block b E,hl b E⟩
 refine⟨h.below.trans (.of hb h.below.size),λb k C=>?_,λr x O=>(h.root r x O).jr hb.size D (λb k hb=>(h.dj b k hb).2.1),λk=>(h.tmp k).jr hb.size D (λb k hb=>(h.dj b k hb).2.1),h.size,h.defers,h.fix,h.cS⟩
 rcases Nat.lt_or_ge b _ with T|qd
 ·rw[hl b T]at C;have:=h.dj b k C
  grind
 ·have:=I b k qd C;exact⟨.inl (Nat.le_trans h.below.size qd),this.1,this.2⟩
def Rl.new{d:Nat}{x:aS}(h:Rl w0 N af ρ σ a w)(l:Loc)(T:eH w w0.heap.size af (bJ ρ d l) d x)(I:w0.F d=none):Rl w0 N af (bJ ρ d l) ((σ.drop d).root d x) a w:=by
 have E:∀r,r≠d -> bJ ρ d l r=ρ r:=λr D=>cy _ _ _ D
 refine⟨h.below,h.dj,λr y C=>?_,λk=>(h.tmp k).fA E,h.size,h.defers,λr O D=>(E r (by rintro rfl;rw[I]at D;cases D)).trans (h.fix r O D),h.cS⟩
 by_cases D:r=d
 ·subst D;have e:(bJ (σ.drop r).m r _) r=some x:=bM _ _ _;have C:(bJ (σ.drop r).m r _) r=some y:=C;simp_all
 ·have C:(bJ (σ.drop d).m d _) r=some y:=C;rw[cy _ _ _ D]at C;have hb:Nat.beq r d=false:=by
   cases hb:Nat.beq r d with
   |false=>rfl
   |true=>simp_all
  simp only[S.drop,hb,av]at C;cases hm:σ.m r with
  |none=>simp_all
  | some z=>
   rw[hm]at C;injection C with C;subst C;exact(h.root r z hm).fA E D
end
def splice{α:Type}(l:aa α)(j:Nat)(xs:aa α):aa α:=l.take j++xs++l.drop (j+xs.length)
def uM{α:Type}(l:aa α)(j:Nat)(xs:aa α)(h:j+xs.length<=l.length):(splice l j xs).length=l.length:=by
 simp[splice];omega
def yb{α:Type}(l:aa α)(j:Nat)(xs:aa α)(h:j+xs.length <= l.length)(n:Nat):
  (splice l j xs)[n]?=if n<j then l[n]? else if n<j+xs.length then xs[n-j]? else l[n]?:=by
 unfold splice
 grind
structure v9 (w w':World) (bt:Nat):Prop where
 size:w'.heap.size=w.heap.size
 os:w'.os=w.os
 tape:w'.tape=w.tape
 output:w'.output=w.output
 block:∀k,k≠bt->w'.heap[k]?=w.heap[k]?
def LY(w:World)(b o:Nat)(l:aa Value):v9 w (w.setCells b o l) b:=by
 have g:=Zi b l o w;have s:=Zh b l o w
 refine⟨s,g.os,g.tape,g.output,λk C=>?_⟩
 rcases Nat.lt_or_ge k _ with D|qd
 ·exact g.block k D (by intro e;injection e with e;exact C e)
 ·simp_all
section
variable {w w':World} {w0:Wd} {B N:Nat} {af:bw} {ρ:Nat->Loc} {m m':Nat->aj aS} {σ:S} {a:Act} {bt:Nat} {kt:aa Nat}
def r6(w w':World)(af:bw)(ρ:Nat->Loc):Prop:=∀k ad v,addrAt w af ρ k=some ad->w.cell? ad=some v->mX v=true->w'.cell? ad=some v
def Sa(D:r6 w w' af ρ):∀ (k:aa Nat) (ad:Addr),addrAt w af ρ k=some ad -> addrAt w' af ρ k=some ad
 |[],_,h=>h
 |[_],_,h=>h
 |[_,_],_,h=>h
 |[j,i,s,r],_,h=>by simp only[addrAt]at h ⊢;exact h
 | j :: i :: s :: x :: y :: q,ad,h=>by
  simp only[addrAt]at h ⊢;cases C:addrAt w af ρ (x::y::q)with
  |none=>simp_all
  | some I=>
   rw[Sa D _ _ C];rw[C]at h;cases E:w.cell? I with
   |none=>simp_all
   | some v=>
    simp only[Option.bind_some,E]at h;have O:mX v=true:=by
     split at h
     next e=>injection e with e;subst e;rfl
     ·cases h
    simp only[Option.bind_some,D _ _ _ C E O];exact h
def Zt(D:r6 w w' af ρ)(k:aa Nat)(u:Value)(E:mX u=true)(h:c9 w af ρ k=some u):c9 w' af ρ k=some u:=by
 match k,h with
 |[r],h=>exact h
 | x :: y :: q,h=>
  simp[c9]at h ⊢;cases C:addrAt w af ρ _ with
  |none=>rw[C]at h;cases h
  | some ad=>
   rw[Sa D _ _ C];rw[C]at h;exact D _ _ _ C h E
def eB.wrote{x:Lf}{u:Value}(h:eB w B af ρ x u)(C:v9 w w' bt)(hl:af bt=some kt)(D:r6 w w' af ρ):eB w' B af ρ x u:=by
 cases x with
 |v x=>exact⟨h.1,h.2.apart hl (.inr h.1) (Nat.le_of_eq C.size.symm) C.block⟩
 |own k=>exact⟨h.1,Zt D k u h.1 h.2⟩
 |dead=>trivial
def eX.wrote{cs:aa Lf}{us:Array Value}(h:eX w B af ρ cs us)(C:v9 w w' bt)(hl:af bt=some kt)(D:r6 w w' af ρ):eX w' B af ρ cs us:=
 ⟨h.1,λj x E=>let ⟨u,hu,r⟩:=h.2 j x E;⟨u,hu,r.wrote C hl D⟩⟩
def RP.wrote{p:Bool×aa Lf}{u:Value}(h:RP w B af ρ p u)(C:v9 w w' bt)(hl:af bt=some kt)(D:r6 w w' af ρ):RP w' B af ρ p u:=by
 obtain⟨b,cs⟩:=p;cases b with
 |true=>obtain⟨us,e,h⟩:=h;exact⟨us,e,h.wrote C hl D⟩
 |false=>exact eX.wrote h C hl D
def RF.wrote{cs:aa V}{u:Value}(h:RF w B af cs u)(C:v9 w w' bt)(hl:af bt=some kt):RF w' B af cs u:=by
 obtain⟨b,off,e,hb,D,h⟩:=h;have I:b≠bt:=by rintro rfl;rw[hl]at D;cases D
 refine⟨b,off,e,by rw[C.size];exact hb,D,λj x O=>?_⟩
 obtain⟨E,v,T,U⟩:=h j x O;exact⟨E,v,(World.cell?_of_block (C.block b I)).trans T,U.apart hl (.inr E) (Nat.le_of_eq C.size.symm) C.block⟩
def RA.wrote{x:A}{u:Value}(h:RA w B af ρ x u)(C:v9 w w' bt)(hl:af bt=some kt)(D:r6 w w' af ρ):RA w' B af ρ x u:=by
 cases x with
 |undef=>trivial
 |skip=>exact h
 |lf x=>exact eB.wrote h C hl D
 |agg cs=>exact RP.wrote (p:=(true,cs)) h C hl D
 |fz xs=>obtain⟨us,e,E,h⟩:=h;exact⟨us,e,E,λj p I=>let ⟨v,O,r⟩:=h j p I;⟨v,O,r.wrote C hl D⟩⟩
 |ptr k=>obtain⟨ad,e,h⟩:=h;exact⟨ad,e,Sa D _ _ h⟩
 |view k s i j=>obtain⟨A,n,c,h,g⟩:=h;exact⟨A,n,c,Zt D k _ rfl h,g⟩
 |pk r n=>exact h
 |aG r j=>exact h
 |js cs=>exact RF.wrote h C hl
 |nU f cs=>obtain⟨pv,e,h⟩:=h;exact⟨pv,e,h.wrote C hl⟩
 |fn f cap=>exact h
def eH.wrote{r:Nat}{x:aS}(h:eH w B af ρ r x)(E:v9 w w' bt)(hl:af bt=some kt)(Y:r6 w w' af ρ)(O:¬ [r] <:+ kt):eH w' B af ρ r x:=by
 cases h with
 | az b off cells e cs us D C T hs Z=>
  have U:b≠bt:=by rintro rfl;rw[hl]at C;injection C with C;subst C;exact O (List.suffix_refl _)
  exact .az b off cells e cs us D C ((E.block b U).trans T) hs (λj x I=>⟨(Z j x I).1,(Z j x I).2.wrote E hl Y⟩)
 |sl v y D fQ=>exact .sl v y D (fQ.apart hl (.inl O) (Nat.le_of_eq E.size.symm) E.block)
 | mp b c es l D C T he=>
  have U:b≠bt:=by rintro rfl;rw[hl]at C;injection C with C;subst C;exact O (List.suffix_refl _)
  exact .mp b c es l D C ((E.block b U).trans T) he
 |gh us xs D I=>exact .gh us xs D λj x hj=>(I j x hj).wrote E hl Y
def Rl.wrote(h:Rl w0 N af ρ σ a w)(C:v9 w w' bt)(hl:af bt=some kt)(I:r6 w w' af ρ)(O:∀ r x,m' r=some x -> eH w' w0.heap.size af ρ r x):Rl w0 N af ρ ⟨σ.t,m'⟩ a w':=by
 have hb:=(h.dj bt kt hl).1;have T:∀ k,k<w0.heap.size -> w0.L k=none -> k≠bt:=by
  grind
 refine⟨⟨C.os.trans h.below.os,C.tape.trans h.below.tape,C.output.trans h.below.output,by rw[C.size];exact h.below.size,λk D E=>(C.block k (T k D E)).trans (h.below.block k D E)⟩,λb k U=>?_,O,λk=>(h.tmp k).wrote C hl I,h.size,h.defers,h.fix,h.cS⟩
 rw[C.size];exact h.dj b k U
def Zu{r C:Nat}(h:C≠r):¬ [C] <:+ [r]:=by
 intro D;have:=D.eq_of_length rfl;simp_all
def Rl.GM{r j:Nat}{cs xs:aa Lf}{us:Array Value}(h:Rl w0 N af ρ σ a w)(hm:σ.m r=some (.az cs))(hx:eX w w0.heap.size af ρ xs us)(hj:j+xs.length <= cs.length):
  ∃b off,ρ r = .az b off/\w.there b (off+j) us.size/\Rl w0 N af ρ ⟨σ.t,bJ σ.m r (some (.az (splice cs j xs)))⟩ a (w.setCells b (off+j) us.toList):=by
 have T:=h.root r _ hm;generalize D:aS.az cs=x at T;cases T with
 |sl=>cases D
 |mp=>cases D
 |gh=>cases D
 | az b off cells e fq u ck hl Y hs hc=>
  injection D with D;subst D;have hlen:us.size=xs.length:=hx.1;have mY:off+j+us.toList.length <= cells.size:=by rw[mb,hlen];omega
  have E:=LY w b (off+j) us.toList;obtain⟨U,gX,oI⟩:=GD b e us.toList (off+j) w cells Y mY;have O:r6 w (w.setCells b (off+j) us.toList) af ρ:=by
   intro k ad v ha Z gC;obtain⟨j',i',s',q,rfl,hq,_,_,hh'⟩:=B8 k ad ha;have cA:ad.block≠b:=by
    intro e
    grind
   exact(World.cell?_of_block (E.block _ cA)).trans Z
  refine⟨b,off,ck,λn hn=>⟨?_,frozen_of_row w b _ cells e Y⟩,h.wrote E hl O λr' y I=>?_⟩
  ·rw[cell_of_row w b _ cells e _ Y];simp;omega
  ·by_cases mZ:r'=r
   ·subst mZ;rw[bM]at I;injection I with I;subst I
    refine .az b off U e _ (λn=>if n<j then u n else if n<j+xs.length then us.getD (n-j) undef else u n) ck hl gX ?_ λn x C=>?_
    ·rw[uM _ _ _ hj,<- mb,oI]
     grind
    ·have e2:U[off+n]?=(splice cells.toList (off+j) us.toList)[off+n]?:=by
      rw[show U[off+n]?=U.toList[off+n]? by simp,oI];rfl
     rw[e2,yb _ _ _ (by simpa using mY)];rw[yb _ _ _ hj]at C;by_cases h1:n<j
     ·rw[aW];simp only[h1]at C ⊢;refine⟨?_,(hc n x C).2.wrote E hl O⟩;simp_all
     ·by_cases h2:n<j+xs.length
      ·rw[aX,aW (by rw[mb,hlen];omega)];simp only[h1,h2,if_true,if_false]at C ⊢;obtain⟨v,Z,T⟩:=hx.2 (n-j) x C;have hg:us.getD (n-j) undef=v:=by rw[iO,Z];rfl
       rw[hg];refine⟨?_,T.wrote E hl O⟩
       grind
      ·rw[aX,aX (by rw[mb];omega)];simp only[h1,h2]at C ⊢;refine⟨?_,(hc n x C).2.wrote E hl O⟩
       grind
   ·rw[cy _ _ _ mZ]at I;exact(h.root r' y I).wrote E hl O (Zu mZ)
inductive zU (m:Nat->Option aS):List Nat->V->(Nat->Option aS)->Prop
 |root (r:Nat) (y0 y:V) (h:m r=some (.sl y0)):zU m [r] y (bJ m r (some (.sl y)))
 | elem (j i:Nat) (q:List Nat) (t:TC) (o:Nat) (qn:Bool) (l:List (T t)) (y:V) (e:T t) (m':Nat->Option aS) (h:xY m q (.sl t (o+2) qn l)) (hi:i<l.length) (hj:j<aC t)
   (hd:dec t o (splice (enc t o l[i]) j [y])=some e) (hp:zU m q (.sl t (o+2) qn (l.set i e)) m'):zU m (j::i::aC t::q) y m'
def Sb{α:Type}{a b c:aa α}(D:a <:+ c)(hb:b <:+ c)(h:a.length=b.length):a=b:=by
 obtain⟨x,E⟩:=D;obtain⟨y,C⟩:=hb;rw[<-E]at C;exact((List.append_inj' C h.symm).2).symm
def RV.LZ{q:aa Nat}{t:TC}{o:Nat}{Y:Bool}{l:aa (T t)}{i j:Nat}{xs:aa V}{e:T t}{b cap:Nat}{cs fq:Array Value}{u us:Nat -> Nat -> Value}
  (hl:af b=some q) (hh:w'.heap[b]?=some (.cells fq (tid t) (0,0))) (hs:fq.size=cap*aC t) (hn:l.length <= cap) (hm:cap <= maxLen/\(Y=true -> cap=l.length)) (hi:i<l.length) (hj:j+xs.length <= aC t)
  (hd:dec t o (splice (enc t o l[i]) j xs)=some e)
  (hc:∀D (h:D<l.length) (C:Nat) x,(enc t o l[D])[C]?=some x -> ¬ (D=i/\j <= C/\C<j+xs.length) -> fq[D*aC t+C]?=some (u D C)/\RV w' B af (C::D::aC t::q) x (u D C))
  (hx:∀(n:Nat) x,xs[n]?=some x -> fq[i*aC t+(j+n)]?=some (us i (j+n))/\RV w' B af ((j+n)::i::aC t::q) x (us i (j+n))):
  RV w' B af q (.sl t (o+2) Y (l.set i e)) (.slice (some ⟨b,0,none⟩) l.length cap):=by
 have hlen:(l.set i e).length=l.length:=gR;have key:∀ D (h:D<(l.set i e).length) (C:Nat) x,(enc t o (l.set i e)[D])[C]?=some x ->
   ∃v,fq[D*aC t+C]?=some v/\RV w' B af (C::D::aC t::q) x v:=by
  intro D h C x I;rw[List.getElem_set]at I;by_cases hii:i=D
  ·subst hii;rw[aW rfl]at I;have hk:=mj t o _ e hd;have tq:C<(enc t o e).length:=(dZ.1 I).1;rw[<- hk.1]at tq;have E:=bK tq;generalize (splice (enc t o l[i]) j xs)[C]=y at E;have Z:=hk.2 C y x E I;rw[yb _ _ _ (by rw[kX];exact hj)]at E;by_cases h1:C<j
   ·rw[aW h1]at E;obtain⟨O,U⟩:=hc i hi C y E (by omega);exact⟨_,O,U.wk Z⟩
   ·by_cases h2:C<j+xs.length
    ·rw[aX h1,aW h2]at E;obtain⟨O,U⟩:=hx _ y E;rw[show j+(C-j)=C by omega]at O U;exact⟨_,O,U.wk Z⟩
    ·rw[aX h1,aX h2]at E;obtain⟨O,U⟩:=hc i hi C y E (by omega);exact⟨_,O,U.wk Z⟩
  ·grind
 rw[<- hlen]
 refine .own q t o Y (l.set i e) b cap fq (λD C=>(fq[D*aC t+C]?).getD undef) hl hh hs (by rw[hlen];exact hn) ⟨hm.1,λh=>by rw[hlen];exact hm.2 h⟩ (λD h C x I=>?_) (λD h C x I=>?_)
 ·grind
 ·obtain⟨v,hv,hr⟩:=key D h C x I;simp_all
def Zv{r:Nat}{q:aa Nat}(h:[r] <:+ q){C:Nat}(D:[C] <:+ q):C=r:=by
 have:=Sb D h rfl;injection this
def zU.ok{q:aa Nat}{y:V}(h:zU m q y m')(hm:∀ r x,m r=some x -> eH w B af ρ r x)(T:v9 w w' bt)(hl:af bt=some kt)(U:q <:+ kt)(hC:r6 w w' af ρ){I:Value}(D:c9 w af ρ q=some I)(hy:RV w' B af q y I):
  ∀r x,m' r=some x -> eH w' B af ρ r x:=by
 induction h generalizing I with
 | root r y0 y h=>
  intro Y x C;by_cases O:Y=r
  ·subst O;rw[bM]at C;injection C with C;subst C;simp only[c9]at D;cases ck:ρ Y with
   |az b off=>grind
   |bH us=>grind
   | dQ v=>
    rw[ck]at D;injection D with D;subst D;exact .sl v y ck hy
  ·rw[cy _ _ _ O]at C;exact(hm Y x C).wrote T hl hC (λZ=>O (Zv U Z))
 | elem j i q t o qn l y e m' h hi hj hd hp ih=>
  obtain⟨uN,B9,fQ⟩:=h.ok hm;have hqk:q <:+ kt:=List.IsSuffix.trans ⟨[j,i,aC t],rfl⟩ U;cases fQ with
  |eS=>simp at hi
  |fU=>simp at hi
  |gj=>simp at hi
  |aH _ _ _ _ _ _ _ _ _ ho=>omega
  | own _ _ _ _ _ b cap cs us E hh Z hn tu hc O=>
   have cA:b≠bt:=by
    rintro rfl;rw[hl]at E;injection E with E;subst E;have:=U.length_le
    grind
   have hz:=Nat.le_of_eq T.size.symm
   refine ih hqk B9 (RV.LZ (us:=λ_ _=>I) (u:=us) (cs:=cs) (xs:=[y]) E ((T.block b cA).trans hh) Z hn tu hi (show j+1 <= aC t from hj) hd (λi' h' j' x C L0=>⟨hc i' h' j' x C,(O i' h' j' x C).apart hl (.inl λqe=>L0 ?_) hz T.block⟩) (λn x C=>?_))
   ·have:=Sb qe U rfl
    grind
   ·cases n with
    |succ n=>simp at C
    | zero=>
     simp at C;subst C;refine⟨?_,hy⟩;rw[LV,B7 j i _ B9 E]at D;have D:w.cell? ⟨b,i*aC t+j,none⟩=some I:=D;rw[cell_of_row w b _ cs _ _ hh]at D;exact D
def RV.Zw{q:aa Nat}{x:V}{v:Value}(h:RV w B af q x v)(C:x.plain=true):mX v=false:=by
 cases h<;>first|rfl|cases C
def RV.uO{q C:aa Nat}{x:V}{v:Value}{B':Nat}{aA:bw}(h:RV w B af q x v)(D:x.plain=true):RV w' B' aA C x v:=by
 cases h<;>first|exact .int _ _ _|exact .bool _ _|exact .str _ _|cases D
def Rl.ajy{j i:Nat}{q:aa Nat}{t:TC}{o:Nat}{qn:Bool}{l:aa (T t)}{xs:aa V}{us:Array Value}{e:T t}(h:Rl w0 N af ρ σ a w)(hg:xY σ.m q (.sl t (o+2) qn l))(hi:i<l.length)(hj:j+xs.length <= aC t)
  (hd:dec t o (splice (enc t o l[i]) j xs)=some e) (hold:∀(n:Nat) x,n<xs.length -> (enc t o l[i])[j+n]?=some x -> x.plain=true) (hxp:∀x∈xs,x.plain=true) (m0:us.size=xs.length) (hx:∀(n:Nat) x,xs[n]?=some x -> ∃u,us[n]?=some u/\RV w w0.heap.size af [] x u)
  (hp:zU σ.m q (.sl t (o+2) qn (l.set i e)) m'):
  ∃b,addrAt w af ρ (j::i::aC t::q)=some ⟨b,i*aC t+j,none⟩/\w.there b (i*aC t+j) us.size/\Rl w0 N af ρ ⟨σ.t,m'⟩ a (w.setCells b (i*aC t+j) us.toList):=by
 obtain⟨uN,B9,fQ⟩:=hg.ok h.root;cases fQ with
 |eS=>simp at hi
 |fU=>simp at hi
 |gj=>simp at hi
 |aH _ _ _ _ _ _ _ _ _ ho=>omega
 | own _ _ _ _ _ b cap cs u U hh hs hn tu hc hr=>
  have yc:i*aC t+aC t <= cap*aC t:=by
   have:(i+1)*aC t <= cap*aC t:=iP _ (by omega);rw[iZ]at this;exact this
  have mY:i*aC t+j+us.toList.length <= cs.size:=by rw[mb,m0,hs];omega
  have Y:=LY w b (i*aC t+j) us.toList;obtain⟨O,gX,oI⟩:=GD b (tid t) us.toList (i*aC t+j) w cs hh mY;have uP:∀ n,O[n]?=if n<i*aC t+j then cs[n]? else if n<i*aC t+j+xs.length then us[n-(i*aC t+j)]? else cs[n]?:=by
   intro n;have e2:O[n]?=(splice cs.toList (i*aC t+j) us.toList)[n]?:=by
    rw[show O[n]?=O.toList[n]? by simp,oI];rfl
   rw[e2,yb _ _ _ (by simpa using mY),mb,m0];simp
  have GN:O.size=cs.size:=by
   rw[<- mb,oI];have:=uM cs.toList _ us.toList (by simpa using mY)
   grind
  have hC:r6 w (w.setCells b (i*aC t+j) us.toList) af ρ:=by
   intro k ad v ha D gC;by_cases cA:ad.block=b
   ·obtain⟨I,C,s',q',rfl,tj,ajz,we,_⟩:=B8 k ad ha;have qf:ad=⟨b,ad.off,none⟩:=by cases ad;simp_all
    rw[qf,cell_of_row w b _ cs _ _ hh]at D;rw[qf,cell_of_row _ b _ O _ _ gX,uP];by_cases h1:ad.off<i*aC t+j
    ·rw[aW h1];exact D
    ·by_cases h2:ad.off<i*aC t+j+xs.length
     ·exfalso;have hjs:ad.off-(i*aC t+j)<xs.length:=by omega
      have yd:j+(ad.off-(i*aC t+j))<(enc t o l[i]).length:=by rw[kX];omega
      have hy:=bK yd;generalize (enc t o l[i])[j+(ad.off-(i*aC t+j))]=y at hy;have zV:=hold _ y hjs hy;have Z:=hc i hi _ y hy;rw[show i*aC t+(j+(ad.off-(i*aC t+j)))=ad.off by omega]at Z;rw[D]at Z;injection Z with Z;have:=(hr i hi _ y hy).Zw zV;rw[<- Z,gC]at this;cases this
     ·rw[aX h1,aX h2];exact D
   ·exact(World.cell?_of_block (Y.block _ cA)).trans D
  refine⟨b,B7 j i (aC t) B9 U,λn uQ=>⟨?_,frozen_of_row w b _ cs _ hh⟩,h.wrote Y U hC (hp.ok h.root Y U (List.suffix_refl _) hC B9 ?_)⟩
  ·rw[cell_of_row w b _ cs _ _ hh];simp;omega
  ·refine RV.LZ (u:=u) (us:=λ_ n=>us.getD (n-j) undef) (cs:=cs) (xs:=xs) U gX (GN.trans hs) hn tu hi hj hd (λC h' I x E L0=>?_) (λn x E=>?_)
   ·have tq:I<aC t:=by have:=(dZ.1 E).1;rwa [kX]at this
    refine⟨?_,(hr C h' I x E).apart U (.inl λqe=>?_) (Nat.le_of_eq Y.size.symm) Y.block⟩
    ·rw[uP];have Ca:¬ (¬ C*aC t+I<i*aC t+j/\C*aC t+I<i*aC t+j+xs.length):=by
      rintro⟨h1,h2⟩;rcases Nat.lt_trichotomy C i with dK|heq|D3
      ·have:(C+1)*aC t <= i*aC t:=iP _ dK;rw[iZ]at this;omega
      ·subst heq
       grind
      ·have:(i+1)*aC t <= C*aC t:=iP _ D3;rw[iZ]at this;omega
     split
     ·exact hc C h' I x E
     ·rw[aX];exact hc C h' I x E
    ·have:=qe.length_le;simp at this;omega
   ·obtain⟨v,D,kY⟩:=hx n x E;have uQ:n<xs.length:=(dZ.1 E).1;have D4:us.getD (j+n-j) undef=v:=by rw[show j+n-j=n by omega,iO,D];rfl
    rw[D4,uP,aX,aW];refine⟨?_,kY.uO (hxp x (gT E))⟩;rw[show i*aC t+(j+n)-(i*aC t+j)=n by omega];exact D
end
def Sc:Value->A
 |.bool b=>.lf (.v (.bool b))
 |.int k n=>.lf (.v (.int k n))
 |.string s=>.lf (.v (.str s))
 |.slice none 0 0=>.lf (.v .nil)
 |_=>.undef
def aL(σ:S):Operand->A
 |.tmp t=>σ.t t
 |.const v=>Sc v
 |.func f=>.fn f []
 |.global _=>.undef
def iI{X:Type}(N:Nat)(σ:S)(C:aj Tmp)(x:A)(k:S->aj X):aj X:=
 match C with
 |none=>k σ
 |some d=>bif Nat.blt d N then k (σ.set d x)else none
def lO(P:Program)(w0:Wd)(N:Nat)(o:Oper)(σ D:S):Prop:=
 ∀a w K Q,R w0 N σ a w->(∀C w',R w0 N D C w'->K C w')->o.wp P a w K Q
section
variable {P:Program} {w:World} {w0:Wd} {B N:Nat} {af:bw} {ρ:Nat->Loc} {σ:S} {a:Act} {X:Type} {r:X} {k:S->aj X} {o:Oper}
def ajA(v:Value):RA w B af ρ (Sc v) v:=by
 unfold Sc;split
 ·exact⟨rfl,.bool _ _⟩
 ·exact⟨rfl,.int _ _ _⟩
 ·exact⟨rfl,.str _ _⟩
 ·exact⟨rfl,.nil _⟩
 ·trivial
def Rl.aL(h:Rl w0 N af ρ σ a w)(x:Operand):RA w w0.heap.size af ρ (aL σ x) (a.eval x):=by
 cases x with
 |tmp t=>exact h.tmp t
 |const v=>exact ajA v
 |func f=>exact⟨#[],rfl,rfl,by simp⟩
 |global g=>trivial
def lO.val{x:A}(C:iI N σ o.dst x k=some r)(h:∀ af ρ a w,Rl w0 N af ρ σ a w -> ∃ v,(execOp a.eval o).run P w = .ok (.value v) w/\RA w w0.heap.size af ρ x v):∃ O,k O=some r/\lO P w0 N o σ O:=by
 unfold iI at C;split at C
 ·rename_i D
  refine⟨σ,C,λa w K Q hR E=>?_⟩
  obtain⟨af,ρ,hl⟩:=hR;obtain⟨v,I,T⟩:=h af ρ a w hl;unfold Oper.wp;rw[I,Oper.upon_value,D];exact E _ _ ⟨af,ρ,hl⟩
 ·rename_i d D;cases U:Nat.blt d N with
  |false=>simp_all
  | true=>
   rw[U]at C
   refine⟨_,C,λa w K Q hR E=>?_⟩
   obtain⟨af,ρ,hl⟩:=hR;obtain⟨v,I,T⟩:=h af ρ a w hl;unfold Oper.wp;rw[I,Oper.upon_value,D];exact E _ _ ⟨af,ρ,hl.set T (by have:=cE U;omega)⟩
/-! What does the same whatever comes behind. -/
def m6{α:Type}(f:(X:Type)->(α->aj X)->aj X)(y:α):Prop:=∀(X:Type) (k:α->aj X),f X k=k y
def m6.at_{α:Type}{f:(X:Type)->(α->aj X)->aj X}{y:α}(h:m6 f y){X:Type}(k:α->aj X):f X k=k y:=h X k
def cB{α:Type}(f:(X:Type)->(α->aj X)->aj X):Prop:=∀(X Y:Type) (k:α->aj X) (g:X->aj Y),(f X k).bind g=f Y λy=>(k y).bind g
def cB.mm{α:Type}{f:(X:Type)->(α->aj X)->aj X}(n:cB f){X:Type}{k:α->aj X}{r:X}(h:f X k=some r):∃ y,k y=some r/\m6 f y:=by
 have e:∀(Y:Type) (k:α->aj Y),f Y k=(f α some).bind k:=λY k=>(n α Y some k).symm
 rw[e]at h;cases C:f α some with
 |none=>rw[C]at h;cases h
 |some y=>rw[C]at h;exact⟨y,h,λX k=>by rw[e,C];rfl⟩
def cB.comp{α β:Type}{f:(X:Type)->(α->aj X)->aj X}{b:(X:Type)->(β->aj X)->α->aj X}(n:cB f)(m:∀y,cB λX k=>b X k y):cB λX k=>f X (b X k):=λX Y k g=>(n X Y _ g).trans (bB _ (funext λy=>m y X Y k g))
def dx{X Y:Type}{b:Bool}{x y:aj X}{C D:aj Y}{g:X->aj Y}(E:x.bind g=C)(I:y.bind g=D):(bif b then x else y).bind g=bif b then C else D:=by
 cases b
 ·exact I
 ·exact E
/-! Contents of leaves. -/
def ju{X:Type}(m:Nat->aj aS):aa Nat->(V->aj X)->aj X
 | [r],k=>match m r with
  |some (.sl y)=>k y
  |_=>none
 | j :: i :: s :: q,k=>ju m q λy=>match y with
  |.sl t (o+2) _ l=>if s=aC t then (if h:i<l.length then (match (enc t o l[i])[j]? with|some z=>k z|none=>none)else none)else none
  |_=>none
 |_,_=>none
def tv{m:Nat -> aj aS}:∀ (q:aa Nat) (k:V -> aj X),ju m q k=some r -> ∃ y,xY m q y/\k y=some r
 |[],_,h=>by simp[ju]at h
 | [x],k,h=>by
  simp only[ju]at h;split at h
  next y D=>exact⟨y,.root x y D,h⟩
  ·cases h
 | j :: i :: s :: q,k,h=>by
  obtain⟨y,D,C⟩:=tv q _ h;clear h;split at C
  ·split at C
   ·rename_i E;subst E;split at C
    ·rename_i hi;split at C
     next z I=>exact⟨z,.elem j i q _ _ _ _ z D hi I,C⟩
     ·cases C
    ·cases C
   ·cases C
  ·cases C
def qg{X:Type}(σ:S)(x:Lf)(k:V->aj X):aj X:=
 match x with
 |.v y=>k y
 |.own q=>ju σ.m q k
 |.dead=>none
def RV.part{q:aa Nat}{tc:TC}{g:Nat}{U:Bool}{xs:aa (T tc)}{A:aj Addr}{n c a h:Nat}(I:RV w B af q (.sl tc g U xs) (.slice A n c))(E:g<2)(h1:a <= h)(C:h <= xs.length):RV w B af q (.sl tc g false ((xs.take h).drop a)) (sliced A a h c (aC tc))/\n=xs.length/\xs.length <= c:=by
 have hlen:((xs.take h).drop a).length=h-a:=by simp;omega
 cases I with
 | eS=>
  have:a=0:=by simp at C;omega
  have:h=0:=by simpa using C
  subst_vars
  exact⟨.eS _ _ _,rfl,dg _⟩
 | fU=>
  have:h=0:=by simpa using C
  subst this;have:a=0:=by omega
  subst this;exact⟨by unfold sliced;split<;>exact .fU _ _ _ _ _ E,rfl,Nat.zero_le _⟩
 | gj=>
  have:h=0:=by simpa using C
  subst this;have:a=0:=by omega
  subst this;exact⟨by unfold sliced;split<;>exact .fU _ _ _ _ _ E,rfl,Nat.zero_le _⟩
 |own=>omega
 | aH _ _ _ _ _ b off cap u Y hl hb hB Z hc I=>
  refine⟨?_,rfl,Z⟩;by_cases he:a=h
  ·subst he;have e0:=List.eq_nil_of_length_eq_zero (by rw[hlen];omega);rw[e0];unfold sliced;rw[Nat.sub_self];split<;>exact .fU _ _ _ _ _ E
  ·unfold sliced;rw[aX,<- hlen];have LP:(some (⟨b,off,none⟩:Addr)).map (·.add (a*aC tc))=some ⟨b,off+a*aC tc,none⟩:=by
    simp;unfold Addr.add;simp_all
   rw[LP];have O:∀ i (hi:i<((xs.take h).drop a).length),((xs.take h).drop a)[i]=xs[a+i]'(by omega):=by
    intro i hi;simp_all
   refine .aH _ _ _ _ _ b (off+a*aC tc) (c-a) (λi j=>u (a+i) j) Y hl hb hB (by omega) (λi hi j x D=>?_) (λi hi j x D=>?_)
   ·rw[O]at D;have:=hc _ _ j x D
    grind
   ·rw[O i]at D
    grind
def Zx(s i j:Nat):V->aj V
 |.sl t _ _ l=>bif Nat.beq s (aC t)then some (.sl t 0 false ((l.take j).drop i))else none
 |_=>none
def wg{X:Type}(σ:S)(q:aa Nat)(s i j:Nat)(k:V->aj X):aj X:=
 ju σ.m q λy=>match Zx s i j y with
  |some z=>k z
  |none=>none
def tw{X:Type}(σ:S)(y:A)(k:V->aj X):aj X:=
 match y with
 |.lf l=>qg σ l k
 |.view q s i j=>wg σ q s i j k
 |_=>none
def Zy{q:aa Nat}{s i j:Nat}{k:V -> aj X}(h:wg σ q s i j k=some r):∃ z,k z=some r/\z.aH=true /\ ∀ w0 N af ρ a w,Rl w0 N af ρ σ a w -> ∀ u,RA w w0.heap.size af ρ (.view q s i j) u -> ∀ B',RV w B' (λ_=>none) [] z u:=by
 obtain⟨y,T,E⟩:=tv q _ h;clear h;split at E
 ·rename_i z C;unfold Zx at C;split at C
  ·rename_i t g U l;cases I:Nat.beq s (aC t)with
   |false=>simp_all
   | true=>
    rw[I,aq]at C;obtain rfl:=cJ I;injection C with C;subst C
    refine⟨_,E,rfl,λw0 N af ρ a w hR u Y B'=>?_⟩
    obtain⟨A,n,c,Z,h1,h3,rfl⟩:=Y;obtain⟨v,D,hr⟩:=T.ok hR.root;rw[Z]at D;injection D with D;subst D;have O:RV w B' (λ_=>none) [] (.sl t 0 U l) (.slice A n c):=hr.gI;have hn:n=l.length:=by cases O<;>rfl
    exact(O.part (by omega) h1 (by omega)).1
  ·cases C
 ·cases E
def vK{X:Type}(x:A)(k:V->aj X):aj X:=
 match x with
 |.lf (.v y)=>k y
 |_=>none
def Sd{x:A}{k:V -> aj X}(h:vK x k=some r):∃ y,x = .lf (.v y)/\k y=some r:=by
 unfold vK at h
 grind
def RV.gY{q:aa Nat}{k:IntKind}{n:Int}{u:Value}(h:RV w B af q (.int k n) u):u = .int k n:=by cases h;rfl
def RV.zW{q:aa Nat}{n:Bool}{u:Value}(h:RV w B af q (.bool n) u):u = .bool n:=by cases h;rfl
def RV.ye{q:aa Nat}{n:ByteArray}{u:Value}(h:RV w B af q (.str n) u):u = .string n:=by cases h;rfl
/-! Arithmetic and comparison. -/
def bX(n:Nat):Bool:=decide (n<1073741824)
def GO{X:Type}(P:Program)(ty:TypeId)(op:BinOp)(x y:V)(k:V->aj X):aj X:=
 match x,y with
 | .int C a,.int D b=>match op with
  |.shl=>if b<0 then none else k (.int C (C.wrap (a*2 ^ (min b.toNat C.bits))))
  |.shr=>if b<0 then none else k (.int C (a.fdiv (2 ^ (min b.toNat C.bits))))
  | op=>if C=D then (match op with
   |.add=>k (.int C (C.wrap (a+b)))
   |.sub=>k (.int C (C.wrap (a-b)))
   |.mul=>k (.int C (C.wrap (a*b)))
   |.quo=>if b=0 then none else k (.int C (C.wrap (a.tdiv b)))
   |.rem=>if b=0 then none else k (.int C (a.tmod b))
   |.and=>k (.int C (bits .and C a b))
   |.or=>k (.int C (bits .or C a b))
   |.xor=>k (.int C (bits .xor C a b))
   |.andNot=>k (.int C (bits .andNot C a b))
   |.eql=>k (.bool (a==b))
   |.neq=>k (.bool (a != b))
   |.lss=>k (.bool (decide (a<b)))
   |.leq=>k (.bool (decide (a<=b)))
   |.gtr=>k (.bool (decide (a > b)))
   |.geq=>k (.bool (decide (a >= b)))
   |_=>none)else none
 | .bool a,.bool b=>match P.underlying ty with
  | some .bool=>(match op with
   |.eql=>k (.bool (a==b))
   |.neq=>k (.bool (!(a==b)))
   |_=>none)
  |_=>none
 | .str a,.str b=>match op with
  |.add=>bif bX (a.size+b.size)then k (.str (a++b))else none
  |.eql=>k (.bool (a.toList==b.toList))
  |.neq=>k (.bool (!(a.toList==b.toList)))
  |_=>none
 |_,_=>none
def ajB{ty:TypeId}{T:BinOp}{x y:V}{k:V -> aj X}(h:GO P ty T x y k=some r):∃ z,k z=some r/\z.plain=true /\ ∀ (w:World) (B:Nat) (af:bw) (E I:Operand) (q O:aa Nat) (u v:Value),RV w B af q x u -> RV w B af O y v ->
  ∃t,(do eqGuard T ty E I u v;binOp T ty u v:Sem Value).run P w = .ok t w/\RV w B af [] z t:=by
 unfold GO at h;split at h
 ·rename_i kx a ky b;split at h
  ·split at h
   ·cases h
   ·rename_i hb
    refine⟨_,h,rfl,λw B af E I q O u v C D=>?_⟩
    obtain rfl:=C.gY;obtain rfl:=D.gY;exact⟨_,by simp[eqGuard,binOp,Op.shift,hb],.int _ _ _⟩
  ·split at h
   ·cases h
   ·rename_i hb
    refine⟨_,h,rfl,λw B af E I q O u v C D=>?_⟩
    obtain rfl:=C.gY;obtain rfl:=D.gY;exact⟨_,by simp[eqGuard,binOp,Op.shift,hb],.int _ _ _⟩
  ·rename_i Z h2;split at h
   ·rename_i hk;subst hk;cases T
    case shl=>exact absurd rfl Z
    case shr=>exact absurd rfl h2
    case quo=>
     by_cases hb:b=0
     ·simp only[hb,if_true]at h;cases h
     ·simp[hb]at h
      refine⟨_,h,rfl,λw B af E I q O u v C D=>?_⟩
      obtain rfl:=C.gY;obtain rfl:=D.gY;exact⟨_,by simp[eqGuard,binOp,Op.intDiv,hb],.int _ _ _⟩
    case rem=>
     by_cases hb:b=0
     ·simp only[hb,if_true]at h;cases h
     ·simp[hb]at h
      refine⟨_,h,rfl,λw B af E I q O u v C D=>?_⟩
      obtain rfl:=C.gY;obtain rfl:=D.gY;exact⟨_,by simp[eqGuard,binOp,Op.intDiv,hb],.int _ _ _⟩
    all_goals first
     | (refine⟨_,h,rfl,λw B af E I q O u v C D=>?_⟩
        obtain rfl:=C.gY;obtain rfl:=D.gY
        first
         |(refine⟨_,?_,.int _ _ _⟩;simp[eqGuard,binOp,Op.intArith];done)
         |(refine⟨_,?_,.int _ _ _⟩;simp[eqGuard,binOp,intBits_and,intBits_or,intBits_xor,intBits_andNot];done)
         |(refine⟨_,?_,.bool _ _⟩;simp[eqGuard,binOp,Op.intCmp];done))
     |cases h
   ·cases h
 ·rename_i a b;split at h
  ·rename_i Y;split at h
   ·refine⟨_,h,rfl,λw B af E I q O u v C D=>?_⟩
    obtain rfl:=C.zW;obtain rfl:=D.zW;have e:binOp .eql ty (.bool a) (.bool b)=(do pure (.bool (<- Op.equal ty (.bool a) (.bool b)))):=rfl;have g:eqGuard .eql ty E I (.bool a) (.bool b)=pure ():=rfl;exact⟨_,by rw[e,g,gA,Sem.run_pure,me,gA,run_equal_bool _ _ _ _ Y];rfl,.bool _ _⟩
   ·refine⟨_,h,rfl,λw B af E I q O u v C D=>?_⟩
    obtain rfl:=C.zW;obtain rfl:=D.zW;have e:binOp .neq ty (.bool a) (.bool b)=(do pure (.bool (!(<- Op.equal ty (.bool a) (.bool b))))):=rfl;have g:eqGuard .neq ty E I (.bool a) (.bool b)=pure ():=rfl;exact⟨_,by rw[e,g,gA,Sem.run_pure,me,gA,run_equal_bool _ _ _ _ Y];rfl,.bool _ _⟩
   ·cases h
  ·cases h
 ·rename_i a b;split at h
  ·cases U:bX (a.size+b.size)with
   |false=>rw[U]at h;cases h
   | true=>
    rw[U]at h
    refine⟨_,h,rfl,λw B af E I q O u v C D=>?_⟩
    obtain rfl:=C.ye;obtain rfl:=D.ye;have hL':a.size+b.size<1073741824:=by simpa [bX]using U
    refine⟨_,?_,.str _ _⟩;have h9:IntKind.i64.max=9223372036854775807:=rfl;simp only[eqGuard,binOp,Op.stringOp,h9];simp;omega
  ·refine⟨_,h,rfl,λw B af E I q O u v C D=>?_⟩
   obtain rfl:=C.ye;obtain rfl:=D.ye;exact⟨_,by simp[eqGuard,binOp,Op.stringOp],.bool _ _⟩
  ·refine⟨_,h,rfl,λw B af E I q O u v C D=>?_⟩
   obtain rfl:=C.ye;obtain rfl:=D.ye;exact⟨_,by simp[eqGuard,binOp,Op.stringOp],.bool _ _⟩
  ·cases h
 ·cases h
def GP{X:Type}(D:UnOp)(x:V)(k:V->aj X):aj X:=
 match D,x with
 |.not,.bool b=>k (.bool (!b))
 |.neg,.int C n=>k (.int C (C.wrap (0-n)))
 |_,_=>none
def ajC{D:UnOp}{x:V}{k:V->aj X}(h:GP D x k=some r):∃ z,k z=some r/\z.plain=true/\∀ (w:World) (B:Nat) (af:bw) (q:aa Nat) (u:Value),RV w B af q x u->∃ t,(Op.unary D u).run P w = .ok t w/\RV w B af [] z t:=by
 unfold GP at h;split at h
 ·refine⟨_,h,rfl,λw B af q u C=>?_⟩
  obtain rfl:=C.zW;exact⟨_,by simp[Op.unary],.bool _ _⟩
 ·refine⟨_,h,rfl,λw B af q u C=>?_⟩
  obtain rfl:=C.gY;exact⟨_,by simp[Op.unary,Op.intArith],.int _ _ _⟩
 ·cases h
def V.GQ{x:V}(h:x.plain=true):x.aH=true:=by cases x<;>first|rfl|cases h
end
def jF(P:Program)(t:TypeId):aj Nat:=(P.info? t).map (·.size)
def D5(P:Program)(t:TypeId):aj Bool:=
 match P.underlying t with
 |some (.struct _)|some (.array _ _)=>some true
 |some _=>some false
 |none=>none
def qV(P:Program)(t:TypeId):aj TypeId:=
 match P.underlying t with
 |some (.slice e)=>some e
 |_=>none
def GR(P:Program)(s:TypeId)(f:Nat):aj Field:=
 match P.underlying s with
 |some (.struct fs)=>fs[f]?
 |_=>none
def yf{X:Type}(P:Program)(t:TypeId)(cs:aa Lf)(k:A->aj X):aj X:=
 match jF P t with
 | some n=>if cs.length=n then (match D5 P t with
  |some true=>k (.agg cs)
  | some false=>(match cs with
   |[y]=>k (.lf y)
   |_=>none)
  |none=>none)else none
 |none=>none
def leaves(key:Nat->aa Nat):Nat->aa V->aa Lf
 |_,[]=>[]
 |j,z::C=>(bif z.aH then .v z else .own (key j))::leaves key (j+1) C
def oJ{X:Type}(P:Program)(σ:S)(t:TypeId)(x:A)(k:A->aj X):aj X:=
 match jF P t with
 |none=>none
 | some n=>match x with
  | .aG r j=>(match σ.m r with
   |some (.az cs)=>yf P t ((cs.drop j).take n) k
   |_=>none)
  |.js cs=>yf P t ((cs.take n).map .v) k
  | .ptr (j :: i :: s :: q)=>ju σ.m q λy=>(match y with
   |.sl C (o+2) _ l=>if s=aC C then (if h:i<l.length then yf P t (leaves (λD=>D::i::s::q) j (((enc C o l[i]).drop j).take n)) k else none)else none
   |_=>none)
  |_=>none
section
variable {P:Program} {w:World} {w0:Wd} {B N:Nat} {af:bw} {ρ:Nat->Loc} {σ:S} {a:Act} {X:Type} {r:X} {o:Oper}
def Zz(key:Nat -> aa Nat):∀ (j:Nat) (C:aa V) (n:Nat),(leaves key j C)[n]?=(C[n]?).map λz=>bif z.aH then .v z else .own (key (j+n))
 |_,[],n=>by simp[leaves]
 |j,z::C,0=>by simp[leaves]
 | j,z :: C,n+1=>by
  simp[leaves,List.getElem?_cons_succ,Zz]
  grind
def Se{t:TypeId}{cs:aa Lf}{k:A -> aj X}(h:yf P t cs k=some r):∃ x,k x=some r /\ ∀ (w:World) (B:Nat) (af:bw) (ρ:Nat -> Loc) (b o:Nat) (D:aa Value),eX w B af ρ cs D.toArray -> w.rangeAt b o D ->
  ∃v,(Instr.loadAt t (.pointer (some ⟨b,o,none⟩))).run P w = .ok v w/\RA w B af ρ x v:=by
 unfold yf at h;split at h
 ·rename_i n T;split at h
  ·rename_i hlen;split at h
   ·rename_i C
    refine⟨_,h,λw B af ρ b o D hl I=>?_⟩
    have O:D.length=n:=by have:=hl.1;simpa [hlen]using this
    unfold D5 at C;split at C
    next fs E=>exact⟨_,run_loadAt_mid w b o t D _ I E rfl (by rw[O];exact T),_,rfl,hl⟩
    next c e E=>exact⟨_,run_loadAt_mid w b o t D _ I E rfl (by rw[O];exact T),_,rfl,hl⟩
    ·cases C
    ·cases C
   ·rename_i C;split at h
    ·rename_i y
     refine⟨_,h,λw B af ρ b o D hl I=>?_⟩
     have O:D.length=1:=by have:=hl.1;simpa using this
     obtain⟨v,rfl⟩:=List.length_eq_one_iff.1 O;have U:w.cell? ⟨b,o,none⟩=some v:=I 0 v rfl;obtain⟨u,E,hR⟩:=hl.2 0 y rfl;have:v=u:=by simpa using E
     subst this;refine⟨v,?_,hR⟩;unfold D5 at C;split at C
     ·cases C
     ·cases C
     ·rename_i d Z ha E;have Y:(isAgg t).run P w = .ok false w:=by
       unfold isAgg;rw[gA,iu E];simp_all
      simp[Instr.loadAt,Instr.sureAddr,loadVar,gA,Y,load,Sem.run,U]
     ·cases C
    ·cases h
   ·cases h
  ·cases h
 ·cases h
def L1{α:Type}(l:aa α)(j n i:Nat)(x:α)(h:((l.drop j).take n)[i]?=some x):i<n/\l[j+i]?=some x:=by grind
def ZA{t:TypeId}{x:A}{k:A -> aj X}(h:oJ P σ t x k=some r):∃ y,k y=some r /\ ∀ af ρ a w,Rl w0 N af ρ σ a w -> ∀ u,RA w w0.heap.size af ρ x u ->
  ∃v,(Instr.loadAt t u).run P w = .ok v w/\RA w w0.heap.size af ρ y v:=by
 unfold oJ at h;split at h
 ·cases h
 ·rename_i n hn;split at h
  ·rename_i r' j;split at h
   ·rename_i cs gu;obtain⟨y,Y,Z⟩:=Se h
    refine⟨y,Y,λaf ρ a w hR u hu=>?_⟩
    obtain⟨b,off,ck,rfl⟩:=hu;have O:=hR.root r' _ gu;generalize U:aS.az cs=x at O;cases O with
    |sl=>cases U
    |mp=>cases U
    |gh=>cases U
    | az b' Cb cells e fq us jk hl hh hs hc=>
     injection U with U;subst U;rw[ck]at jk;injection jk with e1 e2;subst e1 e2
     refine Z w _ af ρ b (off+j) (((cs.drop j).take n).mapIdx λi _=>us (j+i)) ⟨by simp,λi x C=>?_⟩ (λi v D=>?_)
     ·obtain⟨hi,mq⟩:=L1 _ _ _ _ _ C;simp_all
     ·rw[List.getElem?_mapIdx]at D;cases C:((cs.drop j).take n)[i]? with
      |none=>rw[C]at D;cases D
      | some x=>
       rw[C]at D;injection D with D;subst D;obtain⟨hi,mq⟩:=L1 _ _ _ _ _ C;rw[cell_of_row w b _ cells _ _ hh,Nat.add_assoc];simp_all
   ·cases h
  ·rename_i cs;obtain⟨y,Y,Z⟩:=Se h
   refine⟨y,Y,λaf ρ a w hR u hu=>?_⟩
   obtain⟨b,off,rfl,hb,hl,hc⟩:=hu;have nX:∀ (i:Nat) (x:Lf),((cs.take n).map Lf.v)[i]?=some x -> ∃ z v,x = .v z/\z.aH=true/\w.cell? ⟨b,off+i,none⟩=some v/\RV w w0.heap.size af [] z v:=by
    intro i x C;rw[eO]at C;cases I:(cs.take n)[i]? with
    |none=>rw[I]at C;cases C
    | some z=>
     rw[I]at C;injection C with C;rw[List.getElem?_take]at I;split at I
     ·obtain⟨tA,v,D,O⟩:=hc i z I
      grind
     ·cases I
   refine Z w _ af ρ b off (((cs.take n).map Lf.v).mapIdx λi _=>(w.cell? ⟨b,off+i,none⟩).getD undef) ⟨by simp,λi x C=>?_⟩ (λi v D=>?_)
   ·obtain⟨z,v,rfl,tA,D,O⟩:=nX i x C;refine⟨v,?_,tA,O⟩;simp_all
   ·rw[List.getElem?_mapIdx]at D;cases C:((cs.take n).map Lf.v)[i]? with
    |none=>rw[C]at D;cases D
    |some x =>grind
  ·rename_i j i s q;obtain⟨y0,hg,T⟩:=tv _ _ h;clear h;split at T
   ·rename_i E o' qn l;split at T
    ·rename_i hs;subst hs;split at T
     ·rename_i hi;obtain⟨y,Y,Z⟩:=Se T
      refine⟨y,Y,λaf ρ a w hR u hu=>?_⟩
      obtain⟨ad,rfl,qf⟩:=hu;obtain⟨D,lP,kA⟩:=hg.ok hR.root;cases kA with
      |eS=>simp at hi
      |fU=>simp at hi
      |gj=>simp at hi
      |aH _ _ _ _ _ _ _ _ _ ho=>omega
      | own _ _ _ _ _ b cap cs us qh hh hs hn tu hc O=>
       rw[B7 j i (aC E) lP qh]at qf;injection qf with qf;subst qf;have nX:∀ (m:Nat) (x:Lf),(leaves (λj'=>j' :: i :: aC E :: q) j (((enc E o' l[i]).drop j).take n))[m]?=some x -> cs[i*aC E+(j+m)]?=some (us i (j+m))/\eB w w0.heap.size af ρ x (us i (j+m)):=by
        intro m x C;rw[Zz]at C;cases I:(((enc E o' l[i]).drop j).take n)[m]? with
        |none=>rw[I]at C;cases C
        | some z=>
         rw[I]at C;injection C with C;have C:(bif z.aH then Lf.v z else Lf.own ((j+m)::i::aC E::q))=x:=C;obtain⟨_,D6⟩:=L1 _ _ _ _ _ I;have h3:=hc i hi _ z D6;have h4:=O i hi _ z D6;refine⟨h3,?_⟩;cases D7:z.aH with
         | true=>
          rw[D7]at C;subst C;exact⟨D7,h4.key D7⟩
         | false=>
          rw[D7]at C;have C:Lf.own ((j+m)::i::aC E::q)=x:=C;subst C;refine⟨?_,?_⟩
          ·exact h4.R4 D7
          ·rw[LV,B7 _ i _ lP qh];show w.cell? _=_;rw[cell_of_row w b _ cs _ _ hh];exact h3
       refine Z w _ af ρ b (i*aC E+j) ((leaves (λj'=>j'::i::aC E::q) j (((enc E o' l[i]).drop j).take n)).mapIdx λm _=>us i (j+m)) ⟨by simp,λm x C=>?_⟩ (λm v D=>?_)
       ·simp[*]
       ·rw[List.getElem?_mapIdx]at D;cases C:(leaves (λj'=>j' :: i :: aC E :: q) j (((enc E o' l[i]).drop j).take n))[m]? with
        |none=>rw[C]at D;cases D
        | some x=>
         rw[C]at D;injection D with D;subst D;rw[cell_of_row w b _ cs _ _ hh,Nat.add_assoc];simp_all
     ·cases T
    ·cases T
   ·cases T
  ·cases h
end
def A.zX:A->aj (aa Lf)
 |.lf x=>some [x]
 |.agg xs=>some xs
 |_=>none
def Lf.live:Lf->Bool
 |.dead=>false
 |_=>true
def Lf.pl:Lf->aj V
 |.v x=>bif x.plain then some x else none
 |_=>none
def r7:aa Lf->aj (aa V)
 |[]=>some []
 | x :: xs=>match x.pl,r7 xs with
  |some y,some ys=>some (y::ys)
  |_,_=>none
def yg{X:Type}(m:Nat->aj aS):aa Nat->V->((Nat->aj aS)->aj X)->aj X
 | [r],y,k=>match m r with
  |some (.sl _)=>k (bJ m r (some (.sl y)))
  |_=>none
 | j :: i :: s :: q,y,k=>ju m q λz=>match z with
  | .sl t (o+2) C l=>if s=aC t then (if h:i<l.length then (if j<aC t then (match dec t o (splice (enc t o l[i]) j [y])with
   |some e=>yg m q (.sl t (o+2) C (l.set i e)) k
   |none=>none)else none)else none)else none
  |_=>none
 |_,_,_=>none
def qW{X:Type}(P:Program)(σ:S)(t:TypeId)(x y:A)(k:S->aj X):aj X:=
 match jF P t,y.zX with
 | some n,some xs=>if xs.length=n then (match x with
  | .aG r j=>(match σ.m r with
   |some (.az cs)=>if j+n<=cs.length then (bif xs.all Lf.live then k ⟨σ.t,bJ σ.m r (some (.az (splice cs j xs)))⟩else none)else none
   |_=>none)
  | .ptr (j :: i :: s :: q)=>(match r7 xs with
   |none=>none
   | some D=>ju σ.m q λy=>(match y with
    | .sl C (o+2) E l=>if s=aC C then (if h:i<l.length then (if j+D.length<=aC C then (bif (((enc C o l[i]).drop j).take D.length).all V.plain then (match dec C o (splice (enc C o l[i]) j D)with
     |some e=>yg σ.m q (.sl C (o+2) E (l.set i e)) λm=>k ⟨σ.t,m⟩
     |none=>none)else none)else none)else none)else none
    |_=>none))
  |_=>none)else none
 |_,_=>none
section
variable {P:Program} {w:World} {w0:Wd} {B N:Nat} {af:bw} {ρ:Nat->Loc} {σ:S} {a:Act} {X:Type} {r:X} {o:Oper}
def ZB{m:Nat -> aj aS}:∀ (q:aa Nat) (y:V) (k:(Nat -> aj aS) -> aj X),yg m q y k=some r -> ∃ m',zU m q y m'/\k m'=some r
 |[],_,_,h=>by simp[yg]at h
 | [x],y,k,h=>by
  simp only[yg]at h;split at h
  next D E=>exact⟨_,.root x D y E,h⟩
  ·cases h
 | j :: i :: s :: q,y,k,h=>by
  simp only[yg]at h;obtain⟨z,I,C⟩:=tv q _ h;clear h;split at C
  ·split at C
   ·rename_i O;subst O;split at C
    ·rename_i hi;split at C
     ·rename_i T;split at C
      next e U=>obtain⟨m',Y,Z⟩:=ZB q _ k C;exact⟨m',.elem j i q _ _ _ _ y e m' I hi T U Y,Z⟩
      ·cases C
     ·cases C
    ·cases C
   ·cases C
  ·cases C
def L2:∀ (xs:aa Lf) (C:aa V),r7 xs=some C -> xs=C.map .v /\ ∀ v∈C,v.plain=true
 | [],C,h=>by
  simp[r7]at h;subst h;exact⟨rfl,by simp⟩
 | x :: xs,C,h=>by
  unfold r7 at h;split at h
  ·rename_i y ys D E;injection h with h;subst h;obtain⟨I,O⟩:=L2 xs ys E;have:x = .v y/\y.plain=true:=by
    cases x with
    | v z=>
     unfold Lf.pl at D
     grind
    |own q=>cases D
    |dead=>cases D
   simp_all
  ·cases h
def ajD{u:Value}(h:u.oneCell'=true):u.cells = #[u]:=by cases u<;>first|rfl|cases h
def eB.one{x:Lf}{u:Value}(h:eB w B af ρ x u)(C:x.live=true):u.oneCell'=true:=by
 cases x with
 |v z=>exact h.2.one
 | own k=>
  have:=h.1;cases u<;>first|rfl|cases this
 |dead=>cases C
def GS{y:A}{xs:aa Lf}(h:y.zX=some xs)(D:xs.all Lf.live=true){u:Value}(C:RA w B af ρ y u):eX w B af ρ xs u.cells/\u.cells.all (·.oneCell')=true:=by
 have key:∀ us:Array Value,eX w B af ρ xs us -> us.all (·.oneCell')=true:=by
  intro us E;rw[Array.all_eq_true];intro i hi;have O:=bK (by rw[<- E.1];exact hi);obtain⟨v,I,T⟩:=E.2 i _ O;have:us[i]=v:=by rw[Array.getElem?_eq_getElem hi]at I;injection I
  rw[this];exact T.one (bT.1 D _ (cX _))
 cases y with
 | lf x=>
  injection h with h;subst h;have C:eB w B af ρ x u:=C;have U:=C.one (by simpa using D);have:eX w B af ρ [x] u.cells:=by
   rw[ajD U]
   refine⟨rfl,λj y Y=>?_⟩
   grind
  simp_all
 | agg Z=>
  injection h with h;subst h;obtain⟨us,rfl,h⟩:=C;exact⟨h,key _ h⟩
 |_=>cases h
def Sf(w:World)(b o:Nat)(ty:TypeId)(v:Value)(D:w.there b o v.cells.size)(hi:(P.info? ty).map (·.size)=some v.cells.size)(I:v.cells.all (·.oneCell')=true):
  (Instr.storeAt ty (.pointer (some ⟨b,o,none⟩)) v).run P w = .ok () (w.setCells b o v.cells.toList):=by
 have:=run_storeCells_cells (P:=P) b o v.cells.toList 0 w (λj C=>by simpa using (D j (by simpa using C)).1) (λj C=>by simpa using (D j (by simpa using C)).2)
  (λv O=>(Array.all_eq_true_iff_forall_mem.1 I) v (by simpa using O))
 cases E:P.info? ty with
 |none=>simp_all
 | some i=>
  have T:v.cells.size=i.size:=by simp[E]at hi;omega
  simp[Instr.storeAt,Instr.sureAddr,storeVar,sizeOf,typeInfo,E,T,this]
def ZC{t:TypeId}{x y:A}{k:S -> aj X}(h:qW P σ t x y k=some r):∃ dc,k dc=some r /\ ∀ af ρ a w,Rl w0 N af ρ σ a w -> ∀ u v,RA w w0.heap.size af ρ x u -> RA w w0.heap.size af ρ y v ->
  ∃w',(Instr.storeAt t u v).run P w = .ok () w'/\Rl w0 N af ρ dc a w':=by
 unfold qW at h;split at h
 ·rename_i n xs hn qi;split at h
  ·rename_i hlen;split at h
   ·rename_i r' j;split at h
    ·rename_i cs gu;split at h
     ·rename_i T;cases E:xs.all Lf.live with
      |false=>grind
      | true=>
       rw[E]at h
       refine⟨_,h,λaf ρ a w hR u v U Y=>?_⟩
       obtain⟨b,off,ck,rfl⟩:=U;obtain⟨hl,Z⟩:=GS qi E Y;obtain⟨b',Cb,jk,GU,dL⟩:=hR.GM gu hl (by rw[hlen];exact T);rw[ck]at jk;injection jk with e1 e2;subst e1 e2;exact⟨_,Sf w b (off+j) t v GU (by rw[hl.1,hlen];exact hn) Z,dL⟩
     ·cases h
    ·cases h
   ·rename_i j i s q;split at h
    ·cases h
    ·rename_i D kB;obtain⟨y0,hg,C⟩:=tv _ _ h;clear h;split at C
     ·rename_i t' o' qn l;split at C
      ·rename_i hs;subst hs;split at C
       ·rename_i hi;split at C
        ·rename_i T;cases hold:(((enc t' o' l[i]).drop j).take D.length).all V.plain with
         |false=>grind
         | true=>
          rw[hold,aq]at C;split at C
          ·rename_i e he;obtain⟨m',tC,h3⟩:=ZB q _ _ C
           refine⟨_,h3,λaf ρ a w hR u v U Y=>?_⟩
           obtain⟨ad,rfl,qf⟩:=U;obtain⟨I,L3⟩:=L2 xs D kB;have E:xs.all Lf.live=true:=by rw[I];simp[Lf.live]
           obtain⟨hl,Z⟩:=GS qi E Y;have yh:D.length=n:=by rw[<- hlen,I,fy]
           have q1:∀ (n':Nat) x,n'<D.length -> (enc t' o' l[i])[j+n']?=some x -> x.plain=true:=by
            intro n' x uQ hx;refine bT.1 hold x (gT (i:=n') ?_);simp_all
           have q2:∀ (n':Nat) x,D[n']?=some x -> ∃ O,v.cells[n']?=some O/\RV w w0.heap.size af [] x O:=by
            intro n' x hx;obtain⟨O,wh,fQ⟩:=hl.2 n' (.v x) (by rw[I,eO,hx];rfl);exact⟨O,wh,fQ.2⟩
           obtain⟨b,hb,GU,dL⟩:=hR.ajy (xs:=D) (us:=v.cells) hg hi T he q1 L3 (by rw[hl.1,I,fy]) q2 tC;rw[qf]at hb;injection hb with hb;subst hb;exact⟨_,Sf w b _ t v GU (by rw[hl.1,hlen];exact hn) Z,dL⟩
          ·cases C
        ·cases C
       ·cases C
      ·cases C
     ·cases C
   ·cases h
  ·cases h
 ·cases h
end
def D8{X:Type}(P:Program)(s:TypeId)(x:A)(f:Nat)(k:A->aj X):aj X:=
 match GR P s f with
 |none=>none
 | some C=>match jF P C.type with
  | some (_+1)=>(match x with
   |.aG r j=>k (.aG r (j+C.offset))
   |.js cs=>k (.js (cs.drop C.offset))
   |.ptr (j::i::s::q)=>k (.ptr ((j+C.offset)::i::s::q))
   |_=>none)
  |_=>none
def zY{X:Type}(P:Program)(σ:S)(t:TypeId)(x i:A)(k:A->aj X):aj X:=
 match qV P t with
 |none=>none
 | some e=>match jF P e,i with
  | some n,.lf (.v (.int _ iv))=>(match x with
   |.lf (.v (.sl C g _ l))=>if n=aC C then (bif Nat.blt g 2 then (if h:0<=iv/\iv.toNat<l.length then k (.js (enc C g (l[iv.toNat]'h.2)))else none)else none)else none
   | .lf (.own q)=>ju σ.m q λy=>(match y with
    |.sl C g _ l=>if n=aC C then (if h:0<=iv/\iv.toNat<l.length then (bif Nat.blt g 2 then k (.js (enc C g (l[iv.toNat]'h.2)))else k (.ptr (0::iv.toNat::aC C::q)))else none)else none
    |_=>none)
   |_=>none)
  |_,_=>none
def Cc{X:Type}(P:Program)(σ:S)(t:TypeId)(x:A)(k:A->aj X):aj X:=
 match x with
 | .lf y=>qg σ y λz=>(match z with
  |.sl _ _ _ l=>(match P.underlying t with|some (.slice _)=>k (.lf (.v (.int .i64 (l.length:Int))))|_=>none)
  |.nil=>(match P.underlying t with|some (.slice _)=>k (.lf (.v (.int .i64 0)))|_=>none)
  |.str s=>(match P.underlying t with|some .string=>k (.lf (.v (.int .i64 (s.size:Int))))|_=>none)
  |_=>none)
 |.view _ _ i j=>(match P.underlying t with|some (.slice _)=>k (.lf (.v (.int .i64 ((j-i:Nat):Int))))|_=>none)
 |_=>none
def zZ:Bool×aa Lf->aj A
 |(true,cs)=>some (.agg cs)
 |(false,[y])=>some (.lf y)
 |_=>none
def Cd{X:Type}(x:A)(i:Nat)(k:A->aj X):aj X:=
 match x with
 | .fz xs=>match (xs[i]?).bind zZ with
  |some y=>k y
  |none=>none
 |_=>none
section
variable {P:Program} {w:World} {w0:Wd} {B N:Nat} {af:bw} {ρ:Nat->Loc} {σ:S} {a:Act} {X:Type} {r:X} {o:Oper} {w':World} {aA:bw} {ρ':Nat->Loc} {d:Nat}
def ajE(n:Nat){j i s:Nat}{q:aa Nat}{ad:Addr}(h:addrAt w af ρ (j :: i :: s :: q)=some ad):addrAt w af ρ ((j+n) :: i :: s :: q)=some ⟨ad.block,ad.off+n,none⟩:=by
 match q,h with
 | [r],h=>
  simp[addrAt]at h ⊢;split at h
  ·grind
  ·cases h
 | x :: y :: q,h=>
  simp[addrAt]at h ⊢;split at h
  ·grind
  ·cases h
def Sg(w:World)(s:TypeId)(f:Nat)(C:Field)(n b off:Nat)(D:GR P s f=some C)(E:jF P C.type=some (n+1)):
  (Instr.fieldAt s (.pointer (some ⟨b,off,none⟩)) f).run P w = .ok (.pointer (some ⟨b,off+C.offset,none⟩)) w:=by
 unfold GR at D;split at D
 ·rename_i fs O;unfold jF at E;cases I:P.info? C.type with
  |none=>simp_all
  | some i=>
   have hi:i.size=n+1:=by simpa [I]using E
   simp[Instr.fieldAt,iu O,D,Instr.sureAddr,fieldPlace,sizeOf,typeInfo,I,hi,Addr.add_mid]
 ·cases D
def ajF{s:TypeId}{x:A}{f:Nat}{k:A -> aj X}(h:D8 P s x f k=some r):∃ y,k y=some r /\ ∀ (w:World) (B:Nat) (af:bw) (ρ:Nat -> Loc) (u:Value),RA w B af ρ x u ->
  ∃v,(Instr.fieldAt s u f).run P w = .ok v w/\RA w B af ρ y v:=by
 unfold D8 at h;split at h
 ·cases h
 ·rename_i D E;split at h
  ·rename_i n I;split at h
   ·rename_i Z j
    refine⟨_,h,λw B af ρ u C=>?_⟩
    obtain⟨b,off,U,rfl⟩:=C;exact⟨_,Sg w s f D n b _ E I,b,off,U,by rw[Nat.add_assoc]⟩
   ·rename_i cs
    refine⟨_,h,λw B af ρ u C=>?_⟩
    obtain⟨b,off,rfl,hb,hl,hc⟩:=C
    refine⟨_,Sg w s f D n b _ E I,b,_,rfl,hb,hl,λj x hx=>?_⟩
    grind
   ·rename_i j i s' q
    refine⟨_,h,λw B af ρ u C=>?_⟩
    obtain⟨ad,rfl,O⟩:=C;have Y:=ajE D.offset O;obtain⟨_,_,_,_,_,_,_,T,_⟩:=B8 _ _ O;obtain⟨b,off,sp⟩:=ad;simp only at T;subst T;exact⟨_,Sg w s f D n b off E I,_,rfl,Y⟩
   ·cases h
  ·cases h
def Sh(w:World)(t e:TypeId)(n b off len cap:Nat)(I:IntKind)(iv:Int)(C:qV P t=some e)(D:jF P e=some n)(O:0 <= iv)(Z:iv.toNat<len):
  (Instr.indexAt t (.slice (some ⟨b,off,none⟩) len cap) (.int I iv)).run P w = .ok (.pointer (some ⟨b,off+iv.toNat*n,none⟩)) w:=by
 unfold qV at C;split at C
 ·rename_i T U;injection C with C;subst C;unfold jF at D;cases E:P.info? T with
  |none=>simp_all
  | some i=>
   have hi:i.size=n:=by simpa [E]using D
   have Y:iv<len:=by omega
   simp[Instr.indexAt,iu U,asIntOf,O,Y,sizeOf,typeInfo,E,hi,Addr.add_mid]
 ·cases C
def ajG{t:TypeId}{x i:A}{k:A -> aj X}(h:zY P σ t x i k=some r):∃ y,k y=some r /\ ∀ af ρ a w,Rl w0 N af ρ σ a w -> ∀ u v,RA w w0.heap.size af ρ x u -> RA w w0.heap.size af ρ i v ->
  ∃p,(Instr.indexAt t u v).run P w = .ok p w/\RA w w0.heap.size af ρ y p:=by
 unfold zY at h;split at h
 ·cases h
 ·rename_i e Z;split at h
  ·rename_i n kk iv hn;split at h
   ·rename_i t' g qn l;split at h
    ·rename_i Ce;subst Ce;cases D:Nat.blt g 2 with
     |false=>grind
     | true=>
      rw[D,aq]at h;split at h
      ·rename_i hb
       refine⟨_,h,λaf ρ a w hR u v E I=>?_⟩
       obtain rfl:=I.2.gY;have uR:g<2:=by have:=cE D;omega
       cases E.2 with
       |eS=>simp at hb
       |fU=>simp at hb
       |gj=>simp at hb
       |own=>grind
       | aH _ _ _ _ _ b off cap us ho hl L4 h1 kz hc Y=>
        refine⟨_,Sh w t e _ b off _ cap kk iv Z hn hb.1 hb.2,b,_,rfl,L4,hl,λj x O=>⟨qU t' g _ uR j x O,us _ j,?_,Y _ hb.2 j x O⟩⟩
        grind
      ·cases h
    ·cases h
   ·rename_i q;obtain⟨y0,D,C⟩:=tv _ _ h;clear h;split at C
    ·rename_i t' T qn l;split at C
     ·rename_i Ce;subst Ce;split at C
      ·rename_i hb;cases U:Nat.blt T 2 with
       | true=>
        rw[U,aq]at C;have ZD:T<2:=cE U
        refine⟨_,C,λaf ρ a w hR u v E I=>?_⟩
        obtain rfl:=I.2.gY;obtain⟨uN,lP,kA⟩:=D.ok hR.root;have:uN=u:=by
         have h3:=E.2;simp_all
        subst this;cases kA with
        |eS=>simp at hb
        |fU=>simp at hb
        |gj=>simp at hb
        |own=>grind
        | aH _ _ _ _ _ b off cap us ho hl L4 h1 kz hc Y=>
         refine⟨_,Sh w t e _ b off _ cap kk iv Z hn hb.1 hb.2,b,_,rfl,L4,hl,λj x O=>⟨qU t' T _ ZD j x O,us _ j,?_,Y _ hb.2 j x O⟩⟩
         grind
       | false=>
        rw[U,av]at C;have ZD:¬ T<2:=λdK=>by have h9:Nat.blt T 2=true:=ja dK;rw[h9]at U;cases U
        refine⟨_,C,λaf ρ a w hR u v E I=>?_⟩
        obtain rfl:=I.2.gY;obtain⟨uN,lP,kA⟩:=D.ok hR.root;have:uN=u:=by
         have h3:=E.2;simp_all
        subst this;cases kA with
        |eS=>simp at hb
        |fU=>simp at hb
        |gj=>simp at hb
        |aH _ _ _ _ _ _ _ _ _ ho=>omega
        | own _ _ _ _ _ b cap cs us qh hh hs uQ tu hc Y=>
         refine⟨_,Sh w t e _ b 0 _ cap kk iv Z hn hb.1 hb.2,_,rfl,?_⟩;rw[B7 0 _ _ lP qh];simp
      ·cases C
     ·cases C
    ·cases C
   ·cases h
  ·cases h
def ajH{t ty:TypeId}{x:A}{k:A->aj X}(h:Cc P σ t x k=some r):∃ y,k y=some r/\∀ af ρ a w,Rl w0 N af ρ σ a w->∀ u,RA w w0.heap.size af ρ x u->
  ∃v,(Builtin.len_ #[t] ty #[u]).run P w = .ok v w/\RA w w0.heap.size af ρ y v:=by
 unfold Cc at h;split at h
 ·rename_i y;have key:∃ z,(∀ af ρ a w,Rl w0 N af ρ σ a w->∀ u,eB w w0.heap.size af ρ y u->∃ q,RV w w0.heap.size af q z u)/\(match z with
    |.sl _ _ _ l=>(match P.underlying t with|some (.slice _)=>k (.lf (.v (.int .i64 (l.length:Int))))|_=>none)
    |.nil=>(match P.underlying t with|some (.slice _)=>k (.lf (.v (.int .i64 0)))|_=>none)
    |.str s=>(match P.underlying t with|some .string=>k (.lf (.v (.int .i64 (s.size:Int))))|_=>none)
    |_=>none)=some r:=by
   cases y with
   |v z=>exact⟨z,λaf ρ a w _ u D=>⟨[],D.2⟩,h⟩
   |dead=>cases h
   | own q=>
    obtain⟨z,O,h⟩:=tv q _ h
    refine⟨z,λaf ρ a w hR u D=>?_,h⟩
    obtain⟨v,U,I⟩:=O.ok hR.root;have T:=D.2;rw[U]at T;injection T with T;subst T;exact⟨q,I⟩
  obtain⟨z,O,C⟩:=key;clear h;split at C
  ·rename_i Y g Z l;split at C
   ·rename_i e E
    refine⟨_,C,λaf ρ a w hR u D=>?_⟩
    obtain⟨q,I⟩:=O af ρ a w hR u D;cases I with
    |eS=>exact⟨_,by simp[Builtin.len_,iu E,goInt],rfl,.int _ _ _⟩
    |fU=>exact⟨_,by simp[Builtin.len_,iu E,goInt],rfl,.int _ _ _⟩
    |gj=>exact⟨_,by simp[Builtin.len_,iu E,goInt],rfl,.int _ _ _⟩
    |aH=>exact⟨_,by simp[Builtin.len_,iu E,goInt],rfl,.int _ _ _⟩
    |own=>exact⟨_,by simp[Builtin.len_,iu E,goInt],rfl,.int _ _ _⟩
   ·cases C
  ·split at C
   ·rename_i e E
    refine⟨_,C,λaf ρ a w hR u D=>?_⟩
    obtain⟨q,I⟩:=O af ρ a w hR u D;cases I;exact⟨_,by simp[Builtin.len_,iu E,goInt],rfl,.int _ _ _⟩
   ·cases C
  ·split at C
   ·rename_i E
    refine⟨_,C,λaf ρ a w hR u D=>?_⟩
    obtain⟨q,I⟩:=O af ρ a w hR u D;obtain rfl:=I.ye;exact⟨_,by simp[Builtin.len_,iu E,goInt],rfl,.int _ _ _⟩
   ·cases C
  ·cases C
 ·split at h
  ·rename_i e E
   refine⟨_,h,λaf ρ a w hR u D=>?_⟩
   obtain⟨A,n,c,U,h1,C,rfl⟩:=D;exact⟨_,by cases A<;>simp[sliced,Builtin.len_,iu E,goInt],rfl,.int _ _ _⟩
  ·cases h
 ·cases h
def Si{p:Bool×aa Lf}{y:A}(h:zZ p=some y){u:Value}(C:RP w B af ρ p u):RA w B af ρ y u:=by
 unfold zZ at h;split at h
 ·injection h with h;subst h;exact C
 ·rename_i z;injection h with h;subst h;obtain⟨D,E,I⟩:=C.2 0 z rfl;have:u=D:=by simpa using E
  subst this;exact I
 ·cases h
def ajI{x:A}{i:Nat}{k:A -> aj X}(h:Cd x i k=some r):∃ y,k y=some r /\ ∀ (w:World) (B:Nat) (af:bw) (ρ:Nat -> Loc) (u:Value),RA w B af ρ x u ->
  ∃v,(Instr.extract u i).run P w = .ok v w/\RA w B af ρ y v:=by
 unfold Cd at h;split at h
 ·rename_i xs;split at h
  ·rename_i y C
   refine⟨y,h,λw B af ρ u E=>?_⟩
   obtain⟨us,rfl,U,I⟩:=E;cases D:xs[i]? with
   |none=>simp_all
   | some p=>
    rw[D]at C;obtain⟨v,O,T⟩:=I i p D;exact⟨v,by simp[Instr.extract,O],Si C T⟩
  ·cases h
 ·cases h
def ZE{k:aa Nat}(h:cT d k=true):[d] <:+ k:=by
 have h:k.getLast?=some d:=by simpa [cT]using h
 obtain⟨y,C⟩:=List.getLast?_eq_some_iff.1 h;simp_all
def L5{j i s:Nat}{q:aa Nat}(C:q≠[]):cT d (j :: i :: s :: q)=cT d q:=by
 cases q with
 |nil=>simp_all
 |cons x q=>simp[cT]
structure D9 (w w':World) (af aA:bw) (d:Nat):Prop where
 size:w.heap.size<=w'.heap.size
 block:∀b,b<w.heap.size->af b≠some [d]->w'.heap[b]?=w.heap[b]?
 Sj:∀b,b<w.heap.size->aA b=af b
 ne:∀b,af b≠some []
def D9.tr(C:D9 w w' af aA d)(D:∀ b k,af b=some k->b<w.heap.size)(E:∀ r,r≠d->ρ' r=ρ r):Tr w w' af aA ρ ρ' (cT d) (λr=>Nat.beq r d):=by
 refine⟨C.size,λb hb hl=>⟨C.block b hb (by rw[hl];simp),(C.Sj b hb).trans hl⟩,λb k hl I=>⟨C.block b (D b k hl) ?_,(C.Sj b (D b k hl)).trans hl⟩,λr O=>E r (by rintro rfl;simp at O),λj i s x q=>L5 (by simp),λb hb=>absurd hb (C.ne b)⟩
 rw[hl];intro e;injection e with e;subst e;simp[cT]at I
def RA.Sk{x:A}{u:Value}(h:RA w B af ρ x u)(C:D9 w w' af aA d)(D:∀b k,af b=some k->b<w.heap.size)(E:∀r,r≠d->ρ' r=ρ r):RA w' B aA ρ' (x.drop d) u:=h.tr (C.tr D E) (v8 (λ_ h=>h) λ_=>qc)
def eH.Sk{r:Nat}(C:r≠d){x:aS}(h:eH w B af ρ r x)(D:D9 w w' af aA d)(E:∀b k,af b=some k->b<w.heap.size)(I:∀r,r≠d->ρ' r=ρ r):eH w' B aA ρ' r (x.drop d):=h.tr (D.tr E I) (v8 (λ_ h=>h) λ_=>qc) (by simpa [cT]using C) (qc C)
def Rl.z0{x:aS}(h:Rl w0 N af ρ σ a w)(U:w0.F d=none)(hb:jt w0 w w')(E:D9 w w' af aA d)(Y:∀ b k,w.heap.size <= b -> aA b=some k -> b<w'.heap.size/\k≠[])(I:∀ r,r≠d -> ρ' r=ρ r)(hx:eH w' w0.heap.size aA ρ' d x):
  Rl w0 N aA ρ' ((σ.drop d).root d x) a w':=by
 have T:=λb k hb=>(h.dj b k hb).2.1
 refine⟨h.below.trans hb,λb k O=>?_,λr y C=>?_,λk=>(h.tmp k).Sk E T I,h.size,h.defers,λr Z D=>(I r (by rintro rfl;rw[U]at D;cases D)).trans (h.fix r Z D),h.cS⟩
 ·rcases Nat.lt_or_ge b w.heap.size with dK | qd
  ·rw[E.Sj b dK]at O;have:=h.dj b k O;exact⟨this.1,Nat.lt_of_lt_of_le this.2.1 E.size,this.2.2⟩
  ·have:=Y b k qd O;exact⟨.inl (Nat.le_trans h.below.size qd),this.1,this.2⟩
 ·by_cases D:r=d
  ·subst D;have C:(bJ (σ.drop r).m r _) r=some y:=C;rw[bM]at C;simp_all
  ·have C:(bJ (σ.drop d).m d (some x)) r=some y:=C;rw[cy _ _ _ D]at C;have hb:Nat.beq r d=false:=by
    cases hb:Nat.beq r d with
    |false=>rfl
    |true=>simp_all
   simp only[S.drop,hb,av]at C;cases hm:σ.m r with
   |none=>simp_all
   | some z=>
    rw[hm]at C;injection C with C;subst C;exact(h.root r z hm).Sk D E T I
end
def iy(q:Nat)(nk k:aa Nat):aa Nat:=bif cT q k then k.dropLast++nk else k
def bw.iy(af:bw)(q:Nat)(nk:aa Nat):bw:=λb=>(af b).map (Proofs.YtpigmalhjkekiaaGreat.iy q nk)
section
variable {P:Program} {w w':World} {w0:Wd} {B N:Nat} {af aA:bw} {ρ ρ':Nat->Loc} {σ:S} {a:Act} {X:Type} {d q:Nat} {nk:aa Nat}
def ZF:iy q nk [q]=nk:=by simp[iy,cT]
def ajJ{k:aa Nat}(h:cT q k=false):iy q nk k=k:=by simp[iy,h]
def ajK{j i s:Nat}{k:aa Nat}(C:k≠[]):iy q nk (j :: i :: s :: k)=j :: i :: s :: iy q nk k:=by
 unfold iy;rw[L5 C];cases cT q k with
 |false=>rfl
 | true=>
  cases k with
  |nil=>simp_all
  |cons x k=>simp
def ZG{k:aa Nat}(C:nk≠[])(D:k≠[]):iy q nk k≠[]:=by
 unfold iy;cases cT q k with
 |false=>simp_all
 |true=>simp[C]
def bw.Sl{b:Nat}(h:af b=none):af.iy q nk b=none:=by simp[bw.iy,h]
def bw.ZH{b:Nat}{k:aa Nat}(h:af b=some k):af.iy q nk b=some (Proofs.YtpigmalhjkekiaaGreat.iy q nk k):=by simp[bw.iy,h]
def bw.ZI{b:Nat}{k:aa Nat}(h:af b=some k)(C:cT q k=false):af.iy q nk b=some k:=by rw[bw.ZH h,ajJ C]
def RV.iy{k:aa Nat}{x:V}{v:Value}(h:RV w B af k x v)(D:∀ b,af b≠some []):RV w B (af.iy q nk) (Proofs.YtpigmalhjkekiaaGreat.iy q nk k) x v:=
 h.map (Q:=λk C=>C=Proofs.YtpigmalhjkekiaaGreat.iy q nk k) (dg _) (λb _ h=>⟨rfl,bw.Sl h⟩) (λb k C _ hl e=>by
  subst e;exact⟨rfl,bw.ZH hl,λj i s=>(ajK λe=>D b (e ▸ hl)).symm⟩) (.inr rfl)
structure Rel (q:Nat) (af aA:bw):Prop where
 ne:∀b,af b≠some []
 none:∀b,af b=none->aA b=Option.none
 jr:∀b k,af b=some k->cT q k=false->aA b=some k
def GV(C:∀b,af b≠some []):Rel q af (af.iy q nk):=⟨C,λ_ h=>bw.Sl h,λ_ _ h D=>bw.ZI h D⟩
def Rel.tr(C:Rel q af aA):Tr w w af aA ρ ρ (cT q) (λ_=>false):=
 ⟨dg _,λb _ hl=>⟨rfl,C.none b hl⟩,λb k hl D=>⟨rfl,C.jr b k hl D⟩,λ_ _=>rfl,λj i s x q=>L5 (by simp),λb hb=>absurd hb (C.ne b)⟩
def RV.rel(C:Rel q af aA){k:aa Nat}{x:V}{v:Value}(h:RV w B af k x v)(D:cT q k=false\/x.aH=true):RV w B aA k x v:=h.tr (ρ:=λ_=>.dQ undef) C.tr D.symm
def ajL(C:Rel q af aA)(k:aa Nat)(u:Value)(D:cT q k=false)(h:c9 w af ρ k=some u):c9 w aA ρ k=some u:=R8 C.tr k u (.inr D) (R9 k) h
def eX.rel(C:Rel q af aA){cs:aa Lf}{us:Array Value}(h:eX w B af ρ cs us):eX w B aA ρ (cs.map (Lf.drop q)) us:=h.tr C.tr (v8 (λ_ h=>h) λ_ _=>rfl)
def RA.rel(C:Rel q af aA){x:A}{u:Value}(h:RA w B af ρ x u):RA w B aA ρ (x.drop q) u:=h.tr C.tr (v8 (λ_ h=>h) λ_ _=>rfl)
def eH.rel(C:Rel q af aA){r:Nat}(D:r≠q){x:aS}(h:eH w B af ρ r x):eH w B aA ρ r (x.drop q):=h.tr C.tr (v8 (λ_ h=>h) λ_ _=>rfl) (by simpa [cT]using D) rfl
def Rl.yj(h:Rl w0 N af ρ σ a w):∀b,af b≠some []:=λb hb=>(h.dj b [] hb).2.2 rfl
def Rl.rel(h:Rl w0 N af ρ σ a w)(E:Rel q af aA)(O:∀ b k,aA b=some k -> (∃ D,af b=some D)/\k≠[]):Rl w0 N aA ρ (σ.drop q) a w:=by
 refine⟨h.below,λb k T=>?_,λr x C=>?_,λk=>(h.tmp k).rel E,h.size,h.defers,h.fix,h.cS⟩
 ·obtain⟨⟨D,hl⟩,Y⟩:=O b k T;have:=h.dj b D hl;simp_all
 ·have C:(bif Nat.beq r q then none else (σ.m r).map _)=some x:=C;cases hb:Nat.beq r q with
  |true=>simp_all
  | false=>
   rw[hb]at C;have U:r≠q:=by rintro rfl;simp at hb
   cases I:σ.m r with
   |none=>simp_all
   | some y=>
    rw[I]at C;injection C with C;subst C;exact(h.root r y I).rel E U
def Rl.ajM{z:V}(h:Rl w0 N af ρ σ a w)(O:σ.m q=some (.sl z))(T:nk≠[]):∃ u,ρ q = .dQ u/\Rl w0 N (af.iy q nk) ρ (σ.drop q) a w/\RV w w0.heap.size (af.iy q nk) nk z u:=by
 have E:=h.yj;have I:=h.root q _ O;generalize C:aS.sl z=x at I;cases I with
 |az=>cases C
 |mp=>cases C
 |gh=>cases C
 | sl u y U Y=>
  injection C with C;subst C
  refine⟨u,U,h.rel (GV E) λb k D=>?_,?_⟩
  ·unfold bw.iy at D;cases hl:af b with
   |none=>simp_all
   | some Z=>
    rw[hl]at D;injection D with D;subst D;exact⟨⟨Z,rfl⟩,ZG T (λe=>E b (by rw[hl,e]))⟩
  ·have:=Y.iy (q:=q) (nk:=nk) E
   rwa [ZF]at this
def iJ(r:Nat)(key:Nat->aa Nat):Nat->Nat->aa Lf->S->aj (aa V×S)
 |_,_,[],σ=>some ([],σ)
 |f+1,j,.v x::xs,σ=>(iJ r key f (j+1) xs σ).map λp=>(x::p.1,p.2)
 | f+1,j,.own [q] :: xs,σ=>match σ.m q with
  |some (.sl z)=>bif Nat.beq q r then none else (iJ r key f (j+1) (xs.map (Lf.drop q)) (σ.drop q)).map λp=>(z::p.1,p.2)
  |_=>none
 |_,_,_,_=>none
def L6{r:Nat}{key:Nat->aa Nat}(Y:∀ j,cT r (key j)=true):∀ (f j:Nat) (xs:aa Lf) (σ E:S) (I:aa V),iJ r key f j xs σ=some (I,E)->∀ af ρ a w,Rl w0 N af ρ σ a w->∀ us:aa Value,eX w w0.heap.size af ρ xs us.toArray->
  ∃ aA,Rl w0 N aA ρ E a w/\I.length=xs.length/\(∀ (n:Nat) x,I[n]?=some x->∃ u,us[n]?=some u/\RV w w0.heap.size aA (key (j+n)) x u)/\(∀ k x v,cT r k=true->RV w w0.heap.size af k x v->RV w w0.heap.size aA k x v)/\
   (∀x,σ.m r=some (.sl x)->E.m r=some (.sl x))/\(∀k u,cT r k=true->c9 w af ρ k=some u->c9 w aA ρ k=some u)/\(∀b,af b=some [r]->aA b=some [r])/\(∀b,af b=none->aA b=none)
 | 0,j,[],σ,E,I,h,af,ρ,a,w,hR,us,O=>by
  simp only[iJ,jb,Prod.mk.injEq]at h;obtain⟨rfl,rfl⟩:=h;exact⟨af,hR,rfl,by simp,λ_ _ _ _ h=>h,λ_ h=>h,λ_ _ _ h=>h,λ_ h=>h,λ_ h=>h⟩
 | f+1,j,[],σ,E,I,h,af,ρ,a,w,hR,us,O=>by
  simp only[iJ,jb,Prod.mk.injEq]at h;obtain⟨rfl,rfl⟩:=h;exact⟨af,hR,rfl,by simp,λ_ _ _ _ h=>h,λ_ h=>h,λ_ _ _ h=>h,λ_ h=>h,λ_ h=>h⟩
 |0,j,x::xs,σ,E,I,h,af,ρ,a,w,hR,us,O=>by simp[iJ]at h
 | f+1,j,x :: xs,σ,E,I,h,af,ρ,a,w,hR,us,O=>by
  obtain⟨U,us,rfl⟩:∃ U L7,us=U :: L7:=by
   cases us with
   |nil=>have:=O.1;simp at this
   |cons U us=>exact⟨_,_,rfl⟩
  have Z:eB w w0.heap.size af ρ x U:=by
   obtain⟨u,e,h⟩:=O.2 0 x rfl;simp at e;subst e;exact h
  have m0:eX w w0.heap.size af ρ xs us.toArray:=⟨by have:=O.1;simpa using this,λn y C=>by
   obtain⟨u,e,h⟩:=O.2 (n+1) y C;exact⟨u,by simpa using e,h⟩⟩
  cases x with
  | v x=>
   simp only[iJ,Option.map_eq_some_iff]at h;obtain⟨⟨Sn,tD⟩,h,e⟩:=h;simp only[Prod.mk.injEq]at e;obtain⟨rfl,rfl⟩:=e;obtain⟨aA,h1,h2,h3,D,h5⟩:=L6 Y f (j+1) xs σ tD Sn h af ρ a w hR us m0
   refine⟨aA,h1,by simp[h2],λn y C=>?_,D,h5⟩
   cases n with
   | zero=>
    simp at C;subst C;refine⟨U,rfl,D _ _ _ (Y _) (Z.2.key Z.1)⟩
   | succ n=>
    obtain⟨u,e,h⟩:=h3 n y (by simpa using C);exact⟨u,by simpa using e,by rw[show j+(n+1)=j+1+n by omega];exact h⟩
  |dead=>simp[iJ]at h
  | own k=>
   match k,Z,h with
   |[],_,h=>simp[iJ]at h
   |_::_::_,_,h=>simp[iJ]at h
   | [q],Z,h=>
    simp only[iJ]at h;split at h
    ·rename_i z hz;cases So:Nat.beq q r with
     |true=>rw[So]at h;cases h
     | false=>
      rw[So,av,Option.map_eq_some_iff]at h;obtain⟨⟨Sn,tD⟩,ajN,e⟩:=h;simp only[Prod.mk.injEq]at e;obtain⟨rfl,rfl⟩:=e;have cA:q≠r:=by rintro rfl;simp at So
      have ZJ:key j≠[]:=by intro e;have:=Y j;rw[e]at this;simp[cT]at this
      obtain⟨u,ck,dL,kA⟩:=hR.ajM hz ZJ;have GW:u=U:=by
       have D:=Z.2;simp only[c9,ck]at D;injection D
      subst GW;have oK:∀ k,cT r k=true->cT q k=false:=by
       intro k T;cases hq:cT q k with
       |false=>rfl
       | true=>
        exfalso;have h1:=ZE T;have h2:=ZE hq;exact cA (Zv h1 h2)
      obtain⟨aA,h1,h2,h3,D,h5,h6,h7,h8⟩:=L6 Y f (j+1) (xs.map (Lf.drop q)) (σ.drop q) tD Sn ajN _ ρ a w dL us (m0.rel (GV hR.yj))
      refine⟨aA,h1,by simp[h2],λn y C=>?_,λk x v T hv=>D _ _ _ T (hv.rel (GV hR.yj) (.inl (oK k T))),λx hx=>h5 x ?_,λk v T hv=>h6 k v T (ajL (GV hR.yj) k v (oK k T) hv),λb hb=>h7 b (bw.ZI hb (by simpa [cT]using λe=>cA e.symm)),λb hb=>h8 b (bw.Sl hb)⟩
      ·cases n with
       | zero=>
        simp at C;subst C;exact⟨u,rfl,D _ _ _ (Y _) kA⟩
       | succ n=>
        obtain⟨u,e,h⟩:=h3 n y (by simpa using C);exact⟨u,by simpa using e,by rw[show j+(n+1)=j+1+n by omega];exact h⟩
      ·have hb:Nat.beq r q=false:=by
        cases hb:Nat.beq r q with
        |false=>rfl
        |true=>exact absurd (cJ hb).symm cA
       show (bif Nat.beq r q then none else (σ.m r).map (aS.drop q))=_;rw[hb,hx];rfl
    ·cases h
end
def oL:Value->Lf
 |.int k n=>.v (.int k n)
 |.bool b=>.v (.bool b)
 |.string s=>.v (.str s)
 |.slice none 0 0=>.v .nil
 |_=>.dead
def zeroV:Value->aj V
 |.int k n=>some (.int k n)
 |.bool b=>some (.bool b)
 |.string s=>some (.str s)
 |.slice none 0 0=>some .nil
 |_=>none
def GX:aa Value->aj (aa V)
 |[]=>some []
 | v :: C=>match zeroV v,GX C with
  |some x,some xs=>some (x::xs)
  |_,_=>none
def zeroOf(P:Program)(e:TypeId):aj Value:=(P.info? e).bind (·.zero)
def bytesOf(P:Program)(e:TypeId):aj Nat:=(P.info? e).map (·.bytes)
def gZ{X:Type}(N:Nat)(σ:S)(d:Nat)(x:aS)(y:A)(k:S->aj X):aj X:=
 bif Nat.blt d N then k (((σ.drop d).root d x).set d y)else none
def r8{X:Type}(P:Program)(N:Nat)(σ:S)(d:Nat)(e:TypeId)(k:S->aj X):aj X:=
 match zeroOf P e with
 |some z=>gZ N σ d (.az (z.cells.toList.map oL)) (.aG d 0) k
 |none=>none
def wj(P:Program)(t:TypeId):aj (TypeId×TC):=
 match qV P t with
 |none=>none
 | some e=>match Zo e,jF P e,bytesOf P e with
  |some tc,some n,some b=>bif Nat.beq n (aC tc)&&Nat.ble b 65536 then some (e,tc)else none
  |_,_,_=>none
def L8(P:Program)(e:TypeId)(tc:TC):aj (T tc):=
 match zeroOf P e with
 |none=>none
 | some z=>match GX z.cells.toList with
  |none=>none
  |some C=>dec tc (full tc) C
def Aa{X:Type}(P:Program)(N:Nat)(σ:S)(d:Nat)(t:TypeId)(l c:A)(k:S->aj X):aj X:=
 match wj P t,l,c with
 | some (e,tc),.lf (.v (.int _ n)),.lf (.v (.int _ c))=>match L8 P e tc with
  |none=>none
  |some z=>if 0<=n/\n<=c/\c<1073741824 then gZ N σ d (.sl (.sl tc (full tc+2) false (List.replicate n.toNat z))) (.lf (.own [d])) k else none
 |_,_,_=>none
def V.L9(t:TC):V->aj (aa (T t))
 |.sl C _ _ l=>if h:C=t then some (h ▸ l)else none
 |.nil=>some []
 |_=>none
def uS{X:Type}(P:Program)(N:Nat)(σ:S)(d:Nat)(t:TypeId)(x y:A)(k:S->aj X):aj X:=
 match wj P t with
 | some (e,tc)=>bif Nat.beq (full tc) 0&&(zeroOf P e).any (λz=>Nat.beq z.cells.size (aC tc))then tw σ y λC=>(match C.L9 tc with
  |none=>none
  | some l2=>match x with
   |.lf (.v .nil)=>bif bX l2.length then gZ N σ d (.sl (.sl tc 2 false l2)) (.lf (.own [d])) k else none
   | .lf (.own [r])=>(match σ.m r with
    |some (.sl (.sl D (o+2) q l))=>if h:D=tc then (bif Nat.blt d N&&(Nat.blt r N ||Nat.ble 60000 r)&&bX (l.length+l2.length)then k (((σ.drop r).root r (.sl (.sl tc (o+2) false ((h ▸ l)++l2)))).set d (.lf (.own [r])))else none)else none
    |_=>none)
   |_=>none)else none
 |none=>none
section
variable {P:Program} {w w':World} {w0:Wd} {B N:Nat} {af aA:bw} {ρ ρ':Nat->Loc} {σ:S} {a:Act} {X:Type} {d:Nat} {r:X} {q:Nat} {o:Oper}
def Ma(v:Value):eB w B af ρ (oL v) v:=by
 unfold oL;split
 ·exact⟨rfl,.int _ _ _⟩
 ·exact⟨rfl,.bool _ _⟩
 ·exact⟨rfl,.str _ _⟩
 ·exact⟨rfl,.nil _⟩
 ·trivial
def ZK{v:Value}{x:V}(h:zeroV v=some x)(q:aa Nat):RV w B af q x v:=by
 unfold zeroV at h;split at h<;>first|(injection h with h;subst h;first|exact .int _ _ _|exact .bool _ _|exact .str _ _|exact .nil _)|cases h
def Sq:∀ (C:aa Value) (xs:aa V),GX C=some xs -> xs.length=C.length /\ ∀ (j:Nat) x,xs[j]?=some x -> ∃ v,C[j]?=some v/\zeroV v=some x
 | [],xs,h=>by
  simp[GX]at h;simp_all
 | v :: C,xs,h=>by
  unfold GX at h;split at h
  ·rename_i y ys E D;injection h with h;subst h;obtain⟨I,O⟩:=Sq C ys D
   grind
  ·cases h
def jt.ZL(w0:Wd)(w:World)(o:Obj)(h:w0.heap.size<=w.heap.size):jt w0 w (w.alloc o):=.of ((Below.refl w0.heap.size w).alloc h o) (dg _)
def Rl.Cf{c:Array Value}{e:TypeId}{x:aS}{ρ':Nat -> Loc}(h:Rl w0 N af ρ σ a w)(D:w0.F d=none)(E:∀ r,r≠d -> ρ' r=ρ r)
  (I:eH (w.alloc (.cells c e)) w0.heap.size (bJ af w.heap.size (some [d])) ρ' d x):Rl w0 N (bJ af w.heap.size (some [d])) ρ' ((σ.drop d).root d x) a (w.alloc (.cells c e)):=by
 refine h.z0 D (jt.ZL w0 w _ h.below.size) ⟨by simp,λb hb _=>Below.heap_alloc w _ b hb,λb hb=>cy _ _ _ (by omega),λb hb=>(h.dj b [] hb).2.2 rfl⟩ (λb k hb C=>?_) E I
 by_cases e:b=w.heap.size
 ·subst e;rw[bM]at C;injection C with C;subst C;simp_all
 ·rw[cy _ _ _ e]at C;have:=(h.dj b k C).2.1;omega
def nY{x:aS}{y:A}{k:S -> aj X}(h:gZ N σ d x y k=some r):d<N/\k (((σ.drop d).root d x).set d y)=some r:=by
 unfold gZ at h;cases C:Nat.blt d N with
 |false=>simp_all
 |true=>simp_all
def ajO{e:TypeId}{k:S -> aj X}(h:r8 P N σ d e k=some r):∃ E,k E=some r /\ ∀ af ρ a w,Rl w0 N af ρ σ a w -> ∃ w' aA ρ' v,(Instr.alloc e true (.tuple #[])).run P w = .ok v w'/\Rl w0 N aA ρ' E (a.put (some d) v) w':=by
 unfold r8 at h;split at h
 ·rename_i z D;obtain⟨I,h⟩:=nY h
  refine⟨_,h,λaf ρ a w hR=>?_⟩
  have U:(Instr.alloc e true (.tuple #[])).run P w = .ok (.pointer (some ⟨w.heap.size,0,none⟩)) (w.alloc (.cells z.cells e)):=by
   unfold zeroOf at D;cases hi:P.info? e with
   |none=>simp_all
   | some i=>
    have D:i.zero=some z:=by simpa [hi]using D
    simp[Instr.alloc,zeroValue,typeInfo,hi,D,newVar,newRow]
  refine⟨_,bJ af w.heap.size (some [d]),bJ ρ d (.az w.heap.size 0),_,U,(hR.Cf (hR.cS d (.inl I)) (λr Y=>cy _ _ _ Y) ?_).set ⟨w.heap.size,0,bM _ _ _,rfl⟩ I⟩
  refine .az w.heap.size 0 z.cells e _ (λj=>z.cells.getD j undef) (bM _ _ _) (bM _ _ _) (heap_alloc_new w _) (by simp) λj x C=>?_
  rw[eO]at C;cases O:z.cells.toList[j]? with
  |none=>simp_all
  | some v=>
   rw[O]at C;injection C with C;subst C;have T:z.cells[j]?=some v:=by simpa using O
   have Z:z.cells.getD j undef=v:=by rw[iO,T];rfl
   rw[Z,fO];exact⟨T,Ma v⟩
 ·cases h
def Ab{t e:TypeId}{tc:TC}(h:wj P t=some (e,tc)):P.underlying t=some (.slice e)/\tid tc=e /\ ∃ i,P.info? e=some i/\i.size=aC tc/\i.bytes <= 65536:=by
 unfold wj at h;split at h
 ·cases h
 ·rename_i E C;split at h
  ·rename_i I n b O T hb;cases D:(Nat.beq n (aC I)&&Nat.ble b 65536)with
   |false=>simp_all
   | true=>
    rw[D,aq]at h;injection h with h;injection h with U Y;subst U Y;rw[aM]at D;refine⟨?_,ajs O,?_⟩
    ·unfold qV at C;split at C
     ·simp_all
     ·cases C
    ·unfold jF at T;unfold bytesOf at hb;cases hi:P.info? E with
     |none=>simp_all
     |some i =>simp_all
  ·cases h
def ZM(z:Array Value)(n i j:Nat)(C:j<z.size)(h:i*z.size+j<n):(madeCells z n)[i*z.size+j]?=some z[j]:=by
 have D:(i*z.size+j) % z.size=j:=by rw[Nat.add_comm,Nat.add_mul_mod_self_right,Nat.mod_eq_of_lt C]
 simp[madeCells,Array.getElem?_map,Array.getElem?_range,h,if_true,Option.map_some,D];simp[C]
def ajP{t:TypeId}{l c:A}{k:S -> aj X}(h:Aa P N σ d t l c k=some r):∃ dc,k dc=some r /\ ∀ af ρ a w,Rl w0 N af ρ σ a w -> ∀ u v,RA w w0.heap.size af ρ l u -> RA w w0.heap.size af ρ c v ->
  ∃w' aA ρ' x,(Instr.makeSlice t u v).run P w = .ok x w'/\Rl w0 N aA ρ' dc (a.put (some d) x) w':=by
 unfold Aa at h;split at h
 ·rename_i e tc kl n kc c qj;split at h
  ·cases h
  ·rename_i z D;split at h
   ·rename_i hb;obtain⟨hd,h⟩:=nY h
    refine⟨_,h,λaf ρ a w hR u v hu T=>?_⟩
    obtain rfl:=hu.2.gY;obtain rfl:=T.2.gY;obtain⟨gD,ht,i,hi,gM,kf⟩:=Ab qj;unfold L8 at D;split at D
    ·cases D
    ·rename_i C Ea;split at D
     ·cases D
     ·rename_i vs kB;have qk:i.zero=some C:=by unfold zeroOf at Ea;simpa [hi]using Ea
      obtain⟨tE,jv⟩:=Sq _ _ kB;have U:=mj tc (full tc) vs z D;have O:C.cells.size=aC tc:=by rw[<- kX tc (full tc) z,<- U.1,tE];simp
      have RQ:(i.bytes:Int)*c <= 281474976710656:=by
       have h1:(i.bytes:Int) <= 65536:=by omega
       have h2:i.bytes*c <= 65536*c:=Int.mul_le_mul_of_nonneg_right h1 (by omega);omega
      have eR:=run_make (P:=P) w t e i C gD hi qk kl kc n c hb.1 hb.2.1 RQ (by omega);rw[gM,<- O]at eR
      refine⟨_,bJ af w.heap.size (some [d]),bJ ρ d (.dQ (.slice (some ⟨w.heap.size,0,none⟩) n.toNat c.toNat)),_,eR,(hR.Cf (hR.cS d (.inl hd)) (λr hr=>cy _ _ _ hr) ?_).set ⟨rfl,?_⟩ hd⟩
      ·refine .sl _ _ (bM _ _ _) ?_;have hlen:(List.replicate n.toNat z).length=n.toNat:=by simp
       have:=RV.own (w:=w.alloc (.cells (madeCells C.cells (c.toNat*C.cells.size)) e)) (B:=w0.heap.size) (af:=bJ af w.heap.size (some [d])) [d] tc (full tc) false (List.replicate n.toNat z) w.heap.size c.toNat (madeCells C.cells (c.toNat*C.cells.size)) (λ_ j=>C.cells.getD j undef)
        (bM _ _ _) (by rw[ht];exact heap_alloc_new w _) (by rw[size_madeCells,O]) (by rw[hlen];omega) ⟨by unfold maxLen;omega,λh=>by cases h⟩ (λY h' j x E=>?_) (λY h' j x E=>?_)
       ·rw[hlen]at this;exact this
       ·rw[List.getElem_replicate]at E;have I:j<aC tc:=by have:=(dZ.1 E).1;rwa [kX]at this
        rw[hlen]at h';rw[<- O]at I;rw[<- O,ZM C.cells _ Y j I (by
         have:(Y+1)*C.cells.size <= c.toNat*C.cells.size:=iP _ (by omega);rw[iZ]at this;omega)]
        simp[iO,I]
       ·rw[List.getElem_replicate]at E;have I:j<(enc tc (full tc) z).length:=(dZ.1 E).1;rw[<- U.1]at I;have Z:=bK I;generalize vs[j]=y at Z;obtain⟨v,T,Sr⟩:=jv j y Z;have uN:C.cells[j]?=some v:=by simpa using T
        have hg:C.cells.getD j undef=v:=by rw[iO,uN];rfl
        rw[hg];exact(ZK Sr _).wk (U.2 j y x Z E)
      ·simp[c9,bM]
   ·cases h
 ·cases h
def Eb(t:TC)(h:full t=0)(o C:Nat)(x:T t):enc t o x=enc t C x:=by
 have key:∀ o,enc t o x=enc t 0 x:=by
  intro o;rw[Zp t o x];have:=zR t o x h
  conv=>lhs;rw[<- List.map_id (enc t o x)]
  apply pW;intro y D;have E:=this y D;cases y<;>first|rfl|cases E
 simp_all
def yl(u:Nat->Nat->Value)(n s:Nat):aa Value:=(List.range (n*s)).map λk=>u (k / s) (k % s)
def ZN(u:Nat -> Nat -> Value)(n s i j:Nat)(hi:i<n)(C:j<s):(yl u n s)[i*s+j]?=some (u i j):=by
 have D:i*s+j<n*s:=by
  have:(i+1)*s <= n*s:=iP _ hi
  grind
 have E:(i*s+j) / s=i:=by rw[Nat.add_comm,Nat.add_mul_div_right _ _ (by omega),Nat.div_eq_of_lt C,fO]
 have I:(i*s+j) % s=j:=by rw[Nat.add_comm,Nat.add_mul_mod_self_right,Nat.mod_eq_of_lt C]
 simp[yl,D,E,I]
def Mb(u:Nat -> Nat -> Value)(n s k:Nat)(v:Value)(D:0<s)(h:(yl u n s)[k]?=some v):∃ i j,k=i*s+j/\i<n/\j<s/\v=u i j:=by
 have C:k<n*s:=by
  have:=(dZ.1 h).1
  simpa [yl]using this
 refine⟨k / s,k % s,by rw[Nat.mul_comm];exact(Nat.div_add_mod k s).symm,Nat.div_lt_of_lt_mul (by rw[Nat.mul_comm];exact C),Nat.mod_lt _ D,?_⟩;simp[yl,eO,List.getElem?_range C,Option.map_some,jb]at h;simp_all
def Cg(t:TC)(o:Nat)(x:T t)(j:Nat)(C:j<aC t):∃y,(enc t o x)[j]?=some y:=⟨_,bK (by rw[kX];exact C)⟩
def ym(t:TC)(l:aa (T t))(C:aa Value):Prop:=
 ∀i (hi:i<l.length) (o j:Nat) x,(enc t o l[i])[j]?=some x->∃v,C[i*aC t+j]?=some v/\v.oneCell'=true/\∀(w':World) (B':Nat) (aA:bw) (D:aa Nat),RV w' B' aA D x v
def RV.reads{q:aa Nat}{t:TC}{g:Nat}{qn:Bool}{l:aa (T t)}{u:Value}(h:RV w B af q (.sl t g qn l) u)(Y:full t=0):
  ∃A c news,u = .slice A l.length c/\Reads w w.heap.size (aC t) A l.length news/\(∀v∈news,v.oneCell'=true)/\ym t l news:=by
 cases h with
 |eS=>exact⟨none,0,[],rfl,Reads.none_,by simp,λi hi=>by simp at hi⟩
 |fU=>exact⟨_,_,[],rfl,⟨by simp,λh=>by simp at h⟩,by simp,λi hi=>by simp at hi⟩
 |gj=>exact⟨_,_,[],rfl,⟨by simp,λh=>by simp at h⟩,by simp,λi hi=>by simp at hi⟩
 | aH _ _ _ _ _ b off cap us ho hl hb h1 kz hc O=>
  have U:∀ i (hi:i<l.length) j,j<aC t -> (us i j).oneCell'=true:=by
   intro i hi j C;obtain⟨y,I⟩:=Cg t g l[i] j C;exact(O i hi j y I).one
  refine⟨_,cap,yl us l.length (aC t),rfl,⟨by simp[yl],λhn=>⟨b,off,rfl,hb,λk v E=>?_⟩⟩,λv E=>?_,λi hi o j x D=>?_⟩
  ·obtain⟨i,j,rfl,hi,C,rfl⟩:=Mb us _ _ k v (oH t) E;obtain⟨y,I⟩:=Cg t g l[i] j C;exact hc i hi j y I
  ·obtain⟨k,Z⟩:=List.mem_iff_getElem?.1 E;obtain⟨i,j,rfl,hi,C,rfl⟩:=Mb us _ _ k v (oH t) Z;exact U i hi j C
  ·have C:j<aC t:=by have:=(dZ.1 D).1;rwa [kX]at this
   rw[Eb t Y o g]at D
   refine⟨us i j,ZN us _ _ i j hi C,U i hi j C,λw' B' aA q'=>(O i hi j x D).uO (zR t g l[i] Y x (gT D))⟩
 | own _ _ o _ _ b cap cs us hl hh hs hn hm hc O=>
  have U:∀ i (hi:i<l.length) j,j<aC t -> (us i j).oneCell'=true:=by
   intro i hi j C;obtain⟨y,I⟩:=Cg t o l[i] j C;exact(O i hi j y I).one
  refine⟨_,cap,yl us l.length (aC t),rfl,⟨by simp[yl],λhn=>⟨b,0,rfl,(iY.1 hh).1,λk v E=>?_⟩⟩,λv E=>?_,λi hi o' j x D=>?_⟩
  ·obtain⟨i,j,rfl,hi,C,rfl⟩:=Mb us _ _ k v (oH t) E;obtain⟨y,I⟩:=Cg t o l[i] j C;rw[fO,cell_of_row w b _ cs _ _ hh];simp_all
  ·obtain⟨k,Z⟩:=List.mem_iff_getElem?.1 E;obtain⟨i,j,rfl,hi,C,rfl⟩:=Mb us _ _ k v (oH t) Z;exact U i hi j C
  ·have C:j<aC t:=by have:=(dZ.1 D).1;rwa [kX]at this
   rw[Eb t Y o' o]at D
   refine⟨us i j,ZN us _ _ i j hi C,U i hi j C,λw' B' aA q'=>(O i hi j x D).uO (zR t o l[i] Y x (gT D))⟩
def RV.ZO{q:aa Nat}{t:TC}{o:Nat}{D:Bool}{l:aa (T t)}{u:Value}(h:RV w B af q (.sl t (o+2) D l) u)(E:full t=0){B':Nat}(hB:∀ b,af b=some q -> B' <= b):
  ∃xs,w.ownsRow B' (tid t) (aC t) u l.length xs/\(∀b,u.ownBlock=some b -> af b=some q)/\(D=true -> u.ownBlock≠none)/\ym t l xs:=by
 cases h with
 |fU=>omega
 |gj=>omega
 |eS=>exact⟨[],⟨by simp,.inl ⟨rfl,rfl⟩⟩,by simp[Value.ownBlock],by simp,λi hi=>by simp at hi⟩
 |aH _ _ _ _ _ _ _ _ _ ho=>omega
 | own _ _ _ _ _ b cap cs us hl O U Y Z hc I=>
  refine⟨cs.toList.take _,⟨?_,.inr ⟨b,cap,cs,rfl,hB b hl,O,Y,Z.1,U,rfl⟩⟩,λb' yo=>?_,λ_=>by simp[Value.ownBlock],λi hi o' j x C=>?_⟩
  ·simp_all
  ·have:b=b':=by simpa [Value.ownBlock]using yo
   simp_all
  ·have hj:j<aC t:=by have:=(dZ.1 C).1;rwa [kX]at this
   have dK:i*aC t+j<l.length*aC t:=by
    have:(i+1)*aC t <= l.length*aC t:=iP _ hi;rw[iZ]at this;omega
   rw[Eb t E o' o]at C
   refine⟨us i j,?_,(I i hi j x C).one,λw' B' aA q'=>(I i hi j x C).uO (zR t o l[i] E x (gT C))⟩
   grind
def ym.append{t:TC}{l l2:aa (T t)}{xs ys:aa Value}(h:ym t l xs)(E:ym t l2 ys)(hl:xs.length=l.length*aC t):ym t (l++l2) (xs++ys):=by
 intro i hi o j x C;by_cases D:i<l.length
 ·rw[List.getElem_append_left D]at C;obtain⟨v,I,r⟩:=h i D o j x C
  grind
 ·rw[List.getElem_append_right (by omega)]at C;have O:i-l.length<l2.length:=by rw[List.length_append]at hi;omega
  obtain⟨v,I,r⟩:=E _ O o j x C;refine⟨v,?_,r⟩;have e:i*aC t+j=xs.length+((i-l.length)*aC t+j):=by
   rw[hl,Nat.sub_mul];have:l.length*aC t <= i*aC t:=iP _ (by omega);omega
  grind
def Ss{q:aa Nat}{t:TC}{o:Nat}{l:aa (T t)}{u:Value}{xs:aa Value}{B':Nat}(h:w.ownsRow B' (tid t) (aC t) u l.length xs)(D:ym t l xs)(hl:∀ b,u.ownBlock=some b -> af b=some q):
  RV w B af q (.sl t (o+2) false l) u:=by
 rcases h.2 with ⟨rfl,E⟩|⟨b,cap,cs,rfl,hB,I,O,U,Y,ht⟩
 ·have:=List.eq_nil_of_length_eq_zero E;subst this;exact .eS _ _ _
 ·have nX:∀ i _ j x,(enc t o l[i])[j]?=some x -> ∃ v,cs[i*aC t+j]?=some v /\ ∀ w' B' aA Z,RV w' B' aA Z x v:=by
   intro i hi j x C;obtain⟨v,hv,_,r⟩:=D i hi o j x C
   grind
  refine .own q t o false l b cap cs (λi j=>(cs[i*aC t+j]?).getD undef) (hl b rfl) I Y O ⟨U,λh=>by cases h⟩ (λi hi j x C=>?_) (λi hi j x C=>?_)
  ·grind
  ·grind
def Rl.append{t e ty:TypeId}{tc:TC}{i:TypeInfo}{z:Value}{rr o g:Nat}{q qn:Bool}{l l2:aa (T tc)}{u v:Value}{q':aa Nat}{Bx:Nat}{Su:bw}(h:Rl w0 N af ρ σ a w)(hF:w0.F rr=none)(gD:P.underlying t=some (.slice e))(ht:tid tc=e)(hi:P.info? e=some i)(hz:i.zero=some z)
  (gM:i.size=aC tc) (kf:i.bytes <= 65536) (nP:z.cells.size=aC tc) (hf:full tc=0) (hd:RV w w0.heap.size af [rr] (.sl tc (o+2) q l) u) (hs:RV w Bx Su q' (.sl tc g qn l2) v) (hlen:l.length+l2.length<1073741824):
  ∃C w' aA,(Builtin.append_ #[t,t] ty #[u,v]).run P w = .ok C w'/\Rl w0 N aA (bJ ρ rr (.dQ C)) ((σ.drop rr).root rr (.sl (.sl tc (o+2) false (l++l2)))) a w'/\mX C=true:=by
 subst ht;obtain⟨xs,Ac,U,GY,hU⟩:=hd.ZO hf (B':=0) (λb _=>Nat.zero_le b);obtain⟨A,c,news,rfl,uT,qm,GZ⟩:=hs.reads hf;have gX:(l.length+l2.length)*i.bytes <= 140737488355328:=by
  have h1:(l.length+l2.length)*i.bytes <= 1073741824*65536:=Nat.mul_le_mul (by omega) kf;omega
 obtain⟨C,w',eR,I,E,jc⟩:=RO (P:=P) w 0 t ty (tid tc) i z (aC tc) i.bytes gD hi hz gM rfl nP (oH tc) u l.length xs Ac _ A l2.length c news uT qm (by unfold maxLen;omega) gX (Nat.zero_le _);have G0:(l++l2).length=l.length+l2.length:=List.length_append;rw[<- G0]at I;have Ch:=hU.append GZ Ac.1;have gC:mX C=true:=by rcases I.2 with ⟨rfl,_⟩|⟨_,_,_,rfl,_⟩<;>rfl
 have Y:Below 0 w w':=(Below.refl 0 w).grown E (Nat.zero_le _) (λ_ _=>Nat.zero_le _);have tF:jt w0 w w':=⟨Y.os,Y.tape,Y.output,Y.size,λk D hL=>E.block k (Nat.lt_of_lt_of_le D h.below.size) (λO=>by
  rcases(h.dj k _ (U k O.symm)).1 with h1|h1
  ·exact absurd D (Nat.not_lt.2 h1)
  ·exact h1 hL)⟩
 by_cases Z:C.ownBlock=some w.heap.size
 ·have dK:w.heap.size<w'.heap.size:=by
   rcases I.2 with ⟨rfl,_⟩|⟨b,cap,cs,rfl,_,hh,_⟩
   ·cases Z
   ·have:b=w.heap.size:=by simpa [Value.ownBlock]using Z
    grind
  refine⟨C,w',bJ af w.heap.size (some [rr]),eR,h.z0 hF tF ⟨E.size,λb hb cA=>E.block b hb (λO=>cA (U b O.symm)),λb hb=>cy _ _ _ (by omega),λb hb=>(h.dj b [] hb).2.2 rfl⟩ (λb k hb D=>?_) (λr hr=>cy _ _ _ hr) (.sl C _ (bM _ _ _) (Ss I Ch (λb hb=>?_))),gC⟩
  ·by_cases e:b=w.heap.size
   ·subst e;rw[bM]at D
    grind
   ·rw[cy _ _ _ e]at D;have:=(h.dj b k D).2.1;omega
  ·rw[Z]at hb;injection hb with hb;subst hb;exact bM _ _ _
 ·have Sw:C.ownBlock=u.ownBlock:=by
   rcases jc with jc|jc
   ·exact jc
   ·exact absurd jc Z
  refine⟨C,w',af,eR,h.z0 hF tF ⟨E.size,λb hb cA=>E.block b hb (λO=>cA (U b O.symm)),λ_ _=>rfl,λb hb=>(h.dj b [] hb).2.2 rfl⟩ (λb k hb D=>?_) (λr hr=>cy _ _ _ hr) (.sl C _ (bM _ _ _) (Ss I Ch (λb hb=>U b (by rw[<- Sw];exact hb)))),gC⟩
  have:=(h.dj b k D).2.1;omega
def Sx{t:TC}{x:V}{l:aa (T t)}(h:x.L9 t=some l){q:aa Nat}{u:Value}(C:RV w B af q x u):∃ g D,RV w B af q (.sl t g D l) u:=by
 unfold V.L9 at h;split at h
 ·grind
 ·injection h with h;subst h;cases C;exact⟨0,false,.eS _ _ _⟩
 ·cases h
def Sz{x:Lf}{k:V -> aj X}(h:qg σ x k=some r):∃ y,(∀ af ρ a w,Rl w0 N af ρ σ a w -> ∀ u,eB w w0.heap.size af ρ x u -> ∃ q,RV w w0.heap.size af q y u)/\k y=some r:=by
 cases x with
 |v z=>exact⟨z,λaf ρ a w _ u C=>⟨[],C.2⟩,h⟩
 |dead=>cases h
 | own q=>
  obtain⟨z,D,h⟩:=tv q _ h
  refine⟨z,λaf ρ a w hR u C=>?_,h⟩
  obtain⟨v,E,I⟩:=D.ok hR.root;have O:=C.2
  grind
def ZP{y:A}{k:V -> aj X}(h:tw σ y k=some r):∃ z,(∀ af ρ a w,Rl w0 N af ρ σ a w -> ∀ u,RA w w0.heap.size af ρ y u -> ∃ q B' aA,RV w B' aA q z u)/\k z=some r:=by
 unfold tw at h;split at h
 ·obtain⟨z,C,D⟩:=Sz h;exact⟨z,λaf ρ a w hR u E=>let ⟨q,I⟩:=C af ρ a w hR u E;⟨q,_,_,I⟩,D⟩
 ·obtain⟨z,D,_,C⟩:=Zy h;exact⟨z,λaf ρ a w hR u E=>⟨[],0,_,C _ _ _ _ _ _ hR u E 0⟩,D⟩
 ·cases h
def ajQ{t ty:TypeId}{x y:A}{k:S -> aj X}(h:uS P N σ d t x y k=some r):∃ dc,k dc=some r /\ ∀ af ρ a w,Rl w0 N af ρ σ a w -> ∀ u v,RA w w0.heap.size af ρ x u -> RA w w0.heap.size af ρ y v ->
  ∃w' aA ρ' z,(Builtin.append_ #[t,t] ty #[u,v]).run P w = .ok z w'/\Rl w0 N aA ρ' dc (a.put (some d) z) w':=by
 unfold uS at h;split at h
 ·rename_i e tc qj;obtain⟨gD,ht,i,hi,gM,kf⟩:=Ab qj;cases T:(Nat.beq (full tc) 0&&(zeroOf P e).any (λz=>Nat.beq z.cells.size (aC tc)))with
  |false=>grind
  | true=>
   rw[T,aq]at h;rw[aM]at T;have hf:=cJ T.1;obtain⟨z,hz,U⟩:=(Option.any_eq_true _ _).1 T.2;have U:=cJ U;have qk:i.zero=some z:=by unfold zeroOf at hz;simpa [hi]using hz
   obtain⟨yv,Md,C⟩:=ZP (w0:=w0) (N:=N) h;clear h;split at C
   ·cases C
   ·rename_i l2 jv;split at C
    ·cases D:bX l2.length with
     |false=>grind
     | true=>
      rw[D,aq]at C;have D:l2.length<1073741824:=by simpa [bX]using D
      obtain⟨Y,h3⟩:=nY C
      refine⟨_,h3,λaf ρ a w hR u v O Z=>?_⟩
      have O:u = .slice none 0 0:=by cases O.2;rfl
      subst O;obtain⟨q',_,_,E⟩:=Md af ρ a w hR v Z;obtain⟨g,qn,E⟩:=Sx jv E;obtain⟨v',w',aA,eR,dL,gC⟩:=hR.append (ty:=ty) (rr:=d) (o:=0) (q:=false) (l:=[]) (hR.cS d (.inl Y)) gD ht hi qk gM kf U hf (.eS _ _ _) E (by simpa using D);exact⟨w',aA,_,v',eR,dL.set ⟨gC,by simp[c9,bM]⟩ Y⟩
    ·rename_i rr;split at C
     ·rename_i t' o q l hm;split at C
      ·rename_i nZ;subst nZ;cases D:(Nat.blt d N&&(Nat.blt rr N || Nat.ble 60000 rr)&&bX (l.length+l2.length))with
       |false=>grind
       | true=>
        rw[D,aq]at C;rw[aM,aM,dY]at D;have G1:l.length+l2.length<1073741824:=by simpa [bX]using D.2
        have Y:d<N:=by have:=cE D.1.1;omega
        have mZ:rr<N \/ 60000 <= rr:=D.1.2.imp (λh=>by have:=cE h;omega) (λh=>cE h)
        refine⟨_,C,λaf ρ a w hR u v O Z=>?_⟩
        obtain⟨q',_,_,E⟩:=Md af ρ a w hR v Z;obtain⟨g,qn,E⟩:=Sx jv E;have fk:=hR.root rr _ hm;generalize I:aS.sl (.sl t' (o+2) q l)=x at fk;cases fk with
        |az=>cases I
        |mp=>cases I
        |gh=>cases I
        | sl uu y ck hr=>
         injection I with I;subst I;have GW:uu=u:=by
          have h4:=O.2;simp only[c9,ck]at h4;simp_all
         subst GW;obtain⟨v',w',aA,eR,dL,gC⟩:=hR.append (ty:=ty) (hR.cS rr mZ) gD ht hi qk gM kf U hf hr E G1;exact⟨w',aA,_,v',eR,dL.set ⟨gC,by simp[c9,bM]⟩ Y⟩
      ·cases C
     ·cases C
    ·cases C
 ·cases h
def Rl.ZQ{t:TC}{g p:Nat}{qn:Bool}{l ys:aa (T t)}{news:aa Value}(h:Rl w0 N af ρ σ a w)(hm:σ.m q=some (.sl (.sl t (g+2) qn l)))(hf:full t=0)(hp:p+ys.length <= l.length)(oK:0<l.length)(hU:ym t ys news)(tG:news.length=ys.length*aC t):
  ∃ b cap,ρ q = .dQ (.slice (some ⟨b,0,none⟩) l.length cap)/\l.length <= cap/\(∀ n,n<news.length -> (w.cell? ⟨b,p*aC t+n,none⟩).isSome=true/\w.frozen? ⟨b,p*aC t+n,none⟩=false) /\
   Rl w0 N af ρ ⟨σ.t,bJ σ.m q (some (.sl (.sl t (g+2) qn (splice l p ys))))⟩ a (w.setCells b (p*aC t) news):=by
 have fk:=h.root q _ hm;generalize U:aS.sl (.sl t (g+2) qn l)=x at fk;cases fk with
 |az=>cases U
 |mp=>cases U
 |gh=>cases U
 | sl v y ck jd=>
  injection U with U;subst U;cases jd with
  |eS=>exact absurd oK (Nat.lt_irrefl 0)
  |fU=>exact absurd oK (Nat.lt_irrefl 0)
  |gj=>exact absurd oK (Nat.lt_irrefl 0)
  |aH _ _ _ _ _ _ _ _ _ ho=>omega
  | own _ _ _ _ _ b cap cs u qh hh hs hn tu hc hr=>
   have yc:(p+ys.length)*aC t <= cap*aC t:=iP _ (by omega);rw[Nat.add_mul]at yc;have mY:p*aC t+news.length <= cs.size:=by rw[tG,hs];exact yc
   have hW:=LY w b (p*aC t) news;obtain⟨I,gX,oI⟩:=GD b (tid t) news (p*aC t) w cs hh mY;have uP:∀ n,I[n]?=if n<p*aC t then cs[n]? else if n<p*aC t+news.length then news[n-p*aC t]? else cs[n]?:=by
    intro n;have e2:I[n]?=(splice cs.toList (p*aC t) news)[n]?:=by
     rw[show I[n]?=I.toList[n]? by simp,oI];rfl
    rw[e2,yb _ _ _ (by simpa using mY)];simp
   have GN:I.size=cs.size:=by
    rw[<- mb,oI];have:=uM cs.toList (p*aC t) news (by simpa using mY);simp only[splice]at this;simp_all
   have uU:=oH t;have hC:r6 w (w.setCells b (p*aC t) news) af ρ:=by
    intro k ad v ha E gC;by_cases cA:ad.block=b
    ·obtain⟨D,C,s',q',rfl,tj,ajz,we,_⟩:=B8 k ad ha;have qf:ad=⟨b,ad.off,none⟩:=by cases ad;simp_all
     rw[qf,cell_of_row w b _ cs _ _ hh]at E;rw[qf,cell_of_row _ b _ I _ _ gX,uP];by_cases Y:ad.off<p*aC t
     ·rw[aW Y];exact E
     ·by_cases h2:ad.off<p*aC t+news.length
      ·exfalso;have hk:ad.off=(ad.off / aC t)*aC t+ad.off % aC t:=by rw[Nat.mul_comm];exact(Nat.div_add_mod _ _).symm
       have dK:ad.off<l.length*aC t:=by
        have:(p+ys.length)*aC t <= l.length*aC t:=iP _ hp;rw[Nat.add_mul]at this;omega
       have hi:ad.off / aC t<l.length:=Nat.div_lt_of_lt_mul (by rw[Nat.mul_comm];exact dK);obtain⟨y,hy⟩:=Cg t g l[ad.off / aC t] (ad.off % aC t) (Nat.mod_lt _ uU);have h3:=hc _ hi _ y hy;rw[<- hk,E]at h3;injection h3 with h3;have:=(hr _ hi _ y hy).Zw (zR t g _ hf y (gT hy));rw[<- h3,gC]at this;cases this
      ·rw[aX Y,aX h2];exact E
    ·exact(World.cell?_of_block (hW.block _ cA)).trans E
   have B9:c9 w af ρ [q]=some (.slice (some ⟨b,0,none⟩) l.length cap):=by simp only[c9,ck]
   refine⟨b,cap,ck,hn,λn uQ=>⟨?_,frozen_of_row w b _ cs _ hh⟩,h.wrote hW qh hC ((zU.root q _ _ hm).ok h.root hW qh (List.suffix_refl _) hC B9 ?_)⟩
   ·rw[cell_of_row w b _ cs _ _ hh];simp;omega
   ·have hlen:(splice l p ys).length=l.length:=uM l p ys hp;have key:∀ C (h:C<(splice l p ys).length) (D:Nat) x,(enc t g (splice l p ys)[C])[D]?=some x -> ∃ v,I[C*aC t+D]?=some v/\RV (w.setCells b (p*aC t) news) w0.heap.size af (D :: C :: aC t :: [q]) x v:=by
     intro C h' D x Z;have tq:D<aC t:=by have:=(dZ.1 Z).1;rwa [kX]at this
     have O:=bK h';generalize (splice l p ys)[C]=e at O Z;rw[yb l p ys hp]at O;have zV:=zR t g e hf x (gT Z);have old:l[C]?=some e -> ∃ v,cs[C*aC t+D]?=some v/\RV (w.setCells b (p*aC t) news) w0.heap.size af (D :: C :: aC t :: [q]) x v:=λhle=>by
      obtain⟨hi,rfl⟩:=dZ.1 hle;exact⟨_,hc C hi D x Z,(hr C hi D x Z).uO zV⟩
     by_cases Y:C<p
     ·rw[aW Y]at O;have dK:(C+1)*aC t <= p*aC t:=iP _ Y;rw[iZ]at dK;rw[uP,aW];exact old O
     ·rw[aX Y]at O;by_cases h2:C<p+ys.length
      ·rw[aW h2]at O;obtain⟨hi,rfl⟩:=dZ.1 O;obtain⟨v,E,_,kA⟩:=hU (C-p) hi g D x Z;have SA:(C-p)*aC t=C*aC t-p*aC t:=Nat.sub_mul _ _ _;have hle:p*aC t <= C*aC t:=iP _ (by omega);have dK:=(dZ.1 E).1;refine⟨v,?_,kA _ _ _ _⟩;rw[uP,aX,aW,<- E];congr 1;omega
      ·rw[aX h2]at O;have qd:(p+ys.length)*aC t <= C*aC t:=iP _ (by omega);rw[Nat.add_mul]at qd;rw[uP,aX,aX (by rw[tG];omega)];exact old O
    rw[<- hlen]
    refine .own [q] t g qn (splice l p ys) b cap I (λC D=>(I[C*aC t+D]?).getD undef) qh gX (GN.trans hs) (by rw[hlen];exact hn) ⟨tu.1,λh=>by rw[hlen];exact tu.2 h⟩ (λC h D x mq=>?_) (λC h D x mq=>?_)
    ·obtain⟨v,E,_⟩:=key C h D x mq;rw[E];rfl
    ·obtain⟨v,E,hr⟩:=key C h D x mq;rw[E];exact hr
def ZR(b i c s:Nat):sliced (some ⟨b,0,none⟩) 0 i c s = .slice (some ⟨b,0,none⟩) i c:=by
 unfold sliced;split
 ·rfl
 ·rw[Option.map_some,Addr.add_lit];simp
def G2{X:Type}(P:Program)(N:Nat)(σ:S)(d:Nat)(t:TypeId)(x y:A)(k:S->aj X):aj X:=
 match x,y with
 | .view [q] s 0 i,.view [D] E j m=>(match wj P t with
  | some (e,tc)=>bif Nat.beq D q&&Nat.beq s (aC tc)&&Nat.beq E (aC tc)&&Nat.beq (full tc) 0&&Nat.blt d N then (match σ.m q with
   |some (.sl (.sl C (o+2) I l))=>bif Nat.beq (full C) 0&&Nat.beq (aC C) (aC tc)then (if i<=j/\j<=m/\m<=l.length/\0<l.length then k ((σ.root q (.sl (.sl C (o+2) I (splice l i ((l.take m).drop j))))).set d (.view [q] s 0 (i+(m-j))))else none)else none
   |_=>none)else none
  |none=>none)
 |_,_=>none
def ajR{t ty:TypeId}{x y:A}{k:S -> aj X}(h:G2 P N σ d t x y k=some r):∃ dc,k dc=some r /\ ∀ af ρ a w,Rl w0 N af ρ σ a w -> ∀ u v,RA w w0.heap.size af ρ x u -> RA w w0.heap.size af ρ y v ->
  ∃w' aA ρ' z,(Builtin.append_ #[t,t] ty #[u,v]).run P w = .ok z w'/\Rl w0 N aA ρ' dc (a.put (some d) z) w':=by
 unfold G2 at h;split at h
 ·rename_i q s i q' s' j m;split at h
  ·rename_i e tc qj;obtain⟨gD,ht,inf,hi,I,kf⟩:=Ab qj;cases hc:(Nat.beq q' q&&Nat.beq s (aC tc)&&Nat.beq s' (aC tc)&&Nat.beq (full tc) 0&&Nat.blt d N)with
   |false=>grind
   | true=>
    rw[hc,aq]at h;simp only[aM]at hc;obtain⟨⟨⟨⟨c1,c2⟩,c3⟩,c4⟩,c5⟩:=hc;obtain rfl:=cJ c1;obtain rfl:=cJ c2;obtain rfl:=cJ c3;have hd:d<N:=by have:=cE c5;omega
    split at h
    ·rename_i O g qn l hm;cases T:(Nat.beq (full O) 0&&Nat.beq (aC O) (aC tc))with
     |false=>grind
     | true=>
      rw[T,aq]at h;rw[aM]at T;have hf:=cJ T.1;have U:=cJ T.2;split at h
      ·rename_i hb;obtain⟨b1,b2,b3,b4⟩:=hb
       refine⟨_,h,λaf ρ a w hR u v hu hv=>?_⟩
       obtain⟨A,n,c,ZS,a1,a2,rfl⟩:=hu;obtain⟨A',n',c',Y,a1',a2',rfl⟩:=hv;rw[ZS]at Y;injection Y with Y;injection Y with C e2 e3;subst C e2 e3
       -- what is moved
       have fk:=hR.root q' _ hm;generalize D:aS.sl (.sl O (g+2) qn l)=x at fk;cases fk with
       |az=>cases D
       |mp=>cases D
       |gh=>cases D
       | sl yp y ck jd=>
        injection D with D;subst D;have Me:yp = .slice A n c:=by
         simp only[c9,ck]at ZS;simp_all
        subst Me;have Mg:RV w 0 (λ_=>none) [] (.sl O 0 qn l) (.slice A n c):=jd.gI;have hn:n=l.length:=by cases Mg<;>rfl
        obtain⟨hp,yu,qX⟩:=Mg.part (a:=j) (h:=m) (by omega) b2 (by omega);obtain⟨A2,c2,news,gC,uT,qm,hU⟩:=hp.reads hf;have hlen:((l.take m).drop j).length=m-j:=by rw[List.length_drop,kU];omega
        obtain⟨b,cap,Z,kz,n5,dL⟩:=hR.ZQ hm hf (p:=i) (ys:=(l.take m).drop j) (news:=news) (by rw[hlen];omega) b4 hU (by rw[hlen];exact hlen ▸ uT.1);rw[ck]at Z;injection Z with Z;injection Z with C e2 e3;subst C e2 e3;rw[hlen]at gC;have qp:sliced (some ⟨b,0,none⟩) 0 i c (aC tc) = .slice (some ⟨b,0,none⟩) i c:=ZR b i c _;obtain⟨ad,yp⟩:∃ ad,sliced (some ⟨b,0,none⟩) j m c (aC tc) = .slice (some ad) (m-j) (c-j):=by
         unfold sliced;by_cases hcj:c=j
         ·grind
         ·grind
        have Ec:A2=some ad:=by
         grind
        subst Ec;have tG:news.length=(m-j)*inf.size:=by rw[uT.1,hlen,I,U]
        have eR:=run_append_room_cells (P:=P) w t ty e inf gD hi b 0 i c ad (m-j) (c-j) news tG (λk u E=>by
         have qq:=(dZ.1 E).1;have uU:0<((l.take m).drop j).length:=by
          rcases Nat.eq_zero_or_pos ((l.take m).drop j).length with h0|h0
          ·grind
          ·exact h0
         obtain⟨b',Cb,C,_,uV⟩:=uT.2 uU;injection C with C;subst C;rw[Addr.add_lit];exact uV k u E) qm (by omega) (λk E=>by rw[fO,I,<- U];exact(n5 k E).1) (λk E=>by rw[fO,I,<- U];exact(n5 k E).2)
        refine⟨_,af,ρ,_,by rw[qp,yp];exact eR,?_⟩;rw[fO,I,<- U];exact dL.set ⟨some ⟨b,0,none⟩,l.length,c,by simp only[c9,ck],Nat.zero_le _,by omega,(ZR b _ c _).symm⟩ hd
      ·cases h
    ·cases h
  ·cases h
 ·cases h
def ajS{t:TypeId}{x y:A}:cB λX k=>G2 (X:=X) P N σ d t x y k:=λX Y k g=>by
 unfold G2
 repeat' first|rfl|refine dx ?_ ?_|split
def G3{X:Type}(P:Program)(σ:S)(t:TypeId)(x:A)(k:S->aj X):aj X:=
 match x with
 | .view [q] s i j=>(match wj P t with
  | some (e,tc)=>(match L8 P e tc with
   | some z=>(match σ.m q with
    |some (.sl (.sl C (o+2) D l))=>if h:tc=C then (bif Nat.beq s (aC tc)&&Nat.beq (full tc) 0 then (if i<=j/\j<=l.length then k (σ.root q (.sl (.sl C (o+2) D (splice l i (List.replicate (j-i) (h ▸ z))))))else none)else none)else none
    |_=>none)
   |none=>none)
  |none=>none)
 |_=>none
def ajT{t ty:TypeId}{x:A}{k:S->aj X}(h:G3 P σ t x k=some r):∃ dc,k dc=some r/\∀ af ρ a w,Rl w0 N af ρ σ a w->∀ u,RA w w0.heap.size af ρ x u->
  ∃w',(Builtin.clear_ #[t] ty #[u]).run P w = .ok (.tuple #[]) w'/\Rl w0 N af ρ dc a w':=by
 unfold G3 at h;split at h
 ·rename_i q s i j;split at h
  ·rename_i e tc qj;obtain⟨gD,ht,inf,hi,gM,kf⟩:=Ab qj;split at h
   ·rename_i z T;split at h
    ·rename_i t' g qn l hm;split at h
     ·rename_i nZ;subst nZ;cases U:(Nat.beq s (aC tc)&&Nat.beq (full tc) 0)with
      |false=>rw[U]at h;cases h
      | true=>
       rw[U,aq]at h;rw[aM]at U;obtain rfl:=cJ U.1;have hf:=cJ U.2;split at h
       ·rename_i hb
        refine⟨_,h,λaf ρ a w hR u hu=>?_⟩
        obtain⟨A,n,c,Y,a1,a2,rfl⟩:=hu;unfold L8 at T;split at T
        ·cases T
        ·rename_i C Ea;split at T
         ·cases T
         ·rename_i vs kB;have qk:inf.zero=some C:=by unfold zeroOf at Ea;simpa [hi]using Ea
          obtain⟨tE,jv⟩:=Sq _ _ kB;have D:=mj tc (full tc) vs z T;have nP:C.cells.size=aC tc:=by rw[<-kX tc (full tc) z,<-D.1,tE];simp
          have hzr:∀w:World,(zeroValue e).run P w = .ok C w:=λw=>by simp[zeroValue,typeInfo,hi,qk]
          rcases Nat.eq_zero_or_pos (j-i)with h0|h0
          ·have we:splice l i (List.replicate (j-i) z)=l:=by rw[h0];simp[splice]
           refine⟨w,?_,?_⟩
           ·unfold sliced;rw[h0];cases (if c=i then A else A.map (·.add (i*aC tc)))<;>simp[Builtin.clear_,iu gD]
           ·show Rl w0 N af ρ (σ.root q (.sl (.sl tc (g+2) qn (splice l i (List.replicate (j-i) z))))) a w;rw[we];have:σ.root q (.sl (.sl tc (g+2) qn l))=σ:=by
             unfold S.root;have:bJ σ.m q (some (.sl (.sl tc (g+2) qn l)))=σ.m:=by
              funext k;by_cases D:k=q
              ·subst D;rw[bM,hm]
              ·rw[cy _ _ _ D]
             rw[this]
            rw[this];exact hR
          ·have qt:(Builtin.zeroCells C.cells (j-i))=madeCells C.cells ((j-i)*C.cells.size):=rfl;have hU:ym tc (List.replicate (j-i) z) (Builtin.zeroCells C.cells (j-i)).toList:=by
            intro i' h' o' E x I;rw[List.getElem_replicate]at I;have hj:E<aC tc:=by have:=(dZ.1 I).1;rwa [kX]at this
            rw[mT]at h';have tq:=hj;rw[<-nP]at tq;have Z:(Builtin.zeroCells C.cells (j-i)).toList[i'*aC tc+E]?=some C.cells[E]:=by
             rw[qt,Array.getElem?_toList,<-nP];exact ZM C.cells _ i' E tq (by
              have:(i'+1)*C.cells.size<=(j-i)*C.cells.size:=iP _ (by omega);rw[iZ]at this;omega)
            rw[Eb tc hf o' (full tc)]at I;have G4:E<(enc tc (full tc) z).length:=(dZ.1 I).1;rw[<-D.1]at G4;have hy:=bK G4;generalize vs[E]=y at hy;obtain⟨v,hv,Sr⟩:=jv E y hy;have O:C.cells[E]=v:=by
             have e1:C.cells.toList[E]?=some C.cells[E]:=by simp[tq]
             rw[e1]at hv;injection hv
            have kA:∀(w':World) (B':Nat) (aA:bw) (q':aa Nat),RV w' B' aA q' x v:=λw' B' aA q'=>(ZK Sr _).wk (D.2 E y x hy I)
            exact⟨_,Z,by rw[O];exact(kA w 0 (λ_=>none) []).one,λw' B' aA q'=>by rw[O];exact kA _ _ _ _⟩
           have tG:(Builtin.zeroCells C.cells (j-i)).toList.length=(List.replicate (j-i) z).length*aC tc:=by rw[qt,mT,mb,size_madeCells,nP]
           obtain⟨b,cap,ck,kz,Z,dL⟩:=hR.ZQ hm hf (p:=i) (ys:=List.replicate (j-i) z) (by rw[mT];omega) (by omega) hU tG;simp only[c9,ck]at Y;injection Y with Y;injection Y with e1 e2 e3;subst e1 e2 e3;refine⟨_,?_,dL⟩;have gC:sliced (some ⟨b,0,none⟩) i j cap (aC tc) = .slice (some ⟨b,i*aC tc,none⟩) (j-i) (cap-i):=by
            unfold sliced;rw[aX,Option.map_some,Addr.add_lit,fO]
           have kC:=run_storeCells_cells (P:=P) b (i*aC tc) (Builtin.zeroCells C.cells (j-i)).toList 0 w (λk D=>(Z k D).1) (λk D=>(Z k D).2) (λv hv=>by
            obtain⟨k,D⟩:=List.mem_iff_getElem?.1 hv;have qq:=(dZ.1 D).1;rw[tG,mT]at qq;have uU:=oH tc;obtain⟨x,I⟩:=Cg tc 0 z (k % aC tc) (Nat.mod_lt _ uU);have dK:k / aC tc<(List.replicate (j-i) z).length:=by rw[mT];exact Nat.div_lt_of_lt_mul (by rw[Nat.mul_comm];exact qq)
            obtain⟨v',O,qm,_⟩:=hU (k / aC tc) dK 0 (k % aC tc) x (by rw[List.getElem_replicate];exact I);rw[Nat.mul_comm,Nat.div_add_mod,D]at O;injection O with O;rw[O];exact qm)
           simp only[Nat.add_zero]at kC;rw[gC];obtain⟨n',uQ⟩:∃n',j-i=n'+1:=⟨j-i-1,by omega⟩
           rw[uQ]at kC ⊢;simp[Builtin.clear_,iu gD,hzr,kC]
       ·cases h
     ·cases h
    ·cases h
   ·cases h
  ·cases h
 ·cases h
def ajU{t:TypeId}{x:A}:cB λX k=>G3 (X:=X) P σ t x k:=λX Y k g=>by
 unfold G3
 repeat' first|rfl|refine dx ?_ ?_|split
end
def Ae(place:Nat->aj (Nat×Nat))(cells:aa Lf):aa (Nat×A)->aj (aa Lf)
 |[]=>some cells
 | (i,x) :: rest=>match place i,x.zX with
  |some (off,n),some xs=>if xs.length=n/\off+n<=cells.length then (bif xs.all Lf.live then Ae place (splice cells off xs) rest else none)else none
  |_,_=>none
def ZT(P:Program)(t:TypeId):aj (Nat->aj (Nat×Nat)):=
 match P.underlying t with
 |some (.array _ e)=>(P.info? e).map λC=>λi=>some (i*C.size,C.size)
 |some (.struct fields)=>(fields.toList.mapM (λf=>(P.info? f.type).map λi=>(f.offset,i.size))).map λps=>(ps.toArray[·]?)
 |_=>none
def Ed{X:Type}(P:Program)(σ:S)(t:TypeId)(parts:aa (Nat×Operand))(k:A->aj X):aj X:=
 match zeroOf P t,ZT P t with
 | some z,some pl=>match Ae pl (z.cells.toList.map oL) (parts.map λp=>(p.1,aL σ p.2))with
  |some cs=>k (.agg cs)
  |none=>none
 |_,_=>none
def Lf.asV:Lf->aj V
 |.v x=>some x
 |_=>none
def uW:aa Lf->aj (aa V)
 |[]=>some []
 | x :: xs=>match x.asV,uW xs with
  |some y,some ys=>some (y::ys)
  |_,_=>none
def Ci(t:TC)(g:Nat):Nat->aa V->aj (aa (T t))
 |0,[]=>some []
 |0,_=>none
 | n+1,C=>match dec t g (C.take (aC t)),Ci t g n (C.drop (aC t))with
  |some x,some xs=>some (x::xs)
  |_,_=>none
def Af{X:Type}(P:Program)(N:Nat)(σ:S)(d:Nat)(t:TypeId)(len:Nat)(parts:aa (Nat×Operand))(k:S->aj X):aj X:=
 match wj P t with
 | some (e,tc)=>match zeroOf P e with
  | some z=>bif Nat.beq (full tc) 0&&Nat.beq z.cells.size (aC tc)&&Nat.blt (len*aC tc) 16777217 then (match Ae (λi=>some (i*aC tc,aC tc)) (List.replicate len (z.cells.toList.map oL)).flatten (parts.map λp=>(p.1,aL σ p.2))with
   | some cs=>(match uW cs with
    | some C=>(match Ci tc 0 len C with
     |some l=>gZ N σ d (.sl (.sl tc 2 true l)) (.lf (.own [d])) k
     |none=>none)
    |none=>none)
   |none=>none)else none
  |none=>none
 |none=>none
section
variable {P:Program} {w w':World} {w0:Wd} {B N:Nat} {af aA:bw} {ρ ρ':Nat->Loc} {σ:S} {a:Act} {X:Type} {d:Nat} {r:X}
def ZU(off:Nat):∀ (l:aa Value) (n:Nat) (cs:Array Value),off+n+l.length <= cs.size ->
  ((l.zipIdx n).foldl (λ(cs:Array Value) (p:Value×Nat)=>cs.setIfInBounds (off+p.2) p.1) cs).toList=splice cs.toList (off+n) l
 |[],n,cs,_=>by simp[splice]
 | v :: l,n,cs,h=>by
  simp at h;rw[List.zipIdx_cons,List.foldl_cons,ZU off l (n+1) _ (by simp;omega)];have C:off+n<cs.toList.length:=by simp;omega
  simp only[splice,Array.toList_setIfInBounds,List.length_cons];have D:(cs.toList.set (off+n) v).take (off+(n+1))=cs.toList.take (off+n)++[v]:=by
   rw[show off+(n+1)=off+n+1 by omega,List.take_succ_eq_append_getElem (by simpa using C),List.getElem_set_self,List.take_set_of_le (dg _)]
  have E:(cs.toList.set (off+n) v).drop (off+(n+1)+l.length)=cs.toList.drop (off+(n+1)+l.length):=by
   rw[List.drop_set_of_lt (by omega)]
  grind
def eX.splice{cs xs:aa Lf}{D E:Array Value}(h:eX w B af ρ cs D)(I:eX w B af ρ xs E){off:Nat}(O:off+xs.length <= cs.length){T:Array Value}(Y:T.toList=Proofs.YtpigmalhjkekiaaGreat.splice D.toList off E.toList):eX w B af ρ (Proofs.YtpigmalhjkekiaaGreat.splice cs off xs) T:=by
 have Z:off+E.toList.length <= D.toList.length:=by rw[mb,mb,I.1,h.1];exact O
 refine⟨?_,λj x C=>?_⟩
 ·rw[uM _ _ _ O,<- mb,Y,uM _ _ _ Z,mb,h.1]
 ·have e:T[j]?=(Proofs.YtpigmalhjkekiaaGreat.splice D.toList off E.toList)[j]?:=by rw[<- Y,Array.getElem?_toList]
  rw[e,yb _ _ _ Z,mb,I.1];rw[yb _ _ _ O]at C;by_cases U:j<off
  ·simp[U,Array.getElem?_toList]at C ⊢;exact h.2 j x C
  ·by_cases h2:j<off+xs.length
   ·simp[U,h2,Array.getElem?_toList]at C ⊢;exact I.2 _ x C
   ·simp[U,h2,Array.getElem?_toList]at C ⊢;exact h.2 j x C
def Mh{place:Nat -> aj (Nat×Nat)}:∀ (parts:aa (Nat×A)) (cells:aa Lf) (C:Array Value) (D:aa (Nat×Value)) (out:aa Lf),Ae place cells parts=some out -> eX w B af ρ cells C -> D.length=parts.length ->
  (∀(j:Nat) p q,parts[j]?=some p -> D[j]?=some q -> p.1=q.1/\RA w B af ρ p.2 q.2) -> ∃E,Instr.fill place C D=some E/\eX w B af ρ out E
 | [],cells,C,D,out,h,hR,hl,I=>by
  have:D=[]:=List.eq_nil_of_length_eq_zero hl;subst this;injection h with h;subst h;exact⟨C,rfl,hR⟩
 | (i,x) :: rest,cells,C,D,out,h,hR,hl,I=>by
  cases D with
  |nil=>simp at hl
  | cons v D=>
   obtain⟨i',v⟩:=v;obtain⟨e,O⟩:=I 0 _ _ rfl rfl;simp only at e O;subst e;unfold Ae at h;split at h
   ·rename_i off n xs Y Z;split at h
    ·rename_i hb;cases T:xs.all Lf.live with
     |false=>grind
     | true=>
      rw[T,aq]at h;obtain⟨U,_⟩:=GS Z T O;have G5:v.cells.size=n:=by rw[U.1];exact hb.1
      have mY:¬ (off+v.cells.size > C.size):=by rw[G5,hR.1];omega
      have ajV:(v.cells.zipIdx.foldl (λ(cs:Array Value) (p:Value×Nat)=>cs.setIfInBounds (off+p.2) p.1) C).toList=Proofs.YtpigmalhjkekiaaGreat.splice C.toList off v.cells.toList:=by
       have:=ZU off v.cells.toList 0 C (by rw[mb];omega);rw[<- Array.foldl_toList,Array.toList_zipIdx];exact this
      have we:=hR.splice U (off:=off) (by rw[hb.1];exact hb.2) ajV;obtain⟨E,tA,dL⟩:=Mh rest _ _ D out h we (by simpa using hl) (λj p q G6 tj=>I (j+1) p q (by simpa using G6) (by simpa using tj));refine⟨E,?_,dL⟩;have cA:(v.cells.size≠n || off+v.cells.size > C.size)=false:=by
       grind
      simp only[Instr.fill,Y];rw[aX (by rw[cA];simp)];exact tA
    ·cases h
   ·cases h
def ajW(z:Value):eX w B af ρ (z.cells.toList.map oL) z.cells:=by
 refine⟨by simp,λj x C=>?_⟩
 rw[eO]at C;cases D:z.cells.toList[j]? with
 |none=>simp_all
 | some v=>
  rw[D]at C;injection C with C;subst C;exact⟨v,by simpa using D,Ma v⟩
def ajX{t:TypeId}{parts:Array (Nat×Operand)}{k:A -> aj X}(h:Ed P σ t parts.toList k=some r):∃ y,k y=some r /\ ∀ af ρ a w,Rl w0 N af ρ σ a w ->
  ∃v,(Instr.build t (parts.map λ(i,x)=>(i,a.eval x))).run P w = .ok v w/\RA w w0.heap.size af ρ y v:=by
 unfold Ed at h;split at h
 ·rename_i z pl E C;split at h
  ·rename_i cs gu
   refine⟨_,h,λaf ρ a w hR=>?_⟩
   obtain⟨U,Y,dL⟩:=Mh (w:=w) (B:=w0.heap.size) (af:=af) (ρ:=ρ) _ _ z.cells (parts.toList.map λp=>(p.1,a.eval p.2)) cs gu (ajW z) (by simp) (λj p q D I=>by
    rw[eO]at D I;cases Z:parts.toList[j]? with
    |none=>rw[Z]at D;cases D
    | some x=>
     rw[Z]at D I;injection D with D;injection I with I;subst D I;exact⟨rfl,hR.aL x.2⟩)
   refine⟨_,run_build (P:=P) w t _ U ?_,U,rfl,dL⟩;have G7:(parts.map λ(i,x)=>(i,a.eval x)).toList=parts.toList.map λp=>(p.1,a.eval p.2):=by simp
   rw[G7];unfold zeroOf at E;unfold Program.built;cases hi:P.info? t with
   |none=>simp[hi]at E
   | some i=>
    have E:i.zero=some z:=by simpa [hi]using E
    unfold ZT at C;split at C
    ·rename_i n e O;cases T:P.info? e with
     |none=>simp[T]at C
     | some ie=>
      rw[T]at C;injection C with C;subst C;simp[O,E,T];exact Y
    ·rename_i fields O;cases D:fields.toList.mapM (λf=>(P.info? f.type).map λi=>(f.offset,i.size))with
     |none=>rw[D]at C;cases C
     | some ps=>
      rw[D]at C;injection C with C;subst C;simp only[O,E,D];exact Y
    ·cases C
  ·cases h
 ·cases h
def G8:∀ (cs:aa Lf) (C:aa V),uW cs=some C->cs=C.map .v
 |[],C,h=>by injection h with h;subst h;rfl
 | x :: xs,C,h=>by
  unfold uW at h;split at h
  next y ys D E=>injection h with h;subst h;rw[G8 xs ys E,List.map_cons];cases x<;>first|(injection D with D;rw[D])|cases D
  ·cases h
def Mi(t:TC)(g:Nat):∀ (n:Nat) (C:aa V) (l:aa (T t)),Ci t g n C=some l -> l.length=n/\C.length=n*aC t /\ ∀ i (hi:i<l.length) (j:Nat) x,(enc t g l[i])[j]?=some x -> ∃ y,C[i*aC t+j]?=some y/\Wk y x
 | 0,[],l,h=>by
  injection h with h;subst h;exact⟨rfl,by simp,λi hi=>by simp at hi⟩
 |0,_::_,l,h=>by cases h
 | n+1,C,l,h=>by
  unfold Ci at h;split at h
  ·rename_i x xs I O;injection h with h;subst h;obtain⟨U,h2,h3⟩:=Mi t g n _ xs O;have D:=mj t g _ x I;have hlen:(C.take (aC t)).length=aC t:=by rw[D.1,kX]
   have qd:aC t <= C.length:=by rw[kU]at hlen;omega
   refine⟨by simp[U],?_,λi hi j y E=>?_⟩
   ·grind
   ·cases i with
    | zero=>
     have Y:j<aC t:=by have:=(dZ.1 E).1;rwa [kX]at this
     have Z:=bK (by rw[hlen];exact Y);refine⟨_,?_,D.2 j _ y Z E⟩;simp_all
    |succ i =>grind
  ·cases h
def RV.under{k:aa Nat}{x:V}{v:Value}{n:Nat}(h:RV w B af k x v)(E:1<k.length\/x.aH=true)(I:w.heap.size<=w'.heap.size)(hb:∀ b,b<w.heap.size->af b≠some [n]->w'.heap[b]?=w.heap[b]?)(hl:∀ b,b<w.heap.size->aA b=af b):RV w' B aA k x v:=
 h.map (Q:=λk D=>k=D/\1<k.length) I (λb C h=>⟨hb b C (by rw[h];simp),(hl b C).trans h⟩) (λb k D C h e=>by
  obtain⟨rfl,e⟩:=e;exact⟨hb b C (by rw[h];rintro⟨⟩;simp at e),(hl b C).trans h,λ_ _ _=>⟨rfl,by simp⟩⟩) (E.symm.imp_right λh=>⟨rfl,h⟩)
def uX(w:World)(B:Nat)(af:bw)(n C:Nat)(t:TC)(o:Nat)(l:aa (T t))(D:aa Value):Prop:=
 ∀i (hi:i<l.length) j x,(enc t o l[i])[j]?=some x->∃v,D[i*aC t+j]?=some v/\RV w B af (j::(C+i)::aC t::[n]) x v
def RV.ajY{n:Nat}{t:TC}{o:Nat}{C:Bool}{l:aa (T t)}{u:Value}(h:RV w B af [n] (.sl t (o+2) C l) u){B':Nat}(hB:∀ b,af b=some [n] -> B' <= b):
  ∃xs,w.ownsRow B' (tid t) (aC t) u l.length xs/\(∀b,u.ownBlock=some b -> af b=some [n])/\(C=true -> u.ownBlock≠none)/\uX w B af n 0 t o l xs:=by
 cases h with
 |fU=>omega
 |gj=>omega
 |eS=>exact⟨[],⟨by simp,.inl ⟨rfl,rfl⟩⟩,by simp[Value.ownBlock],by simp,λi hi=>by simp at hi⟩
 |aH _ _ _ _ _ _ _ _ _ ho=>omega
 | own _ _ _ _ _ b cap cs us hl D E I O hc hr=>
  refine⟨cs.toList.take _,⟨?_,.inr ⟨b,cap,cs,rfl,hB b hl,D,I,O.1,E,rfl⟩⟩,λU Y=>?_,λ_=>by simp[Value.ownBlock],λi hi j x Z=>?_⟩
  ·simp_all
  ·have:b=U:=by simpa [Value.ownBlock]using Y
   simp_all
  ·have hj:j<aC t:=by have:=(dZ.1 Z).1;rwa [kX]at this
   have dK:i*aC t+j<l.length*aC t:=by
    have:(i+1)*aC t <= l.length*aC t:=iP _ hi;rw[iZ]at this;omega
   grind
def uX.append{n:Nat}{t:TC}{o:Nat}{l l2:aa (T t)}{xs ys:aa Value}(h:uX w B af n 0 t o l xs)(E:uX w B af n l.length t o l2 ys)(hl:xs.length=l.length*aC t):uX w B af n 0 t o (l++l2) (xs++ys):=by
 intro i hi j x C;by_cases D:i<l.length
 ·rw[List.getElem_append_left D]at C;obtain⟨v,I,r⟩:=h i D j x C
  grind
 ·rw[List.getElem_append_right (by omega)]at C;have O:i-l.length<l2.length:=by rw[List.length_append]at hi;omega
  obtain⟨v,I,r⟩:=E _ O j x C;refine⟨v,?_,?_⟩
  ·have e:i*aC t+j=xs.length+((i-l.length)*aC t+j):=by
    rw[ Nat.sub_mul];have:l.length*aC t <= i*aC t:=iP _ (by omega);omega
   grind
  ·grind
def uX.under{n C:Nat}{t:TC}{o:Nat}{l:aa (T t)}{D:aa Value}(h:uX w B af n C t o l D)(E:w.heap.size<=w'.heap.size)(hb:∀ b,b<w.heap.size->af b≠some [n]->w'.heap[b]?=w.heap[b]?)(hl:∀ b,b<w.heap.size->aA b=af b):uX w' B aA n C t o l D:=
 λi hi j x I=>let ⟨v,O,r⟩:=h i hi j x I;⟨v,O,r.under (.inl (by simp)) E hb hl⟩
def ZV{n:Nat}{t:TC}{o:Nat}{l:aa (T t)}{u:Value}{xs:aa Value}{B':Nat}(h:w.ownsRow B' (tid t) (aC t) u l.length xs)(D:uX w B af n 0 t o l xs)(hl:∀ b,u.ownBlock=some b -> af b=some [n]):
  RV w B af [n] (.sl t (o+2) false l) u:=by
 rcases h.2 with ⟨rfl,E⟩|⟨b,cap,cs,rfl,hB,I,O,U,Y,Z⟩
 ·have:=List.eq_nil_of_length_eq_zero E;subst this;exact .eS _ _ _
 ·have nX:∀ i _ j x,(enc t o l[i])[j]?=some x -> ∃ v,cs[i*aC t+j]?=some v/\RV w B af (j :: i :: aC t :: [n]) x v:=by
   intro i hi j x C;obtain⟨v,hv,r⟩:=D i hi j x C
   grind
  refine .own [n] t o false l b cap cs (λi j=>(cs[i*aC t+j]?).getD undef) (hl b rfl) I Y O ⟨U,λh=>by cases h⟩ (λi hi j x C=>?_) (λi hi j x C=>?_)
  ·grind
  ·grind
def Rl.ajZ{t e ty:TypeId}{tc:TC}{i:TypeInfo}{z:Value}{rr o m c:Nat}{q:Bool}{l l2:aa (T tc)}{u:Value}{ad:aj Addr}{news:aa Value}(h:Rl w0 N af ρ σ a w)(hF:w0.F rr=none)(gD:P.underlying t=some (.slice e))(ht:tid tc=e)(hi:P.info? e=some i)(hz:i.zero=some z)
  (gM:i.size=aC tc) (kf:i.bytes <= 65536) (nP:z.cells.size=aC tc) (hd:RV w w0.heap.size af [rr] (.sl tc (o+2) q l) u) (uT:Reads w w.heap.size (aC tc) ad m news) (qm:∀v∈news,v.oneCell'=true) (hm:m=l2.length)
  (GZ:uX w w0.heap.size af rr l.length tc o l2 news) (hlen:l.length+l2.length<1073741824):
  ∃C w' aA,(Builtin.append_ #[t,t] ty #[u,.slice ad m c]).run P w = .ok C w'/\Rl w0 N aA (bJ ρ rr (.dQ C)) ((σ.drop rr).root rr (.sl (.sl tc (o+2) false (l++l2)))) a w'/\mX C=true:=by
 subst ht hm;obtain⟨xs,Ac,Z,GY,hU⟩:=hd.ajY (B':=0) (λb _=>Nat.zero_le b);have gX:(l.length+l2.length)*i.bytes <= 140737488355328:=by
  have h1:(l.length+l2.length)*i.bytes <= 1073741824*65536:=Nat.mul_le_mul (by omega) kf;omega
 obtain⟨C,w',eR,I,E,jc⟩:=RO (P:=P) w 0 t ty (tid tc) i z (aC tc) i.bytes gD hi hz gM rfl nP (oH tc) u l.length xs Ac _ ad l2.length c news uT qm (by unfold maxLen;omega) gX (Nat.zero_le _);have G0:(l++l2).length=l.length+l2.length:=List.length_append;rw[<- G0]at I;have Ch:=hU.append GZ Ac.1;have gC:mX C=true:=by rcases I.2 with ⟨rfl,_⟩|⟨_,_,_,rfl,_⟩<;>rfl
 have O:Below 0 w w':=(Below.refl 0 w).grown E (Nat.zero_le _) (λ_ _=>Nat.zero_le _);have tF:jt w0 w w':=⟨O.os,O.tape,O.output,O.size,λk D hL=>E.block k (Nat.lt_of_lt_of_le D h.below.size) (λe'=>by
  rcases(h.dj k _ (Z k e'.symm)).1 with h1|h1
  ·exact absurd D (Nat.not_lt.2 h1)
  ·exact h1 hL)⟩
 have U:∀b,b<w.heap.size -> af b≠some [rr] -> w'.heap[b]?=w.heap[b]?:=λb hb cA=>E.block b hb (λe'=>cA (Z b e'.symm))
 by_cases Y:C.ownBlock=some w.heap.size
 ·have dK:w.heap.size<w'.heap.size:=by
   rcases I.2 with ⟨rfl,_⟩|⟨b,cap,cs,rfl,_,hh,_⟩
   ·cases Y
   ·have:b=w.heap.size:=by simpa [Value.ownBlock]using Y
    grind
  have Cj:∀b,b<w.heap.size -> bJ af w.heap.size (some [rr]) b=af b:=λb hb=>cy _ _ _ (by omega)
  refine⟨C,w',bJ af w.heap.size (some [rr]),eR,h.z0 hF tF ⟨E.size,U,Cj,λb hb=>(h.dj b [] hb).2.2 rfl⟩ (λb k hb D=>?_) (λr hr=>cy _ _ _ hr) (.sl C _ (bM _ _ _) (ZV I (Ch.under E.size U Cj) (λb hb=>?_))),gC⟩
  ·by_cases e:b=w.heap.size
   ·subst e;rw[bM]at D
    grind
   ·rw[cy _ _ _ e]at D;have:=(h.dj b k D).2.1;omega
  ·rw[Y]at hb;injection hb with hb;subst hb;exact bM _ _ _
 ·have Sw:C.ownBlock=u.ownBlock:=by
   rcases jc with jc|jc
   ·exact jc
   ·exact absurd jc Y
  refine⟨C,w',af,eR,h.z0 hF tF ⟨E.size,U,λ_ _=>rfl,λb hb=>(h.dj b [] hb).2.2 rfl⟩ (λb k hb D=>?_) (λr hr=>cy _ _ _ hr) (.sl C _ (bM _ _ _) (ZV I (Ch.under E.size U (λ_ _=>rfl)) (λb hb=>Z b (by rw[<- Sw];exact hb)))),gC⟩
  have:=(h.dj b k D).2.1;omega
end
end Go.Proofs.YtpigmalhjkekiaaGreat
