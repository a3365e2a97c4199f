/-
  Running the program over pure contents, and that it follows (part 1). Nothing here is a claim.
-/
import Derived.Test.YtgjfmljpdnnihaaGreatAppend
import Derived.Test.YtgjfmljpdnnihaaGreatLaws
import Derived.Handy
import Derived.Great.BuildSlice
import Derived.ArgAppend
set_option linter.unusedSimpArgs false
namespace Go.Proofs.YtgjfmljpdnnihaaGreat
open Go.RowKit
set_option linter.defProp false
abbrev aa:=List
abbrev aj:=Option
abbrev af:=Unit
def aq:=@cond_true
def eA:=@Bool.or_eq_true
def aO:=@Bool.and_eq_true
def cC:=@Nat.eq_of_beq_eq_true
def cK:=@Nat.le_of_ble_eq_true
def gF:=@List.mem_of_getElem?
def eH:=@List.getElem?_map
def iB:=@Array.getElem?_eq_some_iff
def dx:=@Nat.le_refl
def eN:=@Nat.zero_add
def au:=@cond_false
def cu:=@List.all_eq_true
def bq:=@congrArg
theorem bH.{u}{c:Prop}{h:Decidable c}(k:c:=by omega){α:Sort u}{t e:α}:ite c t e=t:=if_pos k
def eI:=@List.length_map
def iq:=@Array.getD_eq_getD_getElem?
def lR:=@Array.length_toList
theorem bJ.{u}{c:Prop}{h:Decidable c}(k:¬c:=by omega){α:Sort u}{t e:α}:ite c t e=e:=if_neg k
def ji:=@List.length_set
def dO:=@List.getElem?_eq_some_iff
def bQ:=@List.getElem?_eq_getElem
def iL:=@Nat.mul_le_mul_right
def iC:=@Nat.succ_mul
def gd:=@Sem.run_bind
def mB:=@Result.andThen_ok
def gL:=@run_underlying
def cR:=@List.getElem_mem
def iM:=@Nat.ble_eq_true_of_le
def iD:=@Option.some.injEq
def mC:=@List.length_append
def fU:=@List.length_take
def kH:=@List.length_replicate
def nj:=@List.length_cons
def ei:=@List.getD_eq_getElem?_getD
def pS:=@Bool.or_eq_false_iff
def gW:=@Bool.not_eq_true'
def gn:=@List.mem_cons
def bZ:=@Bool.true_and
def kX:=@List.map_append
def kI:=@List.mem_singleton
def kY:=@List.nil_append
theorem aB.{u}{c:Prop}{h:Decidable c}(k:c:=by omega){α:Sort u}{t:c->α}{e:¬c->α}:dite c t e=t k:=dif_pos k
def fk:=@List.mem_range
def jA:=@List.getElem_range
theorem aQ{p:Prop}[Decidable p](k:p:=by omega):decide p=true:=decide_eq_true k
def fY:=@decide_eq_true_eq
def bB:=@Bool.not_true
def qJ:=@Int.tmod_eq_emod_of_nonneg
def bu:=@Int.toNat_natCast
theorem aX{p:Prop}[Decidable p](k:¬p:=by omega):decide p=false:=decide_eq_false k
def dX:=@Sum.elim_inl
def cm:=@Int.natCast_zero
def fz:=@Int.eq_ofNat_of_zero_le
def ir:=@List.take_length
def jj:=@beq_self_eq_true
def jb:=@List.mem_iff_getElem
def nq:=@List.findIdx?_eq_some_iff_getElem
def cV:=@List.length_range
def gM:=@Bool.not_false
def qK:=@Int.tdiv_eq_ediv_of_nonneg
def qL:=@decide_eq_false_iff_not
def fI:=@beq_iff_eq
def jk:=@List.length_singleton
set_option linter.unusedVariables false
set_option linter.unusedSimpArgs false
structure aI where
 bK:Int
 aA:Int
 rows:Int
 aL:Int
structure aM where
 ay:Int
 row:Int
 bO:Int
structure nt where
 order:Int
 hash:Bool
structure aE where
 kind:Int
 ay:Int
 row:Int
 bO:Int
structure ck where
 kJ:Int
 rp:Int
 gG:Int
 nW:Int
 kK:Int
 iN:Int
 nX:Int
 nY:Int
 jl:Int
 wr:Int
 nZ:Int
 n5:Int
 qM:Int
 n6:Int
 oK:Int
 xp:Int
 xs:Int
structure di where
 open_:Bool
 row:Int
structure bU where
 aA:List di
 aT:Int
structure bW where
 at_:Int
 cmd:aE
structure cZ where
 last:List Int
 aU:List Int
structure cq where
 symbols:List Int
 jm:Bool
structure en where
 cells:List cq
 bC:List Int
 bw:List Int
structure nu where
 bC:Int
 bw:Int
structure cx where
 rows:List Int
 counts:List Int
 dg:Int
structure dI where
 bM:Int
 map:List Int
structure dn where
 aJ:List Int
 wait:Int
 eP:Bool
structure aZ where
 id:Int
 dL:Int
 line:Int
 write:Bool
 data:Int
 at_:Int
structure cE where
 weight:Int
 fJ:Int
structure jc where
 on:Bool
 low:Int
 high:Int
structure fA where
 state:Int
 since:Int
 idle:Int
structure qN where
 down:Int
 sleep:Int
structure cA where
 line:Int
 code:Int
 times:Int
structure oL where
 next:Int
 every:Int
 wait:Int
structure dY where
 eU:Int
 cap:Int
 fl:Int
 low:Int
 high:Int
 weights:List Int
 eB:qN
structure iE where
 bT:dY
 next:dY
 waits:Bool
structure fm where
 ax:aI
 bX:ck
 mapping:nt
 bM:Int
 interval:Int
 iF:Int
 eC:nu
structure fK where
 id:Int
 at_:Int
 data:Int
 code:Int
structure av where
 config:fm
 box:iE
 now:Int
 aY:bU
 ready:cZ
 array:en
 spare:dI
 aS:dn
 bI:List cx
 guard:List Int
 pending:List aM
 queue:List aZ
 shares:List cE
 drain:jc
 aT:fA
 cU:oL
 errors:List cA
 trace:List bW
 cr:List fK
structure jV where
 kind:Int
 request:aZ
 n:Int
 yA:Int
 addr:aM
 n7:dY
structure bN where
 b:List Int
 i:Int
 h:Int
inductive TC where
 |int|u8|bool|str
 |fo
 |Addr
 |r4
 |Command
 |jn
 |jB
 |gX
 |Event
 |ny
 |Cell
 |Array
 |td
 |iO
 |oM
 |lS
 |dM
 |gw
 |qO
 |Power
 |tf
 |gH
 |uN
 |n8
 |pT
 |Config
 |pU
 |cO
 |Act
 |r5
 |sl (t:TC)
 |lT
 |AU (g:Nat)
 |F6 (g:Nat)
 |AV (g:Nat)
 |fnCommand (g:Nat)
deriving DecidableEq
def T:TC->Type
 |.int=>Int
 |.u8=>Int
 |.bool=>Bool
 |.str=>ByteArray
 |.fo=>aI
 |.Addr=>aM
 |.r4=>nt
 |.Command=>aE
 |.jn=>ck
 |.jB=>di
 |.gX=>bU
 |.Event=>bW
 |.ny=>cZ
 |.Cell=>cq
 |.Array=>en
 |.td=>nu
 |.iO=>cx
 |.oM=>dI
 |.lS=>dn
 |.dM=>aZ
 |.gw=>cE
 |.qO=>jc
 |.Power=>fA
 |.tf=>qN
 |.gH=>cA
 |.uN=>oL
 |.n8=>dY
 |.pT=>iE
 |.Config=>fm
 |.pU=>fK
 |.cO=>av
 |.Act=>jV
 |.r5=>bN
 |.sl t=>aa (T t)
 |.lT=>av
 |.AU _=>Int
 |.F6 _=>aZ
 |.AV _=>aM
 |.fnCommand _=>aE
def aF:TC->Nat
 |.lT=>76
 |.AU _=>3
 |.F6 _=>8
 |.AV _=>5
 |.fnCommand _=>6
 |.fo=>4
 |.Addr=>3
 |.r4=>2
 |.Command=>4
 |.jn=>17
 |.jB=>2
 |.gX=>2
 |.Event=>5
 |.ny=>2
 |.Cell=>2
 |.Array=>3
 |.td=>2
 |.iO=>3
 |.oM=>2
 |.lS=>3
 |.dM=>6
 |.gw=>2
 |.qO=>3
 |.Power=>3
 |.tf=>2
 |.gH=>3
 |.uN=>3
 |.n8=>8
 |.pT=>17
 |.Config=>28
 |.pU=>4
 |.cO=>75
 |.Act=>20
 |.r5=>3
 |_=>1
def full:TC->Nat
 |.int|.u8|.bool|.str=>0
 |.fo=>0
 |.Addr=>0
 |.r4=>0
 |.Command=>0
 |.jn=>0
 |.jB=>0
 |.gX=>2
 |.Event=>0
 |.ny=>2
 |.Cell=>2
 |.Array=>4
 |.td=>0
 |.iO=>2
 |.oM=>2
 |.lS=>2
 |.dM=>0
 |.gw=>0
 |.qO=>0
 |.Power=>0
 |.tf=>0
 |.gH=>0
 |.uN=>0
 |.n8=>2
 |.pT=>2
 |.Config=>0
 |.pU=>0
 |.cO=>4
 |.Act=>2
 |.r5=>2
 |.sl t=>full t+2
 |.lT=>4
 |.AU _=>0
 |.F6 _=>0
 |.AV _=>0
 |.fnCommand _=>0
def tid:TC->TypeId
 |.int=>3
 |.u8=>5
 |.bool=>4
 |.str=>9
 |.fo=>25
 |.Addr=>96
 |.r4=>29
 |.Command=>86
 |.jn=>27
 |.jB=>130
 |.gX=>47
 |.Event=>189
 |.ny=>49
 |.Cell=>169
 |.Array=>52
 |.td=>31
 |.iO=>116
 |.oM=>54
 |.lS=>56
 |.dM=>77
 |.gw=>172
 |.qO=>62
 |.Power=>64
 |.tf=>36
 |.gH=>186
 |.uN=>66
 |.n8=>38
 |.pT=>44
 |.Config=>33
 |.pU=>80
 |.cO=>71
 |.Act=>98
 |.r5=>154
 |.sl .int=>34
 |.sl .bool=>276
 |.sl .str=>0
 |_=>0
inductive V where
 |int (k:IntKind) (n:Int)
 |bool (b:Bool)
 |str (s:ByteArray)
 |nil
 |sl (t:TC) (o:Nat) (q:Bool) (l:List (T t))
def V.bg:V->aj Int|.int .i64 n=>some n|_=>none
def V.Sz:V->aj Int|.int .u8 n=>some n|_=>none
def V.n9:V->aj Bool|.bool b=>some b|_=>none
def V.SA:V->aj ByteArray|.str s=>some s|_=>none
def V.fh(t:TC)(o:Nat):V->aj (aa (T t))
 |.sl D C _ l=>bif Nat.beq C o ||(Nat.ble (full t+2) C&&Nat.ble (full t+2) o)then (if h:D=t then some (h ▸ l)else none)else none
 |.nil=>some []
 |_=>none
inductive Wk:V->V->Prop
 |same (x:V):Wk x x
 |nil (t:TC) (o:Nat):Wk .nil (.sl t o false [])
 |q (t:TC) (o:Nat) (l:List (T t)):Wk (.sl t o true l) (.sl t o false l)
 |gr (t:TC) (o o':Nat) (qn:Bool) (l:List (T t)) (h:full t+2<=o) (h':full t+2<=o'):Wk (.sl t o' qn l) (.sl t o false l)
def kZ(xs ys:aa V):Prop:=xs.length=ys.length/\∀(j:Nat) (x y:V),xs[j]?=some x->ys[j]?=some y->Wk x y
def kZ.nil:kZ [] []:=⟨rfl,by simp⟩
def kZ.cons{x y:V}{xs ys:aa V}(h:Wk x y)(k:kZ xs ys):kZ (x :: xs) (y :: ys):=by
 refine⟨by simp[k.1],λj a b C hb=>?_⟩
 cases j with
 |zero=>simp_all
 |succ j=>simp at C hb;exact k.2 j a b C hb
def V.alp{x:V}{n:Int}(h:x.bg=some n):Wk x (.int .i64 n):=by
 unfold V.bg at h;split at h<;>first|(injection h with h;subst h;exact .same _)|cases h
def V.alq{x:V}{n:Int}(h:x.Sz=some n):Wk x (.int .u8 n):=by
 unfold V.Sz at h;split at h<;>first|(injection h with h;subst h;exact .same _)|cases h
def V.alr{x:V}{n:Bool}(h:x.n9=some n):Wk x (.bool n):=by
 unfold V.n9 at h;split at h<;>first|(injection h with h;subst h;exact .same _)|cases h
def V.als{x:V}{n:ByteArray}(h:x.SA=some n):Wk x (.str n):=by
 unfold V.SA at h;split at h<;>first|(injection h with h;subst h;exact .same _)|cases h
def V.F7{x:V}{t:TC}{o:Nat}{l:aa (T t)}(h:x.fh t o=some l):Wk x (.sl t o false l):=by
 unfold V.fh at h;split at h
 ·rename_i E C q I;cases hc:(Nat.beq C o || (Nat.ble (full t+2) C&&Nat.ble (full t+2) o))with
  |false=>simp_all
  | true=>
   rw[hc,aq]at h;split at h
   ·rename_i D;subst D;injection h with h;subst h;rw[eA,aO]at hc;rcases hc with hc | hc
    ·obtain rfl:=cC hc;cases q
     ·exact .same _
     ·exact .q _ _ _
    ·exact .gr _ _ _ _ _ (cK hc.2) (cK hc.1)
   ·cases h
 ·injection h with h;subst h;exact .nil _ _
 ·cases h
def Df(x:aM)(o:Nat):aa V:=[.int .i64 x.ay,.int .i64 x.row,.int .i64 x.bO]
def Dg(x:aE)(o:Nat):aa V:=[.int .i64 x.kind,.int .i64 x.ay,.int .i64 x.row,.int .i64 x.bO]
def Dh(x:aZ)(o:Nat):aa V:=[.int .i64 x.id,.int .i64 x.dL,.int .i64 x.line,.bool x.write,.int .i64 x.data,.int .i64 x.at_]
def Di(x:av)(o:Nat):aa V:=[.int .i64 x.config.ax.bK,.int .i64 x.config.ax.aA,.int .i64 x.config.ax.rows,.int .i64 x.config.ax.aL,.int .i64 x.config.bX.kJ,.int .i64 x.config.bX.rp,.int .i64 x.config.bX.gG,.int .i64 x.config.bX.nW,.int .i64 x.config.bX.kK,.int .i64 x.config.bX.iN,.int .i64 x.config.bX.nX,.int .i64 x.config.bX.nY,.int .i64 x.config.bX.jl,.int .i64 x.config.bX.wr,.int .i64 x.config.bX.nZ,.int .i64 x.config.bX.n5,.int .i64 x.config.bX.qM,.int .i64 x.config.bX.n6,.int .i64 x.config.bX.oK,.int .i64 x.config.bX.xp,.int .i64 x.config.bX.xs,.int .i64 x.config.mapping.order,.bool x.config.mapping.hash,.int .i64 x.config.bM,.int .i64 x.config.interval,.int .i64 x.config.iF,.int .i64 x.config.eC.bC,.int .i64 x.config.eC.bw,.int .i64 x.box.bT.eU,.int .i64 x.box.bT.cap,.int .i64 x.box.bT.fl,.int .i64 x.box.bT.low,.int .i64 x.box.bT.high,.sl .int o false x.box.bT.weights,.int .i64 x.box.bT.eB.down,.int .i64 x.box.bT.eB.sleep,.int .i64 x.box.next.eU,.int .i64 x.box.next.cap,.int .i64 x.box.next.fl,.int .i64 x.box.next.low,.int .i64 x.box.next.high,.sl .int o false x.box.next.weights,.int .i64 x.box.next.eB.down,.int .i64 x.box.next.eB.sleep,.bool x.box.waits,.int .i64 x.now,.sl .jB o false x.aY.aA,.int .i64 x.aY.aT,.sl .int o false x.ready.last,.sl .int o false x.ready.aU,.sl .Cell o false x.array.cells,.sl .int o false x.array.bC,.sl .int o false x.array.bw,.int .i64 x.spare.bM,.sl .int o false x.spare.map,.sl .int o false x.aS.aJ,.int .i64 x.aS.wait,.bool x.aS.eP,.sl .iO o false x.bI,.sl .int o false x.guard,.sl .Addr o false x.pending,.sl .dM o false x.queue,.sl .gw o false x.shares,.bool x.drain.on,.int .i64 x.drain.low,.int .i64 x.drain.high,.int .i64 x.aT.state,.int .i64 x.aT.since,.int .i64 x.aT.idle,.int .i64 x.cU.next,.int .i64 x.cU.every,.int .i64 x.cU.wait,.sl .gH o false x.errors,.sl .Event o false x.trace,.sl .pU o false x.cr]
def enc:(t:TC)->(o:Nat)->T t->aa V
 |.int,_,x=>[.int .i64 x]
 |.u8,_,x=>[.int .u8 x]
 |.bool,_,x=>[.bool x]
 |.str,_,x=>[.str x]
 |.fo,o,x=>[.int .i64 x.bK,.int .i64 x.aA,.int .i64 x.rows,.int .i64 x.aL]
 |.Addr,o,x=>Df x o
 |.r4,o,x=>[.int .i64 x.order,.bool x.hash]
 |.Command,o,x=>Dg x o
 |.jn,o,x=>[.int .i64 x.kJ,.int .i64 x.rp,.int .i64 x.gG,.int .i64 x.nW,.int .i64 x.kK,.int .i64 x.iN,.int .i64 x.nX,.int .i64 x.nY,.int .i64 x.jl,.int .i64 x.wr,.int .i64 x.nZ,.int .i64 x.n5,.int .i64 x.qM,.int .i64 x.n6,.int .i64 x.oK,.int .i64 x.xp,.int .i64 x.xs]
 |.jB,o,x=>[.bool x.open_,.int .i64 x.row]
 |.gX,o,x=>[.sl .jB o false x.aA,.int .i64 x.aT]
 |.Event,o,x=>[.int .i64 x.at_,.int .i64 x.cmd.kind,.int .i64 x.cmd.ay,.int .i64 x.cmd.row,.int .i64 x.cmd.bO]
 |.ny,o,x=>[.sl .int o false x.last,.sl .int o false x.aU]
 |.Cell,o,x=>[.sl .int o false x.symbols,.bool x.jm]
 |.Array,o,x=>[.sl .Cell o false x.cells,.sl .int o false x.bC,.sl .int o false x.bw]
 |.td,o,x=>[.int .i64 x.bC,.int .i64 x.bw]
 |.iO,o,x=>[.sl .int o false x.rows,.sl .int o false x.counts,.int .i64 x.dg]
 |.oM,o,x=>[.int .i64 x.bM,.sl .int o false x.map]
 |.lS,o,x=>[.sl .int o false x.aJ,.int .i64 x.wait,.bool x.eP]
 |.dM,o,x=>Dh x o
 |.gw,o,x=>[.int .i64 x.weight,.int .i64 x.fJ]
 |.qO,o,x=>[.bool x.on,.int .i64 x.low,.int .i64 x.high]
 |.Power,o,x=>[.int .i64 x.state,.int .i64 x.since,.int .i64 x.idle]
 |.tf,o,x=>[.int .i64 x.down,.int .i64 x.sleep]
 |.gH,o,x=>[.int .i64 x.line,.int .i64 x.code,.int .i64 x.times]
 |.uN,o,x=>[.int .i64 x.next,.int .i64 x.every,.int .i64 x.wait]
 |.n8,o,x=>[.int .i64 x.eU,.int .i64 x.cap,.int .i64 x.fl,.int .i64 x.low,.int .i64 x.high,.sl .int o false x.weights,.int .i64 x.eB.down,.int .i64 x.eB.sleep]
 |.pT,o,x=>[.int .i64 x.bT.eU,.int .i64 x.bT.cap,.int .i64 x.bT.fl,.int .i64 x.bT.low,.int .i64 x.bT.high,.sl .int o false x.bT.weights,.int .i64 x.bT.eB.down,.int .i64 x.bT.eB.sleep,.int .i64 x.next.eU,.int .i64 x.next.cap,.int .i64 x.next.fl,.int .i64 x.next.low,.int .i64 x.next.high,.sl .int o false x.next.weights,.int .i64 x.next.eB.down,.int .i64 x.next.eB.sleep,.bool x.waits]
 |.Config,o,x=>[.int .i64 x.ax.bK,.int .i64 x.ax.aA,.int .i64 x.ax.rows,.int .i64 x.ax.aL,.int .i64 x.bX.kJ,.int .i64 x.bX.rp,.int .i64 x.bX.gG,.int .i64 x.bX.nW,.int .i64 x.bX.kK,.int .i64 x.bX.iN,.int .i64 x.bX.nX,.int .i64 x.bX.nY,.int .i64 x.bX.jl,.int .i64 x.bX.wr,.int .i64 x.bX.nZ,.int .i64 x.bX.n5,.int .i64 x.bX.qM,.int .i64 x.bX.n6,.int .i64 x.bX.oK,.int .i64 x.bX.xp,.int .i64 x.bX.xs,.int .i64 x.mapping.order,.bool x.mapping.hash,.int .i64 x.bM,.int .i64 x.interval,.int .i64 x.iF,.int .i64 x.eC.bC,.int .i64 x.eC.bw]
 |.pU,o,x=>[.int .i64 x.id,.int .i64 x.at_,.int .i64 x.data,.int .i64 x.code]
 |.cO,o,x=>Di x o
 |.Act,o,x=>[.int .i64 x.kind,.int .i64 x.request.id,.int .i64 x.request.dL,.int .i64 x.request.line,.bool x.request.write,.int .i64 x.request.data,.int .i64 x.request.at_,.int .i64 x.n,.int .i64 x.yA,.int .i64 x.addr.ay,.int .i64 x.addr.row,.int .i64 x.addr.bO,.int .i64 x.n7.eU,.int .i64 x.n7.cap,.int .i64 x.n7.fl,.int .i64 x.n7.low,.int .i64 x.n7.high,.sl .int o false x.n7.weights,.int .i64 x.n7.eB.down,.int .i64 x.n7.eB.sleep]
 |.r5,o,x=>[.sl .u8 o false x.b,.int .i64 x.i,.int .i64 x.h]
 |.sl t,o,x=>[.sl t o false x]
 |.lT,o,x=>.bool true::Di x o
 |.AU g,o,x=>.bool false::.int .i64 (g:Int)::[.int .i64 x]
 |.F6 g,o,x=>.bool false::.int .i64 (g:Int)::Dh x o
 |.AV g,o,x=>.bool false::.int .i64 (g:Int)::Df x o
 |.fnCommand g,o,x=>.bool false::.int .i64 (g:Int)::Dg x o
def dF{α β:Type}(g:V->aj β)(f:β->aa V->aj α):aa V->aj α
 |x::cs=>(g x).bind λy=>f y cs
 |[]=>none
def dE{α:Type}(x:α):aa V->aj α
 |[]=>some x
 |_=>none
def V.dw(b:Bool):V->aj Bool|.bool c=>bif c==b then some c else none|_=>none
def V.Dj(n:Int):V->aj Int|.int .i64 m=>if m=n then some m else none|_=>none
def DQ{α:Type}(e:α->aa V)(p:aa V->aa V)(d:aa V->aj α):Prop:=∀cs x,d cs=some x->∃L,e x=p L/\kZ cs L
def alu{α:Type}{e:α->aa V}{p:aa V->aa V}{x:α}(h:e x=p []):DQ e p (dE x):=λcs y C=>by
 cases cs with
 |nil=>injection C with C;subst C;exact⟨[],h,.nil⟩
 |cons=>cases C
def bind_some{α β:Type}{a:aj α}{f:α -> aj β}{b:β}(h:a.bind f=some b):∃ x,a=some x/\f x=some b:=by
 cases a with
 |none=>cases h
 |some x=>simp_all
def AX{α β:Type}{e:α->aa V}{p:aa V->aa V}{g:V->aj β}{k:β->V}(D:∀ {x y},g x=some y->Wk x (k y)){f:β->aa V->aj α}(E:∀ y,DQ e (λL=>p (k y :: L)) (f y)):DQ e p (dF g f):=λcs x C=>by
 cases cs with
 |nil=>cases C
 | cons c cs=>
  obtain⟨y,I,O⟩:=bind_some C;obtain⟨L,T,U⟩:=E y cs x O;exact⟨k y::L,T,.cons (D I) U⟩
def V.alv{b:Bool}{x:V}{c:Bool}(h:x.dw b=some c):Wk x (.bool b):=by
 unfold V.dw at h;split at h
 next C=>cases C<;>cases b<;>first|exact .same _|cases h
 ·cases h
def V.alw{n:Int}{x:V}{c:Int}(h:x.Dj n=some c):Wk x (.int .i64 n):=by
 unfold V.Dj at h;split at h
 ·split at h
  next C=>subst C;exact .same _
  ·cases h
 ·cases h
abbrev ZD (o:Nat):aa V->aj aM:=dF V.bg λC=>dF V.bg λD=>dF V.bg λE=>dE ⟨C,D,E⟩
abbrev ZE (o:Nat):aa V->aj aE:=dF V.bg λC=>dF V.bg λD=>dF V.bg λE=>dF V.bg λI=>dE ⟨C,D,E,I⟩
abbrev ZF (o:Nat):aa V->aj aZ:=dF V.bg λC=>dF V.bg λD=>dF V.bg λE=>dF V.n9 λI=>dF V.bg λL=>dF V.bg λO=>dE ⟨C,D,E,I,L,O⟩
abbrev ZG (o:Nat):aa V->aj av:=dF V.bg λC=>dF V.bg λD=>dF V.bg λE=>dF V.bg λI=>dF V.bg λL=>dF V.bg λO=>dF V.bg λT=>dF V.bg λU=>dF V.bg λY=>dF V.bg λZ=>dF V.bg λwh=>dF V.bg λwj=>dF V.bg λwm=>dF V.bg λwo=>dF V.bg λwq=>dF V.bg λwu=>dF V.bg λwz=>dF V.bg λF8=>dF V.bg λF9=>dF V.bg λGa=>dF V.bg λSB=>dF V.bg λSC=>dF V.n9 λSD=>dF V.bg λSE=>dF V.bg λSF=>dF V.bg λSG=>dF V.bg λSH=>dF V.bg λSI=>dF V.bg λx28=>dF V.bg λx29=>dF V.bg λx30=>dF V.bg λx31=>dF V.bg λx32=>dF (V.fh .int o) λx33=>dF V.bg λx34=>dF V.bg λx35=>dF V.bg λx36=>dF V.bg λx37=>dF V.bg λx38=>dF V.bg λx39=>dF V.bg λx40=>dF (V.fh .int o) λx41=>dF V.bg λx42=>dF V.bg λx43=>dF V.n9 λx44=>dF V.bg λx45=>dF (V.fh .jB o) λx46=>dF V.bg λx47=>dF (V.fh .int o) λx48=>dF (V.fh .int o) λx49=>dF (V.fh .Cell o) λx50=>dF (V.fh .int o) λx51=>dF (V.fh .int o) λx52=>dF V.bg λx53=>dF (V.fh .int o) λx54=>dF (V.fh .int o) λx55=>dF V.bg λx56=>dF V.n9 λx57=>dF (V.fh .iO o) λx58=>dF (V.fh .int o) λx59=>dF (V.fh .Addr o) λx60=>dF (V.fh .dM o) λx61=>dF (V.fh .gw o) λx62=>dF V.n9 λx63=>dF V.bg λx64=>dF V.bg λx65=>dF V.bg λx66=>dF V.bg λx67=>dF V.bg λx68=>dF V.bg λx69=>dF V.bg λx70=>dF V.bg λx71=>dF (V.fh .gH o) λx72=>dF (V.fh .Event o) λx73=>dF (V.fh .pU o) λx74=>dE ⟨⟨⟨C,D,E,I⟩,⟨L,O,T,U,Y,Z,wh,wj,wm,wo,wq,wu,wz,F8,F9,Ga,SB⟩,⟨SC,SD⟩,SE,SF,SG,⟨SH,SI⟩⟩,⟨⟨x28,x29,x30,x31,x32,x33,⟨x34,x35⟩⟩,⟨x36,x37,x38,x39,x40,x41,⟨x42,x43⟩⟩,x44⟩,x45,⟨x46,x47⟩,⟨x48,x49⟩,⟨x50,x51,x52⟩,⟨x53,x54⟩,⟨x55,x56,x57⟩,x58,x59,x60,x61,x62,⟨x63,x64,x65⟩,⟨x66,x67,x68⟩,⟨x69,x70,x71⟩,x72,x73,x74⟩
def dec:(t:TC)->(o:Nat)->aa V->aj (T t)
 |.int,_=>dF V.bg dE
 |.u8,_=>dF V.Sz dE
 |.bool,_=>dF V.n9 dE
 |.str,_=>dF V.SA dE
 |.fo,o=>dF V.bg λC=>dF V.bg λD=>dF V.bg λE=>dF V.bg λI=>dE ⟨C,D,E,I⟩
 |.Addr,o=>ZD o
 |.r4,o=>dF V.bg λC=>dF V.n9 λD=>dE ⟨C,D⟩
 |.Command,o=>ZE o
 |.jn,o=>dF V.bg λC=>dF V.bg λD=>dF V.bg λE=>dF V.bg λI=>dF V.bg λL=>dF V.bg λO=>dF V.bg λU=>dF V.bg λY=>dF V.bg λZ=>dF V.bg λx9=>dF V.bg λwh=>dF V.bg λwj=>dF V.bg λwm=>dF V.bg λwo=>dF V.bg λwq=>dF V.bg λwu=>dF V.bg λwz=>dE ⟨C,D,E,I,L,O,U,Y,Z,x9,wh,wj,wm,wo,wq,wu,wz⟩
 |.jB,o=>dF V.n9 λC=>dF V.bg λD=>dE ⟨C,D⟩
 |.gX,o=>dF (V.fh .jB o) λC=>dF V.bg λD=>dE ⟨C,D⟩
 |.Event,o=>dF V.bg λC=>dF V.bg λD=>dF V.bg λE=>dF V.bg λI=>dF V.bg λL=>dE ⟨C,⟨D,E,I,L⟩⟩
 |.ny,o=>dF (V.fh .int o) λC=>dF (V.fh .int o) λD=>dE ⟨C,D⟩
 |.Cell,o=>dF (V.fh .int o) λC=>dF V.n9 λD=>dE ⟨C,D⟩
 |.Array,o=>dF (V.fh .Cell o) λC=>dF (V.fh .int o) λD=>dF (V.fh .int o) λE=>dE ⟨C,D,E⟩
 |.td,o=>dF V.bg λC=>dF V.bg λD=>dE ⟨C,D⟩
 |.iO,o=>dF (V.fh .int o) λC=>dF (V.fh .int o) λD=>dF V.bg λE=>dE ⟨C,D,E⟩
 |.oM,o=>dF V.bg λC=>dF (V.fh .int o) λD=>dE ⟨C,D⟩
 |.lS,o=>dF (V.fh .int o) λC=>dF V.bg λD=>dF V.n9 λE=>dE ⟨C,D,E⟩
 |.dM,o=>ZF o
 |.gw,o=>dF V.bg λC=>dF V.bg λD=>dE ⟨C,D⟩
 |.qO,o=>dF V.n9 λC=>dF V.bg λD=>dF V.bg λE=>dE ⟨C,D,E⟩
 |.Power,o=>dF V.bg λC=>dF V.bg λD=>dF V.bg λE=>dE ⟨C,D,E⟩
 |.tf,o=>dF V.bg λC=>dF V.bg λD=>dE ⟨C,D⟩
 |.gH,o=>dF V.bg λC=>dF V.bg λD=>dF V.bg λE=>dE ⟨C,D,E⟩
 |.uN,o=>dF V.bg λC=>dF V.bg λD=>dF V.bg λE=>dE ⟨C,D,E⟩
 |.n8,o=>dF V.bg λC=>dF V.bg λD=>dF V.bg λE=>dF V.bg λI=>dF V.bg λL=>dF (V.fh .int o) λO=>dF V.bg λU=>dF V.bg λY=>dE ⟨C,D,E,I,L,O,⟨U,Y⟩⟩
 |.pT,o=>dF V.bg λC=>dF V.bg λD=>dF V.bg λE=>dF V.bg λI=>dF V.bg λL=>dF (V.fh .int o) λO=>dF V.bg λU=>dF V.bg λY=>dF V.bg λZ=>dF V.bg λx9=>dF V.bg λwh=>dF V.bg λwj=>dF V.bg λwm=>dF (V.fh .int o) λwo=>dF V.bg λwq=>dF V.bg λwu=>dF V.n9 λwz=>dE ⟨⟨C,D,E,I,L,O,⟨U,Y⟩⟩,⟨Z,x9,wh,wj,wm,wo,⟨wq,wu⟩⟩,wz⟩
 |.Config,o=>dF V.bg λC=>dF V.bg λD=>dF V.bg λE=>dF V.bg λI=>dF V.bg λL=>dF V.bg λO=>dF V.bg λU=>dF V.bg λY=>dF V.bg λZ=>dF V.bg λx9=>dF V.bg λwh=>dF V.bg λwj=>dF V.bg λwm=>dF V.bg λwo=>dF V.bg λwq=>dF V.bg λwu=>dF V.bg λwz=>dF V.bg λF8=>dF V.bg λF9=>dF V.bg λGa=>dF V.bg λSB=>dF V.bg λSC=>dF V.n9 λSD=>dF V.bg λSE=>dF V.bg λSF=>dF V.bg λSG=>dF V.bg λSH=>dF V.bg λSI=>dE ⟨⟨C,D,E,I⟩,⟨L,O,U,Y,Z,x9,wh,wj,wm,wo,wq,wu,wz,F8,F9,Ga,SB⟩,⟨SC,SD⟩,SE,SF,SG,⟨SH,SI⟩⟩
 |.pU,o=>dF V.bg λC=>dF V.bg λD=>dF V.bg λE=>dF V.bg λI=>dE ⟨C,D,E,I⟩
 |.cO,o=>ZG o
 |.Act,o=>dF V.bg λC=>dF V.bg λD=>dF V.bg λE=>dF V.bg λI=>dF V.n9 λL=>dF V.bg λO=>dF V.bg λU=>dF V.bg λY=>dF V.bg λZ=>dF V.bg λx9=>dF V.bg λwh=>dF V.bg λwj=>dF V.bg λwm=>dF V.bg λwo=>dF V.bg λwq=>dF V.bg λwu=>dF V.bg λwz=>dF (V.fh .int o) λF8=>dF V.bg λF9=>dF V.bg λGa=>dE ⟨C,⟨D,E,I,L,O,U⟩,Y,Z,⟨x9,wh,wj⟩,⟨wm,wo,wq,wu,wz,F8,⟨F9,Ga⟩⟩⟩
 |.r5,o=>dF (V.fh .u8 o) λC=>dF V.bg λD=>dF V.bg λE=>dE ⟨C,D,E⟩
 |.sl t,o=>dF (V.fh t o) dE
 |.lT,o=>dF (V.dw true) λ_=>ZG o
 |.AU g,o=>dF (V.dw false) λ_=>dF (V.Dj g) λ_=>dF V.bg dE
 |.F6 g,o=>dF (V.dw false) λ_=>dF (V.Dj g) λ_=>ZF o
 |.AV g,o=>dF (V.dw false) λ_=>dF (V.Dj g) λ_=>ZD o
 |.fnCommand g,o=>dF (V.dw false) λ_=>dF (V.Dj g) λ_=>ZE o
def ZH:TC->Nat->aa V
 |.cO,o=>Di ⟨⟨⟨0,0,0,0⟩,⟨0,0,0,0,0,0,0,0,0,0,0,0,0,0,0,0,0⟩,⟨0,false⟩,0,0,0,⟨0,0⟩⟩,⟨⟨0,0,0,0,0,[],⟨0,0⟩⟩,⟨0,0,0,0,0,[],⟨0,0⟩⟩,false⟩,0,⟨[],0⟩,⟨[],[]⟩,⟨[],[],[]⟩,⟨0,[]⟩,⟨[],0,false⟩,[],[],[],[],[],⟨false,0,0⟩,⟨0,0,0⟩,⟨0,0,0⟩,[],[],[]⟩ o
 |_,_=>[]
def kL(t:TC)(o:Nat)(x:T t):(enc t o x).length=aF t:=by cases t<;>rfl
def oN(t:TC):0<aF t:=by cases t<;>simp[aF]
def alx(t:TC)(o:Nat):DQ (enc t o) id (dec t o):=by
 cases t<;>dsimp only[dec]<;>(repeat' first|exact alu rfl|refine AX V.alp λ_=>?_|refine AX V.alr λ_=>?_|refine AX V.F7 λ_=>?_|refine AX V.als λ_=>?_|refine AX V.alq λ_=>?_|refine AX V.alv λ_=>?_|refine AX V.alw λ_=>?_)
def lU(t:TC)(o:Nat)(cs:aa V)(x:T t)(h:dec t o cs=some x):kZ cs (enc t o x):=by
 obtain⟨L,C,D⟩:=alx t o cs x h;rw[C];exact D
def V.low(n:Nat):V->Bool
 |.sl t _ _ _=>Nat.ble (full t+2) n
 |_=>true
def L4(t:TC)(o:Nat)(x:T t):∀ y∈enc t o x,y.low (full t)=true:=by
 cases t<;>simp[enc,V.low,full,Df,Dg,Dh,Di]
def V.plain:V->Bool
 |.int _ _|.bool _|.str _=>true
 |_=>false
def yB(t:TC)(o:Nat)(x:T t)(h:full t=0):∀ y∈enc t o x,y.plain=true:=by
 cases t<;>first|(simp[full]at h;done)|simp[enc,V.plain,Df,Dg,Dh]
def V.jW:V->Bool
 |.nil=>false
 |_=>true
def SJ(t:TC)(o:Nat)(x:T t):∀ y∈enc t o x,y.jW=true:=by
 cases t<;>simp[enc,V.jW,Df,Dg,Dh,Di]
def tcs:aa TC:=[.int,.u8,.bool,.str,.sl .int,.sl .bool,.sl .str,.fo,.Addr,.r4,.Command,.jn,.jB,.gX,.Event,.ny,.Cell,.Array,.td,.iO,.oM,.lS,.dM,.gw,.qO,.Power,.tf,.gH,.uN,.n8,.pT,.Config,.pU,.cO,.Act,.r5]
def ZI(e:TypeId):aj TC:=tcs.find? λt=>Nat.beq (tid t) e
def aly{e:TypeId}{t:TC}(h:ZI e=some t):tid t=e:=cC (List.find?_some (p:=λt=>Nat.beq (tid t) e) h)
def V.gr(o:Nat):V->Bool
 |.sl _ C _ _=>C==o
 |_=>true
def yC(t:TC)(o:Nat)(x:T t):∀ y∈enc t o x,y.gr o=true:=by
 cases t<;>simp[enc,V.gr,Df,Dg,Dh,Di]
def V.aH:V->Bool
 |.sl _ o _ _=>decide (o<2)
 |_=>true
def V.gp:V->V
 |.sl t _ q l=>.sl t 0 q l
 |x=>x
def alz(t:TC)(o:Nat)(x y:T t):(enc t o x).map (λv=>(v.plain,v.aH))=(enc t o y).map (λv=>(v.plain,v.aH)):=by cases t<;>rfl
def V.alA(x:V):x.gp.aH=true:=by cases x<;>simp[V.gp,V.aH]
def pV(t:TC)(o:Nat)(x:T t)(C:o<2)(j:Nat)(y:V)(h:(enc t o x)[j]?=some y):y.aH=true:=by
 have:=yC t o x y (gF h);cases y<;>simp_all [V.gr,V.aH]
def ZJ(t:TC)(o:Nat)(x:T t):enc t 0 x=(enc t o x).map V.gp:=by cases t<;>rfl
def wA(t:TC)(o:Nat)(x:T t)(j:Nat)(y:V)(h:(enc t 0 x)[j]?=some y):∃ z,(enc t o x)[j]?=some z/\y=z.gp:=by
 rw[ZJ t o x,eH]at h
 grind
def inner:Nat->Nat
 |0=>0
 |1=>1
 |n+2=>n
abbrev bE:=Nat->aj (aa Nat)
inductive RV (w:World) (B:Nat) (ah:bE):List Nat->V->Value->Prop
 |int (q:List Nat) (k:IntKind) (n:Int):RV w B ah q (.int k n) (.int k n)
 |bool (q:List Nat) (b:Bool):RV w B ah q (.bool b) (.bool b)
 |str (q:List Nat) (s:ByteArray):RV w B ah q (.str s) (.string s)
 |nil (q:List Nat):RV w B ah q .nil (.slice none 0 0)
 |eD (q:List Nat) (t:TC) (o:Nat):RV w B ah q (.sl t o false []) (.slice none 0 0)
 |fF (q:List Nat) (t:TC) (o:Nat) (A:Addr) (c:Nat) (ho:o<2):RV w B ah q (.sl t o false []) (.slice (some A) 0 c)
 |fV (q:List Nat) (t:TC) (o:Nat) (A:Addr) (c:Nat) (ho:o<2):RV w B ah q (.sl t o true []) (.slice (some A) 0 c)
 | aH (q:List Nat) (t:TC) (o:Nat) (qn:Bool) (l:List (T t)) (b off cap:Nat) (u:Nat->Nat->Value) (ho:o<2) (hl:ah b=none) (hb:b<w.heap.size) (h1:o=1->B<=b) (lV:l.length<=cap)
   (hc:∀i (h:i<l.length) j x,(enc t o l[i])[j]?=some x->w.cell? ⟨b,off+(i*aF t+j),none⟩=some (u i j))
   (hr:∀i (h:i<l.length) j x,(enc t o l[i])[j]?=some x->RV w B ah [] x (u i j)):RV w B ah q (.sl t o qn l) (.slice (some ⟨b,off,none⟩) l.length cap)
 | own (q:List Nat) (t:TC) (o:Nat) (qn:Bool) (l:List (T t)) (b cap:Nat) (cs:Array Value) (u:Nat->Nat->Value) (hl:ah b=some q) (hh:w.heap[b]?=some (.cells cs (tid t) (0,0)))
   (hs:cs.size=cap*aF t) (hn:l.length<=cap) (hm:cap<=maxLen/\(qn=true->cap=l.length))
   (hc:∀i (h:i<l.length) j x,(enc t o l[i])[j]?=some x->cs[i*aF t+j]?=some (u i j))
   (hr:∀i (h:i<l.length) j x,(enc t o l[i])[j]?=some x->RV w B ah (j::i::aF t::q) x (u i j)):RV w B ah q (.sl t (o+2) qn l) (.slice (some ⟨b,0,none⟩) l.length cap)
section
variable {w w':World} {B:Nat} {ah aD:bE}
def V.Gb(n:Nat):V->V
 |.sl t _ q l=>.sl t n q l
 |x=>x
def alB(t:TC)(o n:Nat)(x:T t):enc t n x=(enc t o x).map (V.Gb n):=by cases t<;>rfl
def V.fu(n:Nat):V->Prop
 |.sl t o _ _=>full t+2<=o/\full t+2<=n
 |_=>True
def RV.Gb{q:aa Nat}{x:V}{v:Value}(h:RV w B ah q x v):∀ n,x.fu n -> RV w B ah q (x.Gb n) v:=by
 induction h with
 |int=>exact λ_ _=>.int _ _ _
 |bool=>exact λ_ _=>.bool _ _
 |str=>exact λ_ _=>.str _ _
 |nil=>exact λ_ _=>.nil _
 |eD=>exact λ_ _=>.eD _ _ _
 |fF q t o A c I=>exact λn C=>by have:=C.1;omega
 |fV q t o A c I=>exact λn C=>by have:=C.1;omega
 |aH q t o L l b off cap u I hl hb O lV T U Y=>exact λn C=>by have:=C.1;omega
 | own q t o L l b cap cs u hl Z hs C hm T U Y=>
  intro n hf;obtain⟨O,h2⟩:=hf;obtain⟨m,rfl⟩:∃m,n=m+2:=⟨n-2,by omega⟩
  have key:∀ (i:Nat) (h:i<l.length) (j:Nat) (x:V),(enc t m l[i])[j]?=some x -> ∃ y:V,(enc t o l[i])[j]?=some y/\y.Gb m=x/\y.fu m:=by
   intro i h j x D;rw[alB t o m l[i],eH]at D;cases E:(enc t o l[i])[j]? with
   |none=>simp_all
   | some y=>
    rw[E]at D;injection D with D;refine⟨y,rfl,D,?_⟩;have g1:=yC t o l[i] y (gF E);have g2:=L4 t o l[i] y (gF E);cases y with
    | sl t' o' q' l'=>
     have e:o'=o:=by simpa [V.gr]using g1
     have:=cK (show Nat.ble _ _=true from g2);exact⟨by omega,by omega⟩
    |_=>trivial
  refine .own _ _ _ _ _ _ _ cs u hl Z hs C hm (λi h j x D=>?_) (λi h j x D=>?_)
  ·grind
  ·grind
def RV.wk{q:aa Nat}{x y:V}{v:Value}(h:RV w B ah q x v)(k:Wk x y):RV w B ah q y v:=by
 cases k with
 |same=>exact h
 |nil t o=>cases h;exact .eD _ _ _
 | gr t o o' I l L h2=>
  have h:=h.Gb o ⟨h2,L⟩;cases h with
  |eD=>exact .eD _ _ _
  |fF q t o A c C=>grind
  |fV q t o A c C=>grind
  |aH q t o I l b off cap u C hl hb L Z D E=>grind
  |own q t o I l b cap cs u hl O T U Y D E=>exact .own _ _ _ _ _ _ _ cs u hl O T U ⟨Y.1,λh=>by cases h⟩ D E
 | q t o l=>
  cases h with
  |fV q t o A c C=>exact .fF _ _ _ _ _ C
  |aH q t o I l b off cap u C hl hb L Z D E=>exact .aH _ _ _ _ _ _ _ _ u C hl hb L Z D E
  |own q t o I l b cap cs u hl O T U Y D E=>exact .own _ _ _ _ _ _ _ cs u hl O T U ⟨Y.1,λh=>by cases h⟩ D E
def RV.map{Q:aa Nat->aa Nat->Prop}(Y:w.heap.size<=w'.heap.size)(Z:∀ b,b<w.heap.size->ah b=none->w'.heap[b]?=w.heap[b]?/\aD b=none)
  (h1:∀b q C,b<w.heap.size->ah b=some q->Q q C->w'.heap[b]?=w.heap[b]?/\aD b=some C/\∀j i s,Q (j::i::s::q) (j::i::s::C)) {q C:aa Nat} {x:V} {v:Value} (h:RV w B ah q x v) (hq:x.aH=true\/Q q C):RV w' B aD C x v:=by
 induction h generalizing C with
 |int=>exact .int _ _ _
 |bool=>exact .bool _ _
 |str=>exact .str _ _
 |nil=>exact .nil _
 |eD=>exact .eD _ _ _
 |fF _ _ _ _ _ D=>exact .fF _ _ _ _ _ D
 |fV _ _ _ _ _ D=>exact .fV _ _ _ _ _ D
 | aH q t o qn l b off cap u D hl hb ZK lV I hr L=>
  obtain⟨O,T⟩:=Z b hb hl;exact .aH _ _ _ _ _ _ _ _ u D T (Nat.lt_of_lt_of_le hb Y) ZK lV (λi h j x E=>(World.cell?_of_block (a:=⟨b,_,none⟩) O).trans (I i h j x E)) (λi h j x E=>L i h j x E (.inl (pV t o l[i] D j x E)))
 | own q t o qn l b cap cs u hl U hs hn hm I hr L=>
  obtain⟨O,T,e3⟩:=h1 b q C (iB.1 U).1 hl (hq.resolve_left (by simp[V.aH]));exact .own _ _ _ _ _ _ _ cs u T (O.trans U) hs hn hm I (λi h j x E=>L i h j x E (.inr (e3 _ _ _)))
def RV.ZL{q C:aa Nat}{x:V}{v:Value}(h:RV w B ah q x v)(D:x.aH=true)(hl:∀ b,ah b=none->aD b=none):RV w B aD C x v:=
 h.map (Q:=λ_ _=>False) (dx _) (λb _ h=>⟨rfl,hl b h⟩) (λ_ _ _ _ _ h=>h.elim) (.inl D)
def RV.L5{q:aa Nat}{x:V}{v:Value}(h:RV w B ah q x v)(C:x.aH=true)(hl:∀b,ah b=none->aD b=none):RV w B aD q x v:=h.ZL C hl
def RV.key{q C:aa Nat}{x:V}{v:Value}(h:RV w B ah q x v)(D:x.aH=true):RV w B ah C x v:=h.ZL D λ_ h=>h
def mD:Value->Bool
 |.slice ..=>true
 |_=>false
def RV.SK{q:aa Nat}{x:V}{u:Value}(h:RV w B ah q x u)(C:x.aH=false):mD u=true:=by
 cases h<;>first|rfl|cases C
def RV.one{q:aa Nat}{x:V}{u:Value}(h:RV w B ah q x u):u.oneCell'=true:=by
 cases h<;>rfl
def RV.ld{q:aa Nat}{x:V}{v:Value}(h:RV w B ah q x v)(D:w.heap.size<=w'.heap.size)(C:∀ b,b<w.heap.size->w'.heap[b]?=w.heap[b]?/\aD b=ah b):RV w' B aD q x v:=
 h.map (Q:=Eq) D (λb hb hl=>⟨(C b hb).1,(C b hb).2.trans hl⟩) (λb q E hb hl e=>by subst e;exact⟨(C b hb).1,(C b hb).2.trans hl,λ_ _ _=>rfl⟩) (.inr rfl)
def RV.apart{q kt:aa Nat}{x:V}{v:Value}{bt:Nat}(h:RV w B ah q x v)(C:ah bt=some kt)(I:¬ q <:+ kt\/x.aH=true)(L:w.heap.size<=w'.heap.size)(D:∀ b,b≠bt->w'.heap[b]?=w.heap[b]?):RV w' B ah q x v:=
 h.map (Q:=λq E=>q=E/\¬ q <:+ kt) L (λb _ hl=>⟨D b (by rintro rfl;rw[hl]at C;cases C),hl⟩) (λb q E _ hl e=>by
  obtain⟨rfl,e⟩:=e;exact⟨D b (by rintro rfl;rw[hl]at C;injection C with C;subst C;exact e (List.suffix_refl _)),hl,λj i s=>⟨rfl,λO=>e (List.IsSuffix.trans ⟨[j,i,s],rfl⟩ O)⟩⟩) (I.symm.imp_right λh=>⟨rfl,h⟩)
def RV.gp{q E:aa Nat}{x:V}{v:Value}(h:RV w B ah q x v){B':Nat}:RV w B' (λ_=>none) E x.gp v:=by
 induction h generalizing E with
 |int=>exact .int _ _ _
 |bool=>exact .bool _ _
 |str=>exact .str _ _
 |nil=>exact .nil _
 |eD=>exact .eD _ _ _
 |fF=>exact .fF _ _ _ _ _ (by first|assumption|omega)
 |fV=>exact .fV _ _ _ _ _ (by first|assumption|omega)
 | aH q t o O l b off cap u ho hl hb h1 T I U Y=>
  refine .aH _ _ _ _ _ _ _ _ u (by omega) rfl hb (by omega) T (λi h j x C=>?_) (λi h j x C=>?_)
  ·obtain⟨y,D,_⟩:=wA t o l[i] j x C;simp_all
  ·obtain⟨y,D,rfl⟩:=wA t o l[i] j x C;simp_all
 | own q t o O l b cap cs u hl L hs Z hm I U Y=>
  refine .aH _ _ _ _ _ _ _ _ u (by omega) rfl (iB.1 L).1 (by omega) Z (λi h j x C=>?_) (λi h j x C=>?_)
  ·obtain⟨y,D,_⟩:=wA t o l[i] j x C;have:=I i h j y D;rw[eN,cell_of_row w b _ cs _ _ L];exact this
  ·obtain⟨y,D,rfl⟩:=wA t o l[i] j x C;simp_all
end
set_option linter.unusedVariables false
inductive Lf where
 |v (x:V)
 |own (k:List Nat)
 |dead
inductive A where
 |undef
 |skip
 |lf (x:Lf)
 |agg (cs:List Lf)
 |eV (xs:List (Bool×List Lf))
 |ptr (k:List Nat)
 |aG (r j:Nat)
 |jd (cs:List V)
 |nA (f:Nat) (cs:List V)
 |pk (r n:Nat)
 |view (k:List Nat) (s i j:Nat)
 |fn (f:Nat) (cap:List (Nat×Nat))
inductive aW where
 |aC (cs:List Lf)
 |sl (y:V)
 |mp (l:List (Int×Bool))
 |gh (xs:List A)
structure S where
 t:Nat->A
 m:Nat->Option aW
inductive Loc where
 |aC (b off:Nat)
 |dJ (v:Value)
 |bS (us:List Value)
def addrAt(w:World)(ah:bE)(ρ:Nat->Loc):aa Nat->aj Addr
 | j :: i :: s :: [r]=>match ρ r with
  |.dJ (.slice (some ⟨b,0,none⟩) _ _)=>if ah b=some [r]then some ⟨b,i*s+j,none⟩else none
  |_=>none
 | j :: i :: s :: q=>match (addrAt w ah ρ q).bind w.cell? with
  |some (.slice (some ⟨b,0,none⟩) _ _)=>if ah b=some q then some ⟨b,i*s+j,none⟩else none
  |_=>none
 |_=>none
def cW(w:World)(ah:bE)(ρ:Nat->Loc):aa Nat->aj Value
 | [r]=>match ρ r with
  |.dJ v=>some v
  |_=>none
 |q=>(addrAt w ah ρ q).bind w.cell?
def dP(w:World)(B:Nat)(ah:bE)(ρ:Nat->Loc):Lf->Value->Prop
 |.v x,u=>x.aH=true/\RV w B ah [] x u
 |.own k,u=>mD u=true/\cW w ah ρ k=some u
 |.dead,_=>True
def eJ(w:World)(B:Nat)(ah:bE)(ρ:Nat->Loc)(cs:aa Lf)(us:Array Value):Prop:=
 us.size=cs.length/\∀(j:Nat) x,cs[j]?=some x->∃u,us[j]?=some u/\dP w B ah ρ x u
def RP(w:World)(B:Nat)(ah:bE)(ρ:Nat->Loc)(p:Bool×aa Lf)(u:Value):Prop:=
 match p with
 |(true,cs)=>∃us,u = .agg us/\eJ w B ah ρ cs us
 |(false,cs)=>eJ w B ah ρ cs #[u]
def qP:Nat:=4294967296
def L6(b n:Nat):Value:=bif Nat.beq n qP then .map (some b)else .slice (some ⟨b,0,none⟩) n n
def SL{b n:Nat}(h:n<qP):L6 b n = .slice (some ⟨b,0,none⟩) n n:=by
 unfold L6;cases hb:Nat.beq n qP with
 |true=>simp_all
 |false=>rfl
def SM(b:Nat):L6 b qP = .map (some b):=rfl
def RF(w:World)(B:Nat)(ah:bE)(cs:aa V)(u:Value):Prop:=
 ∃b off,u = .pointer (some ⟨b,off,none⟩)/\b<w.heap.size/\ah b=none/\∀(j:Nat) x,cs[j]?=some x->x.aH=true/\∃v,w.cell? ⟨b,off+j,none⟩=some v/\RV w B ah [] x v
def RA(w:World)(B:Nat)(ah:bE)(ρ:Nat->Loc):A->Value->Prop
 |.undef,_=>True
 |.skip,u=>u=Go.undef
 |.lf x,u=>dP w B ah ρ x u
 |.agg cs,u=>RP w B ah ρ (true,cs) u
 |.eV xs,u=>∃us:Array Value,u = .tuple us/\us.size=xs.length/\∀(j:Nat) p,xs[j]?=some p->∃v,us[j]?=some v/\RP w B ah ρ p v
 |.ptr k,u=>∃ad,u = .pointer (some ad)/\addrAt w ah ρ k=some ad
 |.aG r j,u=>∃b off,ρ r = .aC b off/\u = .pointer (some ⟨b,off+j,none⟩)
 |.jd cs,u=>RF w B ah cs u
 |.nA f cs,u=>∃pv,u = .func (.func f) #[] #[pv]/\RF w B ah cs pv
 |.pk r n,u=>∃b,ρ r = .aC b 0/\u=L6 b n
 |.view k s i j,u=>∃A n c,cW w ah ρ k=some (.slice A n c)/\i<=j/\j<=n/\u=sliced A i j c s
 |.fn f cap,u=>∃C:Array Value,u = .func (.func f) #[] C/\C.size=cap.length/\∀(j:Nat) p,cap[j]?=some p->∃b off,ρ p.1 = .aC b off/\C[j]?=some (.pointer (some ⟨b,off+p.2,none⟩))
inductive dZ (w:World) (B:Nat) (ah:bE) (ρ:Nat->Loc) (r:Nat):aW->Prop
 | aC (b off:Nat) (cells:Array Value) (e:TypeId) (cs:List Lf) (us:Nat->Value) (cN:ρ r = .aC b off) (hl:ah b=some [r]) (hh:w.heap[b]?=some (.cells cells e (0,0))) (hs:off+cs.length<=cells.size)
   (hc:∀(j:Nat) x,cs[j]?=some x->cells[off+j]?=some (us j)/\dP w B ah ρ x (us j)):dZ w B ah ρ r (.aC cs)
 |sl (v:Value) (y:V) (cN:ρ r = .dJ v) (hr:RV w B ah [r] y v):dZ w B ah ρ r (.sl y)
 |mp (b clock:Nat) (es:Array MapEntry) (l:List (Int×Bool)) (cN:ρ r = .aC b 0) (hl:ah b=some [r]) (hh:w.heap[b]?=some (.map es clock)) (he:es.toList.map (λe=>(e.key,e.val))=l.map λp=>(.int .i64 p.1,.bool p.2)):dZ w B ah ρ r (.mp l)
 |gh (us:List Value) (xs:List A) (cN:ρ r = .bS us) (hx:∀(j:Nat) x,xs[j]?=some x->RA w B ah ρ x (us.getD j undef)):dZ w B ah ρ r (.gh xs)
def Qw(_:World):Prop:=True
structure alC (n:Nat) (L:bE) (w w':World):Prop where
 os:w'.os=w.os
 tape:w'.tape=w.tape
 output:w'.output=w.output
 size:w.heap.size<=w'.heap.size
 block:∀k,k<n->L k=none->w'.heap[k]?=w.heap[k]?
def Hd(w:World)(L:bE):Prop:=∀w',alC w.heap.size L w w'->Qw w'
def alD(w:World)(L:bE):Hd w L:=λ_ _=>trivial
structure Wd where
 w:World
 L:bE
 F:Nat->Option Loc
 held:Hd w L
 low:∀r,r<20000->F r=none
def Wd.heap(d:Wd):Array Obj:=d.w.heap
def Wd.of(w:World)(h:Hd w λ_=>none):Wd:=⟨w,λ_=>none,λ_=>none,h,λ_ _=>rfl⟩
structure je (d:Wd) (w w':World):Prop where
 os:w'.os=w.os
 tape:w'.tape=w.tape
 output:w'.output=w.output
 size:w.heap.size<=w'.heap.size
 block:∀k,k<d.heap.size->d.L k=none->w'.heap[k]?=w.heap[k]?
def je.trans{d:Wd}{a b c:World}(h:je d a b)(k:je d b c):je d a c:=
 ⟨k.os.trans h.os,k.tape.trans h.tape,k.output.trans h.output,Nat.le_trans h.size k.size,λi hi hl=>(k.block i hi hl).trans (h.block i hi hl)⟩
def Wd.on(d:Wd){w:World}(h:je d d.w w){L:bE}(D:∀ b k,L b=some k->d.heap.size<=b\/d.L b≠none):Hd w L:=λw' hb=>
 d.held w' ⟨hb.os.trans h.os,hb.tape.trans h.tape,hb.output.trans h.output,Nat.le_trans h.size hb.size,λk C hl=>by
  have e:L k=none:=by
   cases e:L k with
   |none=>rfl
   | some q=>
    rcases D k q e with h1|h1
    ·exact absurd C (Nat.not_lt.2 h1)
    ·exact absurd hl h1
  exact(hb.block k (Nat.lt_of_lt_of_le C h.size) e).trans (h.block k C hl)⟩
def je.of{d:Wd}{a b:World}{B:Nat}(h:Below B a b)(hB:d.heap.size<=B):je d a b:=
 ⟨h.os,h.tape,h.output,h.size,λi hi _=>h.block i (Nat.lt_of_lt_of_le hi hB)⟩
structure Rl (w0:Wd) (N:Nat) (ah:bE) (ρ:Nat->Loc) (σ:S) (a:Act) (w:World):Prop where
 below:je w0 w0.w w
 cX:∀b k,ah b=some k->(w0.heap.size<=b\/w0.L b≠none)/\b<w.heap.size/\k≠[]
 root:∀r x,σ.m r=some x->dZ w w0.heap.size ah ρ r x
 tmp:∀k,RA w w0.heap.size ah ρ (σ.t k) (a.tmps.getD k undef)
 size:a.tmps.size=N
 defers:a.defers=[]
 fix:∀r l,w0.F r=some l->ρ r=l
 dj:∀r,(r<N\/60000<=r)->w0.F r=none
def R(w0:Wd)(N:Nat)(σ:S)(a:Act)(w:World):Prop:=∃ah ρ,Rl w0 N ah ρ σ a w
/-! Reading along a key. -/
inductive wB (m:Nat->Option aW):List Nat->V->Prop
 |root (r:Nat) (y:V) (h:m r=some (.sl y)):wB m [r] y
 |elem (j i:Nat) (q:List Nat) (t:TC) (o:Nat) (qn:Bool) (l:List (T t)) (y:V) (h:wB m q (.sl t (o+2) qn l)) (hi:i<l.length) (hy:(enc t o l[i])[j]?=some y):wB m (j::i::aF t::q) y
section
variable {w w':World} {w0:Wd} {B N:Nat} {ah aD:bE} {ρ ρ':Nat->Loc} {m:Nat->aj aW} {σ:S} {a:Act}
def AY{q:aa Nat}(j i s:Nat){b n c:Nat}(h:cW w ah ρ q=some (.slice (some ⟨b,0,none⟩) n c))(hl:ah b=some q):addrAt w ah ρ (j :: i :: s :: q)=some ⟨b,i*s+j,none⟩:=by
 match q,h,hl with
 | [r],h,hl=>
  simp[cW]at h;simp[addrAt]
  grind
 | x :: y :: q,h,hl=>
  simp[cW]at h;simp[addrAt,h,hl,if_true]
def L7{j i s:Nat}{q:aa Nat}:cW w ah ρ (j::i::s::q)=(addrAt w ah ρ (j::i::s::q)).bind w.cell?:=rfl
def wB.ok{k:aa Nat}{y:V}(h:wB m k y)(D:∀ r x,m r=some x -> dZ w B ah ρ r x):∃ u,cW w ah ρ k=some u/\RV w B ah k y u:=by
 induction h with
 | root r y h=>
  cases D _ _ h with
  |sl v y E C=>exact⟨v,by simp[cW,E],C⟩
 | elem j i q t o U l y h hi I L=>
  obtain⟨u,O,C⟩:=L;cases C with
  |eD=>simp at hi
  |fF=>simp at hi
  |fV=>simp at hi
  |aH _ _ _ _ _ _ _ _ _ Y=>omega
  | own _ _ _ _ _ b cap cs us hl T Z hn D hc C=>
   refine⟨us i j,?_,C i hi j y I⟩;rw[L7,AY j i _ O hl];show w.cell? _=_;rw[cell_of_row w b _ cs _ _ T];simp_all
def AZ:∀ (k:aa Nat) (ad:Addr),addrAt w ah ρ k=some ad -> ∃ j i s q,k=j :: i :: s :: q/\ah ad.block=some q/\ad.off=i*s+j/\ad.spot=none/\(∀ r,q=[r] -> ∃ v,ρ r = .dJ v)
 |[],_,h=>by simp[addrAt]at h
 | [j,i,s,r],ad,h=>by
  simp only[addrAt]at h
  grind
 | j :: i :: s :: x :: y :: q,ad,h=>by
  simp only[addrAt]at h
  grind
/-! What is forgotten: keys of leaves,of addresses,roots. -/
structure nB where
 l:List Nat->Bool
 p:List Nat->Bool
 r:Nat->Bool
def Lf.cF(f:aa Nat->Bool):Lf->Lf
 |.own k=>bif f k then .dead else .own k
 |x=>x
def A.cF(K:nB):A->A
 |.lf x=>.lf (x.cF K.l)
 |.agg cs=>.agg (cs.map (Lf.cF K.l))
 |.eV xs=>.eV (xs.map λp=>(p.1,p.2.map (Lf.cF K.l)))
 |.ptr k=>bif K.p k then .undef else .ptr k
 |.aG r j=>bif K.r r then .undef else .aG r j
 |.pk r n=>bif K.r r then .undef else .pk r n
 |.view k s i j=>bif K.p k then .undef else .view k s i j
 |.fn f cap=>bif cap.any (λp=>K.r p.1)then .undef else .fn f cap
 |x=>x
def aW.cF(K:nB):aW->aW
 |.aC cs=>.aC (cs.map (Lf.cF K.l))
 |.gh xs=>.gh (xs.map (A.cF K))
 |x=>x
/-! What names nothing that is forgotten. -/
def Lf.fr(f:aa Nat->Bool):Lf->Bool
 |.own k=>!f k
 |_=>true
def A.fr(K:nB):A->Bool
 |.lf x=>x.fr K.l
 |.agg cs=>cs.all (Lf.fr K.l)
 |.eV xs=>xs.all λq=>q.2.all (Lf.fr K.l)
 |.ptr k=>!K.p k
 |.aG r _=>!K.r r
 |.pk r _=>!K.r r
 |.view k _ _ _=>!K.p k
 |.fn _ cap=>cap.all λq=>!K.r q.1
 |_=>true
def Lf.oO{f:aa Nat->Bool}{x:Lf}(h:x.fr f=true):x.cF f=x:=by
 cases x with
 |own k=>simp only[Lf.cF,show f k=false by simpa [Lf.fr]using h,au]
 |_=>rfl
def qQ.oO{f:aa Nat->Bool}{cs:aa Lf}(h:cs.all (Lf.fr f)=true):cs.map (Lf.cF f)=cs:=
 (List.map_congr_left λx C=>Lf.oO (cu.1 h x C)).trans (List.map_id cs)
def A.oO{K:nB}{x:A}(h:x.fr K=true):x.cF K=x:=by
 cases x with
 |lf x=>exact bq A.lf (Lf.oO h)
 |agg cs=>exact bq A.agg (qQ.oO h)
 |eV xs=>exact bq A.eV ((List.map_congr_left λq C=>by rw[qQ.oO (cu.1 h q C)];rfl).trans (List.map_id xs))
 |ptr k=>simp only[A.cF,show K.p k=false by simpa [A.fr]using h,au]
 |view k=>simp only[A.cF,show K.p k=false by simpa [A.fr]using h,au]
 |aG r=>simp only[A.cF,show K.r r=false by simpa [A.fr]using h,au]
 |pk r=>simp only[A.cF,show K.r r=false by simpa [A.fr]using h,au]
 |fn f cap=>simp only[A.cF,show (cap.any λp=>K.r p.1)=false from List.any_eq_false.2 λp D=>by simpa using cu.1 h p D,au]
 |_=>rfl
def Lf.r6{f g:aa Nat->Bool}(hl:∀ k,f k=true->g k=true){x:Lf}(h:x.fr g=true):x.fr f=true:=by
 cases x with
 | own k=>
  have h:(!g k)=true:=h;show (!f k)=true;cases C:f k with
  |false=>rfl
  |true=>rw[hl k C]at h;cases h
 |_=>rfl
def A.r6{K J:nB}(hl:∀ k,K.l k=true->J.l k=true)(I:∀ k,K.p k=true->J.p k=true)(L:∀ r,K.r r=true->J.r r=true){x:A}(h:x.fr J=true):x.fr K=true:=by
 have C:∀r,(!J.r r)=true->(!K.r r)=true:=λr h=>Lf.r6 (x:=.own []) (f:=λ_=>K.r r) (λ_=>L r) h
 cases x with
 |lf x=>exact Lf.r6 hl h
 |agg cs=>exact cu.2 λc D=>Lf.r6 hl (cu.1 h c D)
 |eV xs=>exact cu.2 λq E=>cu.2 λc D=>Lf.r6 hl (cu.1 (cu.1 h q E) c D)
 |ptr k=>exact Lf.r6 (x:=.own k) I h
 |view k=>exact Lf.r6 (x:=.own k) I h
 |aG r=>exact C r h
 |pk r=>exact C r h
 |fn f cap=>exact cu.2 λq E=>C _ (cu.1 h q E)
 |_=>rfl
def Lf.oP(x:Lf)(f g:aa Nat->Bool):(x.cF f).cF g=(x.cF g).cF f:=by
 cases x with
 |own k=>cases C:f k<;>cases D:g k<;>simp[Lf.cF,C,D]
 |_=>rfl
def qQ.oP(cs:aa Lf)(f g:aa Nat->Bool):(cs.map (Lf.cF f)).map (Lf.cF g)=(cs.map (Lf.cF g)).map (Lf.cF f):=by
 rw[List.map_map,List.map_map];exact List.map_congr_left λx _=>Lf.oP x f g
def A.oP(x:A)(K J:nB):(x.cF K).cF J=(x.cF J).cF K:=by
 cases x with
 |lf x=>exact bq A.lf (Lf.oP x _ _)
 |agg cs=>exact bq A.agg (qQ.oP cs _ _)
 | eV xs=>
  refine bq A.eV ?_;rw[List.map_map,List.map_map];exact List.map_congr_left λq _=>bq (Prod.mk q.1) (qQ.oP q.2 _ _)
 |ptr k=>cases C:K.p k<;>cases D:J.p k<;>simp[A.cF,C,D]
 |view k=>cases C:K.p k<;>cases D:J.p k<;>simp[A.cF,C,D]
 |aG r=>cases C:K.r r<;>cases D:J.r r<;>simp[A.cF,C,D]
 |pk r=>cases C:K.r r<;>cases D:J.r r<;>simp[A.cF,C,D]
 |fn f cap=>cases C:(cap.any λp=>K.r p.1)<;>cases D:(cap.any λp=>J.r p.1)<;>simp only[A.cF,C,D,aq,au]
 |_=>rfl
def aW.oP(x:aW)(K J:nB):(x.cF K).cF J=(x.cF J).cF K:=by
 cases x with
 |aC cs=>exact bq aW.aC (qQ.oP cs _ _)
 | gh xs=>
  refine bq aW.gh ?_;rw[List.map_map,List.map_map];exact List.map_congr_left λx _=>A.oP x K J
 |_=>rfl
def cS(d:Nat)(k:aa Nat):Bool:=k.getLast?==some d
def wC(d:Nat):nB:=⟨cS d,cS d,λr=>Nat.beq r d⟩
def Lf.drop(d:Nat):Lf->Lf:=Lf.cF (cS d)
def A.drop(d:Nat):A->A:=A.cF (wC d)
def aW.drop(d:Nat):aW->aW:=aW.cF (wC d)
def iP(c:Nat->Bool)(k:aa Nat):Bool:=match k.getLast? with
 |some r=>c r
 |none=>false
structure Tr (w w':World) (ah aD:bE) (ρ ρ':Nat->Loc) (t:List Nat->Bool) (c:Nat->Bool):Prop where
 size:w.heap.size<=w'.heap.size
 no:∀b,b<w.heap.size->ah b=none->w'.heap[b]?=w.heap[b]?/\aD b=none
 so:∀b k,ah b=some k->t k=false->w'.heap[b]?=w.heap[b]?/\aD b=some k
 eX:∀r,c r=false->ρ' r=ρ r
 up:∀j i s x q,t (j::i::s::x::q)=t (x::q)
 ne:∀b,ah b=some []->∀k,t k=false
structure nB.OK (K:nB) (t:List Nat->Bool) (c:Nat->Bool):Prop where
 l:∀k,K.l k=false->(k.length=1\/t k=false)/\iP c k=false
 p:∀k,K.p k=false->t k=false/\iP c k=false
 r:∀r,K.r r=false->c r=false
section
variable {t:aa Nat->Bool} {c:Nat->Bool} {K:nB}
def RV.tr(T:Tr w w' ah aD ρ ρ' t c){q:aa Nat}{x:V}{v:Value}(h:RV w B ah q x v)(D:x.aH=true\/t q=false):RV w' B aD q x v:=
 h.map (Q:=λq C=>q=C/\t q=false) T.size T.no (λb q C _ hl e=>by
  obtain⟨rfl,e⟩:=e;exact⟨(T.so b q hl e).1,(T.so b q hl e).2,λj i s=>⟨rfl,by
   cases q with
   |nil=>exact T.ne b hl _
   |cons x q=>rw[T.up];exact e⟩⟩) (D.imp_right λh=>⟨rfl,h⟩)
def L8(j i s x:Nat)(q:aa Nat):iP c (j::i::s::x::q)=iP c (x::q):=by simp[iP,List.getLast?_cons_cons]
def SN(T:Tr w w' ah aD ρ ρ' t c):∀ (k:aa Nat) (ad:Addr),t k=false->iP c k=false->addrAt w ah ρ k=some ad->addrAt w' aD ρ' k=some ad
 |[],_,_,_,h=>by simp[addrAt]at h
 |[_],_,_,_,h=>by simp[addrAt]at h
 |[_,_],_,_,_,h=>by simp[addrAt]at h
 |[_,_,_],_,_,_,h=>by simp[addrAt]at h
 | [j,i,s,r],_,C,D,h=>by
  rw[T.up]at C;rw[L8]at D;simp only[addrAt]at h ⊢;rw[T.eX r D];split at h
  ·split at h
   next hl=>rw[bH (T.so _ _ hl C).2];exact h
   ·cases h
  ·cases h
 | j :: i :: s :: x :: y :: q,ad,C,D,h=>by
  rw[T.up]at C;rw[L8]at D;simp only[addrAt]at h ⊢;cases E:addrAt w ah ρ (x::y::q)with
  |none=>rw[E]at h;cases h
  | some O=>
   rw[SN T _ _ C D E];rw[E]at h;cases I:w.cell? O with
   |none=>simp[I]at h
   | some v=>
    obtain⟨Y,Z,s',L,hk,U,_,_⟩:=AZ _ _ E;have A0:t L=false:=by
     cases L with
     |nil=>exact T.ne _ U _
     |cons z L=>rw[<-T.up Y Z s',<-hk];exact C
    have e:w'.cell? O=some v:=(World.cell?_of_block (T.so _ _ U A0).1).trans I;simp only[Option.bind_some,I]at h;simp only[Option.bind_some,e];split at h
    ·split at h
     next hl=>rw[bH (T.so _ _ hl C).2];exact h
     ·cases h
    ·cases h
def SO(T:Tr w w' ah aD ρ ρ' t c)(k:aa Nat)(u:Value)(C:k.length=1\/t k=false)(D:iP c k=false)(h:cW w ah ρ k=some u):cW w' aD ρ' k=some u:=by
 match k,C,D,h with
 |[],_,_,h=>simp[cW,addrAt]at h
 | [r],_,D,h=>
  simp only[cW]at h ⊢;rw[T.eX r D];exact h
 | x :: y :: q,C,D,h=>
  have C:t (x::y::q)=false:=C.resolve_left (by simp);simp only[cW]at h ⊢;cases E:addrAt w ah ρ (x::y::q)with
  |none=>rw[E]at h;cases h
  | some ad=>
   rw[SN T _ _ C D E];rw[E]at h;have h:w.cell? ad=some u:=h;obtain⟨O,U,Y,I,Z,L,_,_⟩:=AZ _ _ E;have A0:t I=false:=by
    cases I with
    |nil=>exact T.ne _ L _
    |cons z I=>rw[<-T.up O U Y,<-Z];exact C
   exact(World.cell?_of_block (T.so _ _ L A0).1).trans h
def dP.tr(T:Tr w w' ah aD ρ ρ' t c)(C:K.OK t c){x:Lf}{u:Value}(h:dP w B ah ρ x u):dP w' B aD ρ' (x.cF K.l) u:=by
 cases x with
 |v x=>exact⟨h.1,h.2.tr T (.inl h.1)⟩
 |dead=>trivial
 | own k=>
  show dP w' B aD ρ' (bif K.l k then .dead else .own k) u;cases hl:K.l k with
  |true=>trivial
  |false=>exact⟨h.1,SO T k u (C.l k hl).1 (C.l k hl).2 h.2⟩
def eJ.tr(T:Tr w w' ah aD ρ ρ' t c)(D:K.OK t c){cs:aa Lf}{us:Array Value}(h:eJ w B ah ρ cs us):eJ w' B aD ρ' (cs.map (Lf.cF K.l)) us:=by
 refine⟨by rw[eI];exact h.1,λj x C=>?_⟩
 rw[eH]at C;obtain⟨y,E,rfl⟩:=Option.map_eq_some_iff.1 C;obtain⟨u,I,r⟩:=h.2 j y E;exact⟨u,I,r.tr T D⟩
def RP.tr(T:Tr w w' ah aD ρ ρ' t c)(C:K.OK t c){p:Bool×aa Lf}{u:Value}(h:RP w B ah ρ p u):RP w' B aD ρ' (p.1,p.2.map (Lf.cF K.l)) u:=by
 obtain⟨b,cs⟩:=p;cases b with
 |true=>obtain⟨us,e,h⟩:=h;exact⟨us,e,h.tr T C⟩
 |false=>exact eJ.tr T C h
def RF.tr(T:Tr w w' ah aD ρ ρ' t c){cs:aa V}{u:Value}(h:RF w B ah cs u):RF w' B aD cs u:=by
 obtain⟨b,off,e,hb,hl,h⟩:=h;obtain⟨D,E⟩:=T.no b hb hl
 refine⟨b,off,e,Nat.lt_of_lt_of_le hb T.size,E,λj x I=>?_⟩
 obtain⟨C,v,L,O⟩:=h j x I;exact⟨C,v,(World.cell?_of_block (a:=⟨b,_,none⟩) D).trans L,O.tr T (.inl C)⟩
def RA.tr(T:Tr w w' ah aD ρ ρ' t c)(C:K.OK t c){x:A}{u:Value}(h:RA w B ah ρ x u):RA w' B aD ρ' (x.cF K) u:=by
 cases x with
 |undef=>trivial
 |skip=>exact h
 |lf x=>exact dP.tr T C h
 |agg cs=>exact RP.tr T C (p:=(true,cs)) h
 | eV xs=>
  obtain⟨us,e,E,h⟩:=h
  refine⟨us,e,by rw[eI];exact E,λj p D=>?_⟩
  rw[eH]at D;obtain⟨y,I,rfl⟩:=Option.map_eq_some_iff.1 D;obtain⟨v,L,r⟩:=h j y I;exact⟨v,L,r.tr T C⟩
 | ptr k=>
  simp only[A.cF];cases hl:K.p k with
  |true=>trivial
  |false=>obtain⟨ad,e,h⟩:=h;exact⟨ad,e,SN T k ad (C.p k hl).1 (C.p k hl).2 h⟩
 | view k s i j=>
  simp only[A.cF];cases hl:K.p k with
  |true=>trivial
  |false=>obtain⟨A,n,c,h,g⟩:=h;exact⟨A,n,c,SO T k _ (.inr (C.p k hl).1) (C.p k hl).2 h,g⟩
 | pk r n=>
  simp only[A.cF];cases hl:K.r r with
  |true=>trivial
  |false=>obtain⟨b,e,h⟩:=h;exact⟨b,(T.eX r (C.r r hl)).trans e,h⟩
 | aG r j=>
  simp only[A.cF];cases hl:K.r r with
  |true=>trivial
  |false=>obtain⟨b,off,e,h⟩:=h;exact⟨b,off,(T.eX r (C.r r hl)).trans e,h⟩
 |jd cs=>exact RF.tr T h
 |nA f cs=>obtain⟨pv,e,h⟩:=h;exact⟨pv,e,h.tr T⟩
 | fn f cap=>
  simp only[A.cF];cases hl:cap.any (λp=>K.r p.1)with
  |true=>trivial
  | false=>
   obtain⟨O,e,E,h⟩:=h
   refine⟨O,e,E,λj p D=>?_⟩
   obtain⟨b,off,U,Y⟩:=h j p D;exact⟨b,off,(T.eX _ (C.r _ (by simpa using List.any_eq_false.1 hl p (gF D)))).trans U,Y⟩
def dZ.tr(T:Tr w w' ah aD ρ ρ' t c)(U:K.OK t c){r:Nat}{x:aW}(h:dZ w B ah ρ r x)(D:t [r]=false)(E:c r=false):dZ w' B aD ρ' r (x.cF K):=by
 cases h with
 | aC b off cells e cs us C hl O hs Y=>
  refine .aC b off cells e _ us ((T.eX r E).trans C) (T.so b _ hl D).2 ((T.so b _ hl D).1.trans O) (by rw[eI];exact hs) (λj x I=>?_)
  rw[eH]at I;obtain⟨y,L,rfl⟩:=Option.map_eq_some_iff.1 I;exact⟨(Y j y L).1,(Y j y L).2.tr T U⟩
 |sl v y C hr=>exact .sl v y ((T.eX r E).trans C) (hr.tr T (.inr D))
 |mp b clock es l C hl O he=>exact .mp b clock es l ((T.eX r E).trans C) (T.so b _ hl D).2 ((T.so b _ hl D).1.trans O) he
 | gh us xs C I=>
  refine .gh us _ ((T.eX r E).trans C) (λj x Z=>?_)
  rw[eH]at Z;obtain⟨y,L,rfl⟩:=Option.map_eq_some_iff.1 Z;exact(I j y L).tr T U
end
/-! Nothing is forgotten where old memory stays. -/
def L9:nB:=⟨λ_=>false,λ_=>false,λ_=>false⟩
def A.Gc(x:A):x.cF L9=x:=by
 have h:∀cs:aa Lf,cs.all (Lf.fr L9.l)=true:=λcs=>cu.2 λc _=>by cases c<;>rfl
 refine A.oO ?_;cases x with
 |lf x=>cases x<;>rfl
 |agg cs=>exact h cs
 |eV xs=>exact cu.2 λq _=>h q.2
 |fn f cap=>exact cu.2 λ_ _=>rfl
 |_=>rfl
def aW.Gc(x:aW):x.cF L9=x:=by
 cases x with
 |aC cs=>exact bq aW.aC (A.agg.inj (A.Gc (.agg cs)))
 |gh xs=>exact bq aW.gh ((List.map_congr_left λx _=>A.Gc x).trans (List.map_id xs))
 |_=>rfl
def SP(k:aa Nat):iP (λ_=>false) k=false:=by unfold iP;split<;>rfl
def ZM:L9.OK (λ_=>false) (λ_=>false):=⟨λk _=>⟨.inr rfl,SP k⟩,λk _=>⟨rfl,SP k⟩,λ_ _=>rfl⟩
def Tr.ld(E:w.heap.size<=w'.heap.size)(C:∀ b,b<w.heap.size->w'.heap[b]?=w.heap[b]?/\aD b=ah b)(D:∀ b k,ah b=some k->b<w.heap.size):Tr w w' ah aD ρ ρ (λ_=>false) (λ_=>false):=
 ⟨E,λb hb hl=>⟨(C b hb).1,(C b hb).2.trans hl⟩,λb k hl _=>⟨(C b (D b k hl)).1,(C b (D b k hl)).2.trans hl⟩,λ_ _=>rfl,λ_ _ _ _ _=>rfl,λ_ _ _=>rfl⟩
def RA.ld{x:A}{u:Value}(h:RA w B ah ρ x u)(C:w.heap.size<=w'.heap.size)(D:∀ b,b<w.heap.size->w'.heap[b]?=w.heap[b]?/\aD b=ah b)(E:∀ b k,ah b=some k->b<w.heap.size):RA w' B aD ρ x u:=by
 have:=h.tr (.ld C D E) ZM
 rwa [A.Gc]at this
def dP.ld{x:Lf}{u:Value}(h:dP w B ah ρ x u)(C:w.heap.size<=w'.heap.size)(D:∀b,b<w.heap.size->w'.heap[b]?=w.heap[b]?/\aD b=ah b)(E:∀b k,ah b=some k->b<w.heap.size):dP w' B aD ρ x u:=RA.ld (x:=.lf x) h C D E
def eJ.ld{cs:aa Lf}{us:Array Value}(h:eJ w B ah ρ cs us)(C:w.heap.size<=w'.heap.size)(D:∀ b,b<w.heap.size->w'.heap[b]?=w.heap[b]?/\aD b=ah b)(E:∀ b k,ah b=some k->b<w.heap.size):eJ w' B aD ρ cs us:=
 ⟨h.1,λj x I=>let ⟨u,hu,r⟩:=h.2 j x I;⟨u,hu,r.ld C D E⟩⟩
def dZ.ld{r:Nat}{x:aW}(h:dZ w B ah ρ r x)(C:w.heap.size<=w'.heap.size)(D:∀ b,b<w.heap.size->w'.heap[b]?=w.heap[b]?/\aD b=ah b)(E:∀ b k,ah b=some k->b<w.heap.size):dZ w' B aD ρ r x:=by
 have:=h.tr (.ld C D E) ZM rfl rfl
 rwa [aW.Gc]at this
/-! A root's name is given anew. -/
def uO{d:Nat}{t:aa Nat->Bool}{c:Nat->Bool}(E:∀ k,cS d k=false->t k=false)(I:∀ r,r≠d->c r=false):(wC d).OK t c:=by
 have h:∀ k,cS d k=false->iP c k=false:=λk C=>by
  unfold iP;split
  next r D=>exact I r (by rintro rfl;simp[cS,D]at C)
  ·rfl
 exact⟨λk C=>⟨.inr (E k C),h k C⟩,λk C=>⟨E k C,h k C⟩,λr D=>I r (by rintro rfl;simp[wC]at D)⟩
def oQ{d r:Nat}(h:r≠d):Nat.beq r d=false:=Bool.eq_false_iff.2 λe=>h (cC e)
def Tr.Gd{d:Nat}(C:∀ r,r≠d->ρ' r=ρ r):Tr w w ah ah ρ ρ' (λ_=>false) (λr=>Nat.beq r d):=
 ⟨dx _,λ_ _ h=>⟨rfl,h⟩,λ_ _ h _=>⟨rfl,h⟩,λr D=>C r (by rintro rfl;simp at D),λ_ _ _ _ _=>rfl,λ_ _ _=>rfl⟩
def RP.eX{d:Nat}(C:∀r,r≠d->ρ' r=ρ r){p:Bool×aa Lf}{u:Value}(h:RP w B ah ρ p u):RP w B ah ρ' (p.1,p.2.map (Lf.drop d)) u:=h.tr (.Gd C) (uO (λ_ _=>rfl) λ_=>oQ)
def RA.eX{d:Nat}(C:∀r,r≠d->ρ' r=ρ r){x:A}{u:Value}(h:RA w B ah ρ x u):RA w B ah ρ' (x.drop d) u:=h.tr (.Gd C) (uO (λ_ _=>rfl) λ_=>oQ)
def eJ.eX{d:Nat}(C:∀r,r≠d->ρ' r=ρ r){cs:aa Lf}{us:Array Value}(h:eJ w B ah ρ cs us):eJ w B ah ρ' (cs.map (Lf.drop d)) us:=h.tr (.Gd C) (uO (λ_ _=>rfl) λ_=>oQ)
def dP.eX{d:Nat}(C:∀r,r≠d->ρ' r=ρ r){x:Lf}{u:Value}(h:dP w B ah ρ x u):dP w B ah ρ' (x.drop d) u:=h.tr (.Gd C) (uO (λ_ _=>rfl) λ_=>oQ)
def dZ.eX{d r:Nat}(C:∀r,r≠d->ρ' r=ρ r)(D:r≠d){x:aW}(h:dZ w B ah ρ r x):dZ w B ah ρ' r (x.drop d):=h.tr (.Gd C) (uO (λ_ _=>rfl) λ_=>oQ) rfl (oQ D)
def bV{α:Type}(f:Nat->α)(d:Nat)(x:α):Nat->α:=λk=>bif Nat.beq k d then x else f k
def cc{α:Type}(f:Nat->α)(d:Nat)(x:α):bV f d x d=x:=by simp[bV]
def cH{α:Type}(f:Nat -> α)(d:Nat)(x:α){k:Nat}(h:k≠d):bV f d x k=f k:=by
 have:Nat.beq k d=false:=by
  cases hb:Nat.beq k d with
  |false=>rfl
  |true=>simp_all
 simp[bV,this,au]
def S.set(σ:S)(d:Nat)(x:A):S:={ σ with t:=bV σ.t d x }
def S.drop(σ:S)(d:Nat):S:=⟨λk=>(σ.t k).drop d,λr=>bif Nat.beq r d then none else (σ.m r).map (aW.drop d)⟩
def S.root(σ:S)(d:Nat)(x:aW):S:={ σ with m:=bV σ.m d (some x) }
def Rl.set{x:A}{v:Value}{d:Nat}(h:Rl w0 N ah ρ σ a w)(E:RA w w0.heap.size ah ρ x v)(D:d<N):Rl w0 N ah ρ (σ.set d x) (a.put (some d) v) w:=by
 refine⟨h.below,h.cX,h.root,λk=>?_,?_,h.defers,h.fix,h.dj⟩
 ·show RA w _ ah ρ (bV σ.t d x k) ((a.tmps.setIfInBounds d v).getD k undef);by_cases C:k=d
  ·subst C;rw[cc,iq,Array.getElem?_setIfInBounds_self];have:k<a.tmps.size:=by rw[h.size];exact D
   simp_all
  ·rw[cH _ _ _ C,iq,Array.getElem?_setIfInBounds_ne (Ne.symm C),<- iq];exact h.tmp k
 ·show (a.tmps.setIfInBounds d v).size=N;rw[Array.size_setIfInBounds];exact h.size
def Rl.grow(h:Rl w0 N ah ρ σ a w)(hb:Below w.heap.size w w')(hl:∀ b,b<w.heap.size -> aD b=ah b)(I:∀ b k,w.heap.size <= b -> aD b=some k -> b<w'.heap.size/\k≠[]):Rl w0 N aD ρ σ a w':=by
 have D:∀b,b<w.heap.size -> w'.heap[b]?=w.heap[b]?/\aD b=ah b:=λb E=>⟨hb.block b E,hl b E⟩
 refine⟨h.below.trans (.of hb h.below.size),λb k C=>?_,λr x L=>(h.root r x L).ld hb.size D (λb k hb=>(h.cX b k hb).2.1),λk=>(h.tmp k).ld hb.size D (λb k hb=>(h.cX b k hb).2.1),h.size,h.defers,h.fix,h.dj⟩
 rcases Nat.lt_or_ge b _ with O|oR
 ·rw[hl b O]at C;have:=h.cX b k C
  grind
 ·have:=I b k oR C;exact⟨.inl (Nat.le_trans h.below.size oR),this.1,this.2⟩
def Rl.new{d:Nat}{x:aW}(h:Rl w0 N ah ρ σ a w)(l:Loc)(O:dZ w w0.heap.size ah (bV ρ d l) d x)(I:w0.F d=none):Rl w0 N ah (bV ρ d l) ((σ.drop d).root d x) a w:=by
 have E:∀r,r≠d -> bV ρ d l r=ρ r:=λr D=>cH _ _ _ D
 refine⟨h.below,h.cX,λr y C=>?_,λk=>(h.tmp k).eX E,h.size,h.defers,λr L D=>(E r (by rintro rfl;rw[I]at D;cases D)).trans (h.fix r L D),h.dj⟩
 by_cases D:r=d
 ·subst D;have e:(bV (σ.drop r).m r _) r=some x:=cc _ _ _;have C:(bV (σ.drop r).m r _) r=some y:=C;simp_all
 ·have C:(bV (σ.drop d).m d _) r=some y:=C;rw[cH _ _ _ D]at C;have hb:Nat.beq r d=false:=by
   cases hb:Nat.beq r d with
   |false=>rfl
   |true=>simp_all
  simp only[S.drop,hb,au]at C;cases hm:σ.m r with
  |none=>simp_all
  | some z=>
   rw[hm]at C;injection C with C;subst C;exact(h.root r z hm).eX E D
end
def splice{α:Type}(l:aa α)(j:Nat)(xs:aa α):aa α:=l.take j++xs++l.drop (j+xs.length)
def th{α:Type}(l:aa α)(j:Nat)(xs:aa α)(h:j+xs.length<=l.length):(splice l j xs).length=l.length:=by
 simp[splice];omega
def wD{α:Type}(l:aa α)(j:Nat)(xs:aa α)(h:j+xs.length <= l.length)(n:Nat):
  (splice l j xs)[n]?=if n<j then l[n]? else if n<j+xs.length then xs[n-j]? else l[n]?:=by
 unfold splice
 grind
structure uP (w w':World) (bt:Nat):Prop where
 size:w'.heap.size=w.heap.size
 os:w'.os=w.os
 tape:w'.tape=w.tape
 output:w'.output=w.output
 block:∀k,k≠bt->w'.heap[k]?=w.heap[k]?
def Ma(w:World)(b o:Nat)(l:aa Value):uP w (w.setCells b o l) b:=by
 have g:=ZC b l o w;have s:=ZB b l o w
 refine⟨s,g.os,g.tape,g.output,λk C=>?_⟩
 rcases Nat.lt_or_ge k _ with D|oR
 ·exact g.block k D (by intro e;injection e with e;exact C e)
 ·simp_all
section
variable {w w':World} {w0:Wd} {B N:Nat} {ah:bE} {ρ:Nat->Loc} {m m':Nat->aj aW} {σ:S} {a:Act} {bt:Nat} {kt:aa Nat}
def qR(w w':World)(ah:bE)(ρ:Nat->Loc):Prop:=∀k ad v,addrAt w ah ρ k=some ad->w.cell? ad=some v->mD v=true->w'.cell? ad=some v
def SQ(D:qR w w' ah ρ):∀ (k:aa Nat) (ad:Addr),addrAt w ah ρ k=some ad -> addrAt w' ah ρ k=some ad
 |[],_,h=>h
 |[_],_,h=>h
 |[_,_],_,h=>h
 |[j,i,s,r],_,h=>by simp only[addrAt]at h ⊢;exact h
 | j :: i :: s :: x :: y :: q,ad,h=>by
  simp only[addrAt]at h ⊢;cases C:addrAt w ah ρ (x::y::q)with
  |none=>simp_all
  | some I=>
   rw[SQ D _ _ C];rw[C]at h;cases E:w.cell? I with
   |none=>simp_all
   | some v=>
    simp only[Option.bind_some,E]at h;have L:mD v=true:=by
     split at h
     next e=>injection e with e;subst e;rfl
     ·cases h
    simp only[Option.bind_some,D _ _ _ C E L];exact h
def ZN(D:qR w w' ah ρ)(k:aa Nat)(u:Value)(E:mD u=true)(h:cW w ah ρ k=some u):cW w' ah ρ k=some u:=by
 match k,h with
 |[r],h=>exact h
 | x :: y :: q,h=>
  simp[cW]at h ⊢;cases C:addrAt w ah ρ _ with
  |none=>rw[C]at h;cases h
  | some ad=>
   rw[SQ D _ _ C];rw[C]at h;exact D _ _ _ C h E
def dP.wrote{x:Lf}{u:Value}(h:dP w B ah ρ x u)(C:uP w w' bt)(hl:ah bt=some kt)(D:qR w w' ah ρ):dP w' B ah ρ x u:=by
 cases x with
 |v x=>exact⟨h.1,h.2.apart hl (.inr h.1) (Nat.le_of_eq C.size.symm) C.block⟩
 |own k=>exact⟨h.1,ZN D k u h.1 h.2⟩
 |dead=>trivial
def eJ.wrote{cs:aa Lf}{us:Array Value}(h:eJ w B ah ρ cs us)(C:uP w w' bt)(hl:ah bt=some kt)(D:qR w w' ah ρ):eJ w' B ah ρ cs us:=
 ⟨h.1,λj x E=>let ⟨u,hu,r⟩:=h.2 j x E;⟨u,hu,r.wrote C hl D⟩⟩
def RP.wrote{p:Bool×aa Lf}{u:Value}(h:RP w B ah ρ p u)(C:uP w w' bt)(hl:ah bt=some kt)(D:qR w w' ah ρ):RP w' B ah ρ p u:=by
 obtain⟨b,cs⟩:=p;cases b with
 |true=>obtain⟨us,e,h⟩:=h;exact⟨us,e,h.wrote C hl D⟩
 |false=>exact eJ.wrote h C hl D
def RF.wrote{cs:aa V}{u:Value}(h:RF w B ah cs u)(C:uP w w' bt)(hl:ah bt=some kt):RF w' B ah cs u:=by
 obtain⟨b,off,e,hb,D,h⟩:=h;have I:b≠bt:=by rintro rfl;rw[hl]at D;cases D
 refine⟨b,off,e,by rw[C.size];exact hb,D,λj x L=>?_⟩
 obtain⟨E,v,O,T⟩:=h j x L;exact⟨E,v,(World.cell?_of_block (C.block b I)).trans O,T.apart hl (.inr E) (Nat.le_of_eq C.size.symm) C.block⟩
def RA.wrote{x:A}{u:Value}(h:RA w B ah ρ x u)(C:uP w w' bt)(hl:ah bt=some kt)(D:qR w w' ah ρ):RA w' B ah ρ x u:=by
 cases x with
 |undef=>trivial
 |skip=>exact h
 |lf x=>exact dP.wrote h C hl D
 |agg cs=>exact RP.wrote (p:=(true,cs)) h C hl D
 |eV xs=>obtain⟨us,e,E,h⟩:=h;exact⟨us,e,E,λj p I=>let ⟨v,L,r⟩:=h j p I;⟨v,L,r.wrote C hl D⟩⟩
 |ptr k=>obtain⟨ad,e,h⟩:=h;exact⟨ad,e,SQ D _ _ h⟩
 |view k s i j=>obtain⟨A,n,c,h,g⟩:=h;exact⟨A,n,c,ZN D k _ rfl h,g⟩
 |pk r n=>exact h
 |aG r j=>exact h
 |jd cs=>exact RF.wrote h C hl
 |nA f cs=>obtain⟨pv,e,h⟩:=h;exact⟨pv,e,h.wrote C hl⟩
 |fn f cap=>exact h
def dZ.wrote{r:Nat}{x:aW}(h:dZ w B ah ρ r x)(E:uP w w' bt)(hl:ah bt=some kt)(U:qR w w' ah ρ)(L:¬ [r] <:+ kt):dZ w' B ah ρ r x:=by
 cases h with
 | aC b off cells e cs us D C O Z Y=>
  have T:b≠bt:=by rintro rfl;rw[hl]at C;injection C with C;subst C;exact L (List.suffix_refl _)
  exact .aC b off cells e cs us D C ((E.block b T).trans O) Z (λj x I=>⟨(Y j x I).1,(Y j x I).2.wrote E hl U⟩)
 |sl v y D fG=>exact .sl v y D (fG.apart hl (.inl L) (Nat.le_of_eq E.size.symm) E.block)
 | mp b c es l D C O he=>
  have T:b≠bt:=by rintro rfl;rw[hl]at C;injection C with C;subst C;exact L (List.suffix_refl _)
  exact .mp b c es l D C ((E.block b T).trans O) he
 |gh us xs D I=>exact .gh us xs D λj x hj=>(I j x hj).wrote E hl U
def Rl.wrote(h:Rl w0 N ah ρ σ a w)(C:uP w w' bt)(hl:ah bt=some kt)(I:qR w w' ah ρ)(O:∀ r x,m' r=some x -> dZ w' w0.heap.size ah ρ r x):Rl w0 N ah ρ ⟨σ.t,m'⟩ a w':=by
 have hb:=(h.cX bt kt hl).1;have T:∀ k,k<w0.heap.size -> w0.L k=none -> k≠bt:=by
  grind
 refine⟨⟨C.os.trans h.below.os,C.tape.trans h.below.tape,C.output.trans h.below.output,by rw[C.size];exact h.below.size,λk D E=>(C.block k (T k D E)).trans (h.below.block k D E)⟩,λb k U=>?_,O,λk=>(h.tmp k).wrote C hl I,h.size,h.defers,h.fix,h.dj⟩
 rw[C.size];exact h.cX b k U
def ZO{r C:Nat}(h:C≠r):¬ [C] <:+ [r]:=by
 intro D;have:=D.eq_of_length rfl;simp_all
def Rl.Ge{r j:Nat}{cs xs:aa Lf}{us:Array Value}(h:Rl w0 N ah ρ σ a w)(hm:σ.m r=some (.aC cs))(hx:eJ w w0.heap.size ah ρ xs us)(hj:j+xs.length <= cs.length):
  ∃b off,ρ r = .aC b off/\w.there b (off+j) us.size/\Rl w0 N ah ρ ⟨σ.t,bV σ.m r (some (.aC (splice cs j xs)))⟩ a (w.setCells b (off+j) us.toList):=by
 have O:=h.root r _ hm;generalize D:aW.aC cs=x at O;cases O with
 |sl=>cases D
 |mp=>cases D
 |gh=>cases D
 | aC b off cells e eT u cN hl U hs hc=>
  injection D with D;subst D;have hlen:us.size=xs.length:=hx.1;have lW:off+j+us.toList.length <= cells.size:=by rw[lR,hlen];omega
  have E:=Ma w b (off+j) us.toList;obtain⟨T,gI,nD⟩:=F5 b e us.toList (off+j) w cells U lW;have L:qR w (w.setCells b (off+j) us.toList) ah ρ:=by
   intro k ad v ha Y gf;obtain⟨j',i',s',q,rfl,hq,_,_,hh'⟩:=AZ k ad ha;have cL:ad.block≠b:=by
    intro e
    grind
   exact(World.cell?_of_block (E.block _ cL)).trans Y
  refine⟨b,off,cN,λn hn=>⟨?_,frozen_of_row w b _ cells e U⟩,h.wrote E hl L λr' y I=>?_⟩
  ·rw[cell_of_row w b _ cells e _ U];simp;omega
  ·by_cases Z:r'=r
   ·subst Z;rw[cc]at I;injection I with I;subst I
    refine .aC b off T e _ (λn=>if n<j then u n else if n<j+xs.length then us.getD (n-j) undef else u n) cN hl gI ?_ λn x C=>?_
    ·rw[th _ _ _ hj,<- lR,nD]
     grind
    ·have e2:T[off+n]?=(splice cells.toList (off+j) us.toList)[off+n]?:=by
      rw[show T[off+n]?=T.toList[off+n]? by simp,nD];rfl
     rw[e2,wD _ _ _ (by simpa using lW)];rw[wD _ _ _ hj]at C;by_cases h1:n<j
     ·rw[bH];simp only[h1]at C ⊢;refine⟨?_,(hc n x C).2.wrote E hl L⟩;simp_all
     ·by_cases h2:n<j+xs.length
      ·rw[bJ,bH (by rw[lR,hlen];omega)];simp only[h1,h2,if_true,if_false]at C ⊢;obtain⟨v,Y,O⟩:=hx.2 (n-j) x C;have hg:us.getD (n-j) undef=v:=by rw[iq,Y];rfl
       rw[hg];refine⟨?_,O.wrote E hl L⟩
       grind
      ·rw[bJ,bJ (by rw[lR];omega)];simp only[h1,h2]at C ⊢;refine⟨?_,(hc n x C).2.wrote E hl L⟩
       grind
   ·rw[cH _ _ _ Z]at I;exact(h.root r' y I).wrote E hl L (ZO Z)
inductive yD (m:Nat->Option aW):List Nat->V->(Nat->Option aW)->Prop
 |root (r:Nat) (y0 y:V) (h:m r=some (.sl y0)):yD m [r] y (bV m r (some (.sl y)))
 | elem (j i:Nat) (q:List Nat) (t:TC) (o:Nat) (qn:Bool) (l:List (T t)) (y:V) (e:T t) (m':Nat->Option aW) (h:wB m q (.sl t (o+2) qn l)) (hi:i<l.length) (hj:j<aF t)
   (hd:dec t o (splice (enc t o l[i]) j [y])=some e) (hp:yD m q (.sl t (o+2) qn (l.set i e)) m'):yD m (j::i::aF t::q) y m'
def SR{α:Type}{a b c:aa α}(D:a <:+ c)(hb:b <:+ c)(h:a.length=b.length):a=b:=by
 obtain⟨x,E⟩:=D;obtain⟨y,C⟩:=hb;rw[<-E]at C;exact((List.append_inj' C h.symm).2).symm
def RV.Mb{q:aa Nat}{t:TC}{o:Nat}{U:Bool}{l:aa (T t)}{i j:Nat}{xs:aa V}{e:T t}{b cap:Nat}{cs eT:Array Value}{u us:Nat -> Nat -> Value}
  (hl:ah b=some q) (hh:w'.heap[b]?=some (.cells eT (tid t) (0,0))) (hs:eT.size=cap*aF t) (hn:l.length <= cap) (hm:cap <= maxLen/\(U=true -> cap=l.length)) (hi:i<l.length) (hj:j+xs.length <= aF t)
  (hd:dec t o (splice (enc t o l[i]) j xs)=some e)
  (hc:∀D (h:D<l.length) (C:Nat) x,(enc t o l[D])[C]?=some x -> ¬ (D=i/\j <= C/\C<j+xs.length) -> eT[D*aF t+C]?=some (u D C)/\RV w' B ah (C::D::aF t::q) x (u D C))
  (hx:∀(n:Nat) x,xs[n]?=some x -> eT[i*aF t+(j+n)]?=some (us i (j+n))/\RV w' B ah ((j+n)::i::aF t::q) x (us i (j+n))):
  RV w' B ah q (.sl t (o+2) U (l.set i e)) (.slice (some ⟨b,0,none⟩) l.length cap):=by
 have hlen:(l.set i e).length=l.length:=ji;have key:∀ D (h:D<(l.set i e).length) (C:Nat) x,(enc t o (l.set i e)[D])[C]?=some x ->
   ∃v,eT[D*aF t+C]?=some v/\RV w' B ah (C::D::aF t::q) x v:=by
  intro D h C x I;rw[List.getElem_set]at I;by_cases hii:i=D
  ·subst hii;rw[bH rfl]at I;have hk:=lU t o _ e hd;have r7:C<(enc t o e).length:=(dO.1 I).1;rw[<- hk.1]at r7;have E:=bQ r7;generalize (splice (enc t o l[i]) j xs)[C]=y at E;have Y:=hk.2 C y x E I;rw[wD _ _ _ (by rw[kL];exact hj)]at E;by_cases Z:C<j
   ·rw[bH Z]at E;obtain⟨L,O⟩:=hc i hi C y E (by omega);exact⟨_,L,O.wk Y⟩
   ·by_cases h2:C<j+xs.length
    ·rw[bJ Z,bH h2]at E;obtain⟨L,O⟩:=hx _ y E;rw[show j+(C-j)=C by omega]at L O;exact⟨_,L,O.wk Y⟩
    ·rw[bJ Z,bJ h2]at E;obtain⟨L,O⟩:=hc i hi C y E (by omega);exact⟨_,L,O.wk Y⟩
  ·grind
 rw[<- hlen]
 refine .own q t o U (l.set i e) b cap eT (λD C=>(eT[D*aF t+C]?).getD undef) hl hh hs (by rw[hlen];exact hn) ⟨hm.1,λh=>by rw[hlen];exact hm.2 h⟩ (λD h C x I=>?_) (λD h C x I=>?_)
 ·grind
 ·obtain⟨v,hv,hr⟩:=key D h C x I;simp_all
def ZP{r:Nat}{q:aa Nat}(h:[r] <:+ q){C:Nat}(D:[C] <:+ q):C=r:=by
 have:=SR D h rfl;injection this
def yD.ok{q:aa Nat}{y:V}(h:yD m q y m')(Z:∀ r x,m r=some x -> dZ w B ah ρ r x)(O:uP w w' bt)(hl:ah bt=some kt)(T:q <:+ kt)(hC:qR w w' ah ρ){I:Value}(D:cW w ah ρ q=some I)(hy:RV w' B ah q y I):
  ∀r x,m' r=some x -> dZ w' B ah ρ r x:=by
 induction h generalizing I with
 | root r y0 y h=>
  intro U x C;by_cases L:U=r
  ·subst L;rw[cc]at C;injection C with C;subst C;simp only[cW]at D;cases cN:ρ U with
   |aC b off=>grind
   |bS us=>grind
   | dJ v=>
    rw[cN]at D;injection D with D;subst D;exact .sl v y cN hy
  ·rw[cH _ _ _ L]at C;exact(Z U x C).wrote O hl hC (λY=>L (ZP T Y))
 | elem j i q t o qn l y e m' h hi hj hd hp ih=>
  obtain⟨wE,A1,fG⟩:=h.ok Z;have hqk:q <:+ kt:=List.IsSuffix.trans ⟨[j,i,aF t],rfl⟩ T;cases fG with
  |eD=>simp at hi
  |fF=>simp at hi
  |fV=>simp at hi
  |aH _ _ _ _ _ _ _ _ _ ho=>omega
  | own _ _ _ _ _ b cap cs us E hh Y hn r8 hc L=>
   have cL:b≠bt:=by
    rintro rfl;rw[hl]at E;injection E with E;subst E;have:=T.length_le
    grind
   have hz:=Nat.le_of_eq O.size.symm
   refine ih hqk A1 (RV.Mb (us:=λ_ _=>I) (u:=us) (cs:=cs) (xs:=[y]) E ((O.block b cL).trans hh) Y hn r8 hi (show j+1 <= aF t from hj) hd (λi' h' j' x C Mc=>⟨hc i' h' j' x C,(L i' h' j' x C).apart hl (.inl λoS=>Mc ?_) hz O.block⟩) (λn x C=>?_))
   ·have:=SR oS T rfl
    grind
   ·cases n with
    |succ n=>simp at C
    | zero=>
     simp at C;subst C;refine⟨?_,hy⟩;rw[L7,AY j i _ A1 E]at D;have D:w.cell? ⟨b,i*aF t+j,none⟩=some I:=D;rw[cell_of_row w b _ cs _ _ hh]at D;exact D
def RV.ZQ{q:aa Nat}{x:V}{v:Value}(h:RV w B ah q x v)(C:x.plain=true):mD v=false:=by
 cases h<;>first|rfl|cases C
def RV.tj{q C:aa Nat}{x:V}{v:Value}{B':Nat}{aD:bE}(h:RV w B ah q x v)(D:x.plain=true):RV w' B' aD C x v:=by
 cases h<;>first|exact .int _ _ _|exact .bool _ _|exact .str _ _|cases D
def Rl.alE{j i:Nat}{q:aa Nat}{t:TC}{o:Nat}{qn:Bool}{l:aa (T t)}{xs:aa V}{us:Array Value}{e:T t}(h:Rl w0 N ah ρ σ a w)(hg:wB σ.m q (.sl t (o+2) qn l))(hi:i<l.length)(hj:j+xs.length <= aF t)
  (hd:dec t o (splice (enc t o l[i]) j xs)=some e) (hold:∀(n:Nat) x,n<xs.length -> (enc t o l[i])[j+n]?=some x -> x.plain=true) (hxp:∀x∈xs,x.plain=true) (mE:us.size=xs.length) (hx:∀(n:Nat) x,xs[n]?=some x -> ∃u,us[n]?=some u/\RV w w0.heap.size ah [] x u)
  (hp:yD σ.m q (.sl t (o+2) qn (l.set i e)) m'):
  ∃b,addrAt w ah ρ (j::i::aF t::q)=some ⟨b,i*aF t+j,none⟩/\w.there b (i*aF t+j) us.size/\Rl w0 N ah ρ ⟨σ.t,m'⟩ a (w.setCells b (i*aF t+j) us.toList):=by
 obtain⟨wE,A1,fG⟩:=hg.ok h.root;cases fG with
 |eD=>simp at hi
 |fF=>simp at hi
 |fV=>simp at hi
 |aH _ _ _ _ _ _ _ _ _ ho=>omega
 | own _ _ _ _ _ b cap cs u O Z hs hn r8 hc hr=>
  have A3:i*aF t+aF t <= cap*aF t:=by
   have:(i+1)*aF t <= cap*aF t:=iL _ (by omega);rw[iC]at this;exact this
  have lW:i*aF t+j+us.toList.length <= cs.size:=by rw[lR,mE,hs];omega
  have U:=Ma w b (i*aF t+j) us.toList;obtain⟨L,gI,nD⟩:=F5 b (tid t) us.toList (i*aF t+j) w cs Z lW;have tq:∀ n,L[n]?=if n<i*aF t+j then cs[n]? else if n<i*aF t+j+xs.length then us[n-(i*aF t+j)]? else cs[n]?:=by
   intro n;have e2:L[n]?=(splice cs.toList (i*aF t+j) us.toList)[n]?:=by
    rw[show L[n]?=L.toList[n]? by simp,nD];rfl
   rw[e2,wD _ _ _ (by simpa using lW),lR,mE];simp
  have Gf:L.size=cs.size:=by
   rw[<- lR,nD];have:=th cs.toList _ us.toList (by simpa using lW)
   grind
  have hC:qR w (w.setCells b (i*aF t+j) us.toList) ah ρ:=by
   intro k ad v ha D gf;by_cases cL:ad.block=b
   ·obtain⟨I,C,s',q',rfl,A0,alF,uQ,_⟩:=AZ k ad ha;have r9:ad=⟨b,ad.off,none⟩:=by cases ad;simp_all
    rw[r9,cell_of_row w b _ cs _ _ Z]at D;rw[r9,cell_of_row _ b _ L _ _ gI,tq];by_cases h1:ad.off<i*aF t+j
    ·rw[bH h1];exact D
    ·by_cases h2:ad.off<i*aF t+j+xs.length
     ·exfalso;have hjs:ad.off-(i*aF t+j)<xs.length:=by omega
      have wF:j+(ad.off-(i*aF t+j))<(enc t o l[i]).length:=by rw[kL];omega
      have hy:=bQ wF;generalize (enc t o l[i])[j+(ad.off-(i*aF t+j))]=y at hy;have uR:=hold _ y hjs hy;have Y:=hc i hi _ y hy;rw[show i*aF t+(j+(ad.off-(i*aF t+j)))=ad.off by omega]at Y;rw[D]at Y;injection Y with Y;have:=(hr i hi _ y hy).ZQ uR;rw[<- Y,gf]at this;cases this
     ·rw[bJ h1,bJ h2];exact D
   ·exact(World.cell?_of_block (U.block _ cL)).trans D
  refine⟨b,AY j i (aF t) A1 O,λn yE=>⟨?_,frozen_of_row w b _ cs _ Z⟩,h.wrote U O hC (hp.ok h.root U O (List.suffix_refl _) hC A1 ?_)⟩
  ·rw[cell_of_row w b _ cs _ _ Z];simp;omega
  ·refine RV.Mb (u:=u) (us:=λ_ n=>us.getD (n-j) undef) (cs:=cs) (xs:=xs) O gI (Gf.trans hs) hn r8 hi hj hd (λC h' I x E Mc=>?_) (λn x E=>?_)
   ·have r7:I<aF t:=by have:=(dO.1 E).1;rwa [kL]at this
    refine⟨?_,(hr C h' I x E).apart O (.inl λoS=>?_) (Nat.le_of_eq U.size.symm) U.block⟩
    ·rw[tq];have A4:¬ (¬ C*aF t+I<i*aF t+j/\C*aF t+I<i*aF t+j+xs.length):=by
      rintro⟨h1,h2⟩;rcases Nat.lt_trichotomy C i with dU|heq|Dk
      ·have:(C+1)*aF t <= i*aF t:=iL _ dU;rw[iC]at this;omega
      ·subst heq
       grind
      ·have:(i+1)*aF t <= C*aF t:=iL _ Dk;rw[iC]at this;omega
     split
     ·exact hc C h' I x E
     ·rw[bJ];exact hc C h' I x E
    ·have:=oS.length_le;simp at this;omega
   ·obtain⟨v,D,A5⟩:=hx n x E;have yE:n<xs.length:=(dO.1 E).1;have Dl:us.getD (j+n-j) undef=v:=by rw[show j+n-j=n by omega,iq,D];rfl
    rw[Dl,tq,bJ,bH];refine⟨?_,A5.tj (hxp x (gF E))⟩;rw[show i*aF t+(j+n)-(i*aF t+j)=n by omega];exact D
end
def SS:Value->A
 |.bool b=>.lf (.v (.bool b))
 |.int k n=>.lf (.v (.int k n))
 |.string s=>.lf (.v (.str s))
 |.slice none 0 0=>.lf (.v .nil)
 |_=>.undef
def aK(σ:S):Operand->A
 |.tmp t=>σ.t t
 |.const v=>SS v
 |.func f=>.fn f []
 |.global _=>.undef
def gY{X:Type}(N:Nat)(σ:S)(C:aj Tmp)(x:A)(k:S->aj X):aj X:=
 match C with
 |none=>k σ
 |some d=>bif Nat.blt d N then k (σ.set d x)else none
def lu(P:Program)(w0:Wd)(N:Nat)(o:Oper)(σ D:S):Prop:=
 ∀a w K Q,R w0 N σ a w->(∀C w',R w0 N D C w'->K C w')->o.wp P a w K Q
section
variable {P:Program} {w:World} {w0:Wd} {B N:Nat} {ah:bE} {ρ:Nat->Loc} {σ:S} {a:Act} {X:Type} {r:X} {k:S->aj X} {o:Oper}
def alG(v:Value):RA w B ah ρ (SS v) v:=by
 unfold SS;split
 ·exact⟨rfl,.bool _ _⟩
 ·exact⟨rfl,.int _ _ _⟩
 ·exact⟨rfl,.str _ _⟩
 ·exact⟨rfl,.nil _⟩
 ·trivial
def Rl.aK(h:Rl w0 N ah ρ σ a w)(x:Operand):RA w w0.heap.size ah ρ (aK σ x) (a.eval x):=by
 cases x with
 |tmp t=>exact h.tmp t
 |const v=>exact alG v
 |func f=>exact⟨#[],rfl,rfl,by simp⟩
 |global g=>trivial
def lu.val{x:A}(C:gY N σ o.dst x k=some r)(h:∀ ah ρ a w,Rl w0 N ah ρ σ a w -> ∃ v,(execOp a.eval o).run P w = .ok (.value v) w/\RA w w0.heap.size ah ρ x v):∃ L,k L=some r/\lu P w0 N o σ L:=by
 unfold gY at C;split at C
 ·rename_i D
  refine⟨σ,C,λa w K Q hR E=>?_⟩
  obtain⟨ah,ρ,hl⟩:=hR;obtain⟨v,I,O⟩:=h ah ρ a w hl;unfold Oper.wp;rw[I,Oper.upon_value,D];exact E _ _ ⟨ah,ρ,hl⟩
 ·rename_i d D;cases T:Nat.blt d N with
  |false=>simp_all
  | true=>
   rw[T]at C
   refine⟨_,C,λa w K Q hR E=>?_⟩
   obtain⟨ah,ρ,hl⟩:=hR;obtain⟨v,I,O⟩:=h ah ρ a w hl;unfold Oper.wp;rw[I,Oper.upon_value,D];exact E _ _ ⟨ah,ρ,hl.set O (by have:=cK T;omega)⟩
/-! What does the same whatever comes behind. -/
def mF{α:Type}(f:(X:Type)->(α->aj X)->aj X)(y:α):Prop:=∀(X:Type) (k:α->aj X),f X k=k y
def mF.at_{α:Type}{f:(X:Type)->(α->aj X)->aj X}{y:α}(h:mF f y){X:Type}(k:α->aj X):f X k=k y:=h X k
def cI{α:Type}(f:(X:Type)->(α->aj X)->aj X):Prop:=∀(X Y:Type) (k:α->aj X) (g:X->aj Y),(f X k).bind g=f Y λy=>(k y).bind g
def cI.lX{α:Type}{f:(X:Type)->(α->aj X)->aj X}(n:cI f){X:Type}{k:α->aj X}{r:X}(h:f X k=some r):∃ y,k y=some r/\mF f y:=by
 have e:∀(Y:Type) (k:α->aj Y),f Y k=(f α some).bind k:=λY k=>(n α Y some k).symm
 rw[e]at h;cases C:f α some with
 |none=>rw[C]at h;cases h
 |some y=>rw[C]at h;exact⟨y,h,λX k=>by rw[e,C];rfl⟩
def cI.comp{α β:Type}{f:(X:Type)->(α->aj X)->aj X}{b:(X:Type)->(β->aj X)->α->aj X}(n:cI f)(m:∀y,cI λX k=>b X k y):cI λX k=>f X (b X k):=λX Y k g=>(n X Y _ g).trans (bq _ (funext λy=>m y X Y k g))
def de{X Y:Type}{b:Bool}{x y:aj X}{C D:aj Y}{g:X->aj Y}(E:x.bind g=C)(I:y.bind g=D):(bif b then x else y).bind g=bif b then C else D:=by
 cases b
 ·exact I
 ·exact E
/-! Contents of leaves. -/
def jf{X:Type}(m:Nat->aj aW):aa Nat->(V->aj X)->aj X
 | [r],k=>match m r with
  |some (.sl y)=>k y
  |_=>none
 | j :: i :: s :: q,k=>jf m q λy=>match y with
  |.sl t (o+2) _ l=>if s=aF t then (if h:i<l.length then (match (enc t o l[i])[j]? with|some z=>k z|none=>none)else none)else none
  |_=>none
 |_,_=>none
def sg{m:Nat -> aj aW}:∀ (q:aa Nat) (k:V -> aj X),jf m q k=some r -> ∃ y,wB m q y/\k y=some r
 |[],_,h=>by simp[jf]at h
 | [x],k,h=>by
  simp only[jf]at h;split at h
  next y D=>exact⟨y,.root x y D,h⟩
  ·cases h
 | j :: i :: s :: q,k,h=>by
  obtain⟨y,D,C⟩:=sg q _ h;clear h;split at C
  ·split at C
   ·rename_i E;subst E;split at C
    ·rename_i hi;split at C
     next z I=>exact⟨z,.elem j i q _ _ _ _ z D hi I,C⟩
     ·cases C
    ·cases C
   ·cases C
  ·cases C
def oT{X:Type}(σ:S)(x:Lf)(k:V->aj X):aj X:=
 match x with
 |.v y=>k y
 |.own q=>jf σ.m q k
 |.dead=>none
def RV.part{q:aa Nat}{C:TC}{g:Nat}{U:Bool}{xs:aa (T C)}{A:aj Addr}{n c a h:Nat}(L:RV w B ah q (.sl C g U xs) (.slice A n c))(I:g<2)(h1:a <= h)(D:h <= xs.length):RV w B ah q (.sl C g false ((xs.take h).drop a)) (sliced A a h c (aF C))/\n=xs.length/\xs.length <= c:=by
 have hlen:((xs.take h).drop a).length=h-a:=by simp;omega
 cases L with
 | eD=>
  have:a=0:=by simp at D;omega
  have:h=0:=by simpa using D
  subst_vars
  exact⟨.eD _ _ _,rfl,dx _⟩
 | fF=>
  have:h=0:=by simpa using D
  subst this;have:a=0:=by omega
  subst this;exact⟨by unfold sliced;split<;>exact .fF _ _ _ _ _ I,rfl,Nat.zero_le _⟩
 | fV=>
  have:h=0:=by simpa using D
  subst this;have:a=0:=by omega
  subst this;exact⟨by unfold sliced;split<;>exact .fF _ _ _ _ _ I,rfl,Nat.zero_le _⟩
 |own=>omega
 | aH _ _ _ _ _ b off cap u Y hl hb hB Z hc L=>
  refine⟨?_,rfl,Z⟩;by_cases he:a=h
  ·subst he;have e0:=List.eq_nil_of_length_eq_zero (by rw[hlen];omega);rw[e0];unfold sliced;rw[Nat.sub_self];split<;>exact .fF _ _ _ _ _ I
  ·unfold sliced;rw[bJ,<- hlen];have L2:(some (⟨b,off,none⟩:Addr)).map (·.add (a*aF C))=some ⟨b,off+a*aF C,none⟩:=by
    simp;unfold Addr.add;simp_all
   rw[L2];have O:∀ i (hi:i<((xs.take h).drop a).length),((xs.take h).drop a)[i]=xs[a+i]'(by omega):=by
    intro i hi;simp_all
   refine .aH _ _ _ _ _ b (off+a*aF C) (c-a) (λi j=>u (a+i) j) Y hl hb hB (by omega) (λi hi j x E=>?_) (λi hi j x E=>?_)
   ·rw[O]at E;have:=hc _ _ j x E
    grind
   ·rw[O i]at E
    grind
def ZR(s i j:Nat):V->aj V
 |.sl t _ _ l=>bif Nat.beq s (aF t)then some (.sl t 0 false ((l.take j).drop i))else none
 |_=>none
def uS{X:Type}(σ:S)(q:aa Nat)(s i j:Nat)(k:V->aj X):aj X:=
 jf σ.m q λy=>match ZR s i j y with
  |some z=>k z
  |none=>none
def sj{X:Type}(σ:S)(y:A)(k:V->aj X):aj X:=
 match y with
 |.lf l=>oT σ l k
 |.view q s i j=>uS σ q s i j k
 |_=>none
def ZS{q:aa Nat}{s i j:Nat}{k:V -> aj X}(h:uS σ q s i j k=some r):∃ z,k z=some r/\z.aH=true /\ ∀ w0 N ah ρ a w,Rl w0 N ah ρ σ a w -> ∀ u,RA w w0.heap.size ah ρ (.view q s i j) u -> ∀ B',RV w B' (λ_=>none) [] z u:=by
 obtain⟨y,O,E⟩:=sg q _ h;clear h;split at E
 ·rename_i z C;unfold ZR at C;split at C
  ·rename_i t g T l;cases I:Nat.beq s (aF t)with
   |false=>simp_all
   | true=>
    rw[I,aq]at C;obtain rfl:=cC I;injection C with C;subst C
    refine⟨_,E,rfl,λw0 N ah ρ a w hR u U B'=>?_⟩
    obtain⟨A,n,c,Y,Z,h3,rfl⟩:=U;obtain⟨v,D,hr⟩:=O.ok hR.root;rw[Y]at D;injection D with D;subst D;have L:RV w B' (λ_=>none) [] (.sl t 0 T l) (.slice A n c):=hr.gp;have hn:n=l.length:=by cases L<;>rfl
    exact(L.part (by omega) Z (by omega)).1
  ·cases C
 ·cases E
def vK{X:Type}(x:A)(k:V->aj X):aj X:=
 match x with
 |.lf (.v y)=>k y
 |_=>none
def SU{x:A}{k:V -> aj X}(h:vK x k=some r):∃ y,x = .lf (.v y)/\k y=some r:=by
 unfold vK at h
 grind
def RV.gJ{q:aa Nat}{k:IntKind}{n:Int}{u:Value}(h:RV w B ah q (.int k n) u):u = .int k n:=by cases h;rfl
def RV.yF{q:aa Nat}{n:Bool}{u:Value}(h:RV w B ah q (.bool n) u):u = .bool n:=by cases h;rfl
def RV.wG{q:aa Nat}{n:ByteArray}{u:Value}(h:RV w B ah q (.str n) u):u = .string n:=by cases h;rfl
/-! Arithmetic and comparison. -/
def bD(n:Nat):Bool:=decide (n<1073741824)
def Gg{X:Type}(P:Program)(ty:TypeId)(op:BinOp)(x y:V)(k:V->aj X):aj X:=
 match x,y with
 | .int C a,.int D b=>match op with
  |.shl=>if b<0 then none else k (.int C (C.wrap (a*2 ^ (min b.toNat C.bits))))
  |.shr=>if b<0 then none else k (.int C (a.fdiv (2 ^ (min b.toNat C.bits))))
  | op=>if C=D then (match op with
   |.add=>k (.int C (C.wrap (a+b)))
   |.sub=>k (.int C (C.wrap (a-b)))
   |.mul=>k (.int C (C.wrap (a*b)))
   |.quo=>if b=0 then none else k (.int C (C.wrap (a.tdiv b)))
   |.rem=>if b=0 then none else k (.int C (a.tmod b))
   |.and=>k (.int C (bits .and C a b))
   |.or=>k (.int C (bits .or C a b))
   |.xor=>k (.int C (bits .xor C a b))
   |.andNot=>k (.int C (bits .andNot C a b))
   |.eql=>k (.bool (a==b))
   |.neq=>k (.bool (a != b))
   |.lss=>k (.bool (decide (a<b)))
   |.leq=>k (.bool (decide (a<=b)))
   |.gtr=>k (.bool (decide (a > b)))
   |.geq=>k (.bool (decide (a >= b)))
   |_=>none)else none
 | .bool a,.bool b=>match P.underlying ty with
  | some .bool=>(match op with
   |.eql=>k (.bool (a==b))
   |.neq=>k (.bool (!(a==b)))
   |_=>none)
  |_=>none
 | .str a,.str b=>match op with
  |.add=>bif bD (a.size+b.size)then k (.str (a++b))else none
  |.eql=>k (.bool (a.toList==b.toList))
  |.neq=>k (.bool (!(a.toList==b.toList)))
  |_=>none
 |_,_=>none
def alH{ty:TypeId}{O:BinOp}{x y:V}{k:V -> aj X}(h:Gg P ty O x y k=some r):∃ z,k z=some r/\z.plain=true /\ ∀ (w:World) (B:Nat) (ah:bE) (E I:Operand) (q L:aa Nat) (u v:Value),RV w B ah q x u -> RV w B ah L y v ->
  ∃t,(do eqGuard O ty E I u v;binOp O ty u v:Sem Value).run P w = .ok t w/\RV w B ah [] z t:=by
 unfold Gg at h;split at h
 ·rename_i kx a ky b;split at h
  ·split at h
   ·cases h
   ·rename_i hb
    refine⟨_,h,rfl,λw B ah E I q L u v C D=>?_⟩
    obtain rfl:=C.gJ;obtain rfl:=D.gJ;exact⟨_,by simp[eqGuard,binOp,Op.shift,hb],.int _ _ _⟩
  ·split at h
   ·cases h
   ·rename_i hb
    refine⟨_,h,rfl,λw B ah E I q L u v C D=>?_⟩
    obtain rfl:=C.gJ;obtain rfl:=D.gJ;exact⟨_,by simp[eqGuard,binOp,Op.shift,hb],.int _ _ _⟩
  ·rename_i Y Z;split at h
   ·rename_i hk;subst hk;cases O
    case shl=>exact absurd rfl Y
    case shr=>exact absurd rfl Z
    case quo=>
     by_cases hb:b=0
     ·simp only[hb,if_true]at h;cases h
     ·simp[hb]at h
      refine⟨_,h,rfl,λw B ah E I q L u v C D=>?_⟩
      obtain rfl:=C.gJ;obtain rfl:=D.gJ;exact⟨_,by simp[eqGuard,binOp,Op.intDiv,hb],.int _ _ _⟩
    case rem=>
     by_cases hb:b=0
     ·simp only[hb,if_true]at h;cases h
     ·simp[hb]at h
      refine⟨_,h,rfl,λw B ah E I q L u v C D=>?_⟩
      obtain rfl:=C.gJ;obtain rfl:=D.gJ;exact⟨_,by simp[eqGuard,binOp,Op.intDiv,hb],.int _ _ _⟩
    all_goals first
     | (refine⟨_,h,rfl,λw B ah E I q L u v C D=>?_⟩
        obtain rfl:=C.gJ;obtain rfl:=D.gJ
        first
         |(refine⟨_,?_,.int _ _ _⟩;simp[eqGuard,binOp,Op.intArith];done)
         |(refine⟨_,?_,.int _ _ _⟩;simp[eqGuard,binOp,intBits_and,intBits_or,intBits_xor,intBits_andNot];done)
         |(refine⟨_,?_,.bool _ _⟩;simp[eqGuard,binOp,Op.intCmp];done))
     |cases h
   ·cases h
 ·rename_i a b;split at h
  ·rename_i U;split at h
   ·refine⟨_,h,rfl,λw B ah E I q L u v C D=>?_⟩
    obtain rfl:=C.yF;obtain rfl:=D.yF;have e:binOp .eql ty (.bool a) (.bool b)=(do pure (.bool (<- Op.equal ty (.bool a) (.bool b)))):=rfl;have g:eqGuard .eql ty E I (.bool a) (.bool b)=pure ():=rfl;exact⟨_,by rw[e,g,gd,Sem.run_pure,mB,gd,run_equal_bool _ _ _ _ U];rfl,.bool _ _⟩
   ·refine⟨_,h,rfl,λw B ah E I q L u v C D=>?_⟩
    obtain rfl:=C.yF;obtain rfl:=D.yF;have e:binOp .neq ty (.bool a) (.bool b)=(do pure (.bool (!(<- Op.equal ty (.bool a) (.bool b))))):=rfl;have g:eqGuard .neq ty E I (.bool a) (.bool b)=pure ():=rfl;exact⟨_,by rw[e,g,gd,Sem.run_pure,mB,gd,run_equal_bool _ _ _ _ U];rfl,.bool _ _⟩
   ·cases h
  ·cases h
 ·rename_i a b;split at h
  ·cases T:bD (a.size+b.size)with
   |false=>rw[T]at h;cases h
   | true=>
    rw[T]at h
    refine⟨_,h,rfl,λw B ah E I q L u v C D=>?_⟩
    obtain rfl:=C.wG;obtain rfl:=D.wG;have hL':a.size+b.size<1073741824:=by simpa [bD]using T
    refine⟨_,?_,.str _ _⟩;have h9:IntKind.i64.max=9223372036854775807:=rfl;simp only[eqGuard,binOp,Op.stringOp,h9];simp;omega
  ·refine⟨_,h,rfl,λw B ah E I q L u v C D=>?_⟩
   obtain rfl:=C.wG;obtain rfl:=D.wG;exact⟨_,by simp[eqGuard,binOp,Op.stringOp],.bool _ _⟩
  ·refine⟨_,h,rfl,λw B ah E I q L u v C D=>?_⟩
   obtain rfl:=C.wG;obtain rfl:=D.wG;exact⟨_,by simp[eqGuard,binOp,Op.stringOp],.bool _ _⟩
  ·cases h
 ·cases h
def Gh{X:Type}(D:UnOp)(x:V)(k:V->aj X):aj X:=
 match D,x with
 |.not,.bool b=>k (.bool (!b))
 |.neg,.int C n=>k (.int C (C.wrap (0-n)))
 |_,_=>none
def alI{D:UnOp}{x:V}{k:V->aj X}(h:Gh D x k=some r):∃ z,k z=some r/\z.plain=true/\∀ (w:World) (B:Nat) (ah:bE) (q:aa Nat) (u:Value),RV w B ah q x u->∃ t,(Op.unary D u).run P w = .ok t w/\RV w B ah [] z t:=by
 unfold Gh at h;split at h
 ·refine⟨_,h,rfl,λw B ah q u C=>?_⟩
  obtain rfl:=C.yF;exact⟨_,by simp[Op.unary],.bool _ _⟩
 ·refine⟨_,h,rfl,λw B ah q u C=>?_⟩
  obtain rfl:=C.gJ;exact⟨_,by simp[Op.unary,Op.intArith],.int _ _ _⟩
 ·cases h
def V.Gi{x:V}(h:x.plain=true):x.aH=true:=by cases x<;>first|rfl|cases h
end
def jo(P:Program)(t:TypeId):aj Nat:=(P.info? t).map (·.size)
def Dm(P:Program)(t:TypeId):aj Bool:=
 match P.underlying t with
 |some (.struct _)|some (.array _ _)=>some true
 |some _=>some false
 |none=>none
def pW(P:Program)(t:TypeId):aj TypeId:=
 match P.underlying t with
 |some (.slice e)=>some e
 |_=>none
def Gj(P:Program)(s:TypeId)(f:Nat):aj Field:=
 match P.underlying s with
 |some (.struct C)=>C[f]?
 |_=>none
def wH{X:Type}(P:Program)(t:TypeId)(cs:aa Lf)(k:A->aj X):aj X:=
 match jo P t with
 | some n=>if cs.length=n then (match Dm P t with
  |some true=>k (.agg cs)
  | some false=>(match cs with
   |[y]=>k (.lf y)
   |_=>none)
  |none=>none)else none
 |none=>none
def leaves(key:Nat->aa Nat):Nat->aa V->aa Lf
 |_,[]=>[]
 |j,z::C=>(bif z.aH then .v z else .own (key j))::leaves key (j+1) C
def oa{X:Type}(P:Program)(σ:S)(t:TypeId)(x:A)(k:A->aj X):aj X:=
 match jo P t with
 |none=>none
 | some n=>match x with
  | .aG r j=>(match σ.m r with
   |some (.aC cs)=>wH P t ((cs.drop j).take n) k
   |_=>none)
  |.jd cs=>wH P t ((cs.take n).map .v) k
  | .ptr (j :: i :: s :: q)=>jf σ.m q λy=>(match y with
   |.sl C (o+2) _ l=>if s=aF C then (if h:i<l.length then wH P t (leaves (λD=>D::i::s::q) j (((enc C o l[i]).drop j).take n)) k else none)else none
   |_=>none)
  |_=>none
section
variable {P:Program} {w:World} {w0:Wd} {B N:Nat} {ah:bE} {ρ:Nat->Loc} {σ:S} {a:Act} {X:Type} {r:X} {o:Oper}
def ZT(key:Nat -> aa Nat):∀ (j:Nat) (C:aa V) (n:Nat),(leaves key j C)[n]?=(C[n]?).map λz=>bif z.aH then .v z else .own (key (j+n))
 |_,[],n=>by simp[leaves]
 |j,z::C,0=>by simp[leaves]
 | j,z :: C,n+1=>by
  simp[leaves,List.getElem?_cons_succ,ZT]
  grind
def SV{t:TypeId}{cs:aa Lf}{k:A -> aj X}(h:wH P t cs k=some r):∃ x,k x=some r /\ ∀ (w:World) (B:Nat) (ah:bE) (ρ:Nat -> Loc) (b o:Nat) (D:aa Value),eJ w B ah ρ cs D.toArray -> w.rangeAt b o D ->
  ∃v,(Instr.loadAt t (.pointer (some ⟨b,o,none⟩))).run P w = .ok v w/\RA w B ah ρ x v:=by
 unfold wH at h;split at h
 ·rename_i n O;split at h
  ·rename_i hlen;split at h
   ·rename_i C
    refine⟨_,h,λw B ah ρ b o D hl I=>?_⟩
    have L:D.length=n:=by have:=hl.1;simpa [hlen]using this
    unfold Dm at C;split at C
    next Y E=>exact⟨_,run_loadAt_mid w b o t D _ I E rfl (by rw[L];exact O),_,rfl,hl⟩
    next c e E=>exact⟨_,run_loadAt_mid w b o t D _ I E rfl (by rw[L];exact O),_,rfl,hl⟩
    ·cases C
    ·cases C
   ·rename_i C;split at h
    ·rename_i y
     refine⟨_,h,λw B ah ρ b o D hl I=>?_⟩
     have L:D.length=1:=by have:=hl.1;simpa using this
     obtain⟨v,rfl⟩:=List.length_eq_one_iff.1 L;have T:w.cell? ⟨b,o,none⟩=some v:=I 0 v rfl;obtain⟨u,E,hR⟩:=hl.2 0 y rfl;have:v=u:=by simpa using E
     subst this;refine⟨v,?_,hR⟩;unfold Dm at C;split at C
     ·cases C
     ·cases C
     ·rename_i d Z ha E;have U:(isAgg t).run P w = .ok false w:=by
       unfold isAgg;rw[gd,gL E];simp_all
      simp[Instr.loadAt,Instr.sureAddr,loadVar,gd,U,load,Sem.run,T]
     ·cases C
    ·cases h
   ·cases h
  ·cases h
 ·cases h
def Md{α:Type}(l:aa α)(j n i:Nat)(x:α)(h:((l.drop j).take n)[i]?=some x):i<n/\l[j+i]?=some x:=by grind
def ZU{t:TypeId}{x:A}{k:A -> aj X}(h:oa P σ t x k=some r):∃ y,k y=some r /\ ∀ ah ρ a w,Rl w0 N ah ρ σ a w -> ∀ u,RA w w0.heap.size ah ρ x u ->
  ∃v,(Instr.loadAt t u).run P w = .ok v w/\RA w w0.heap.size ah ρ y v:=by
 unfold oa at h;split at h
 ·cases h
 ·rename_i n hn;split at h
  ·rename_i r' j;split at h
   ·rename_i cs jq;obtain⟨y,U,Y⟩:=SV h
    refine⟨y,U,λah ρ a w hR u Z=>?_⟩
    obtain⟨b,off,cN,rfl⟩:=Z;have L:=hR.root r' _ jq;generalize T:aW.aC cs=x at L;cases L with
    |sl=>cases T
    |mp=>cases T
    |gh=>cases T
    | aC b' A6 cells e eT us iQ hl hh hs hc=>
     injection T with T;subst T;rw[cN]at iQ;injection iQ with e1 e2;subst e1 e2
     refine Y w _ ah ρ b (off+j) (((cs.drop j).take n).mapIdx λi _=>us (j+i)) ⟨by simp,λi x C=>?_⟩ (λi v D=>?_)
     ·obtain⟨hi,lY⟩:=Md _ _ _ _ _ C;simp_all
     ·rw[List.getElem?_mapIdx]at D;cases C:((cs.drop j).take n)[i]? with
      |none=>rw[C]at D;cases D
      | some x=>
       rw[C]at D;injection D with D;subst D;obtain⟨hi,lY⟩:=Md _ _ _ _ _ C;rw[cell_of_row w b _ cells _ _ hh,Nat.add_assoc];simp_all
   ·cases h
  ·rename_i cs;obtain⟨y,U,Y⟩:=SV h
   refine⟨y,U,λah ρ a w hR u Z=>?_⟩
   obtain⟨b,off,rfl,hb,hl,hc⟩:=Z;have qS:∀ (i:Nat) (x:Lf),((cs.take n).map Lf.v)[i]?=some x -> ∃ z v,x = .v z/\z.aH=true/\w.cell? ⟨b,off+i,none⟩=some v/\RV w w0.heap.size ah [] z v:=by
    intro i x C;rw[eH]at C;cases I:(cs.take n)[i]? with
    |none=>rw[I]at C;cases C
    | some z=>
     rw[I]at C;injection C with C;rw[List.getElem?_take]at I;split at I
     ·obtain⟨sk,v,D,L⟩:=hc i z I
      grind
     ·cases I
   refine Y w _ ah ρ b off (((cs.take n).map Lf.v).mapIdx λi _=>(w.cell? ⟨b,off+i,none⟩).getD undef) ⟨by simp,λi x C=>?_⟩ (λi v D=>?_)
   ·obtain⟨z,v,rfl,sk,D,L⟩:=qS i x C;refine⟨v,?_,sk,L⟩;simp_all
   ·rw[List.getElem?_mapIdx]at D;cases C:((cs.take n).map Lf.v)[i]? with
    |none=>rw[C]at D;cases D
    |some x =>grind
  ·rename_i j i s q;obtain⟨y0,hg,O⟩:=sg _ _ h;clear h;split at O
   ·rename_i E o' qn l;split at O
    ·rename_i hs;subst hs;split at O
     ·rename_i hi;obtain⟨y,U,Y⟩:=SV O
      refine⟨y,U,λah ρ a w hR u Z=>?_⟩
      obtain⟨ad,rfl,r9⟩:=Z;obtain⟨D,lz,jX⟩:=hg.ok hR.root;cases jX with
      |eD=>simp at hi
      |fF=>simp at hi
      |fV=>simp at hi
      |aH _ _ _ _ _ _ _ _ _ ho=>omega
      | own _ _ _ _ _ b cap cs us pX hh hs hn r8 hc L=>
       rw[AY j i (aF E) lz pX]at r9;injection r9 with r9;subst r9;have qS:∀ (m:Nat) (x:Lf),(leaves (λj'=>j' :: i :: aF E :: q) j (((enc E o' l[i]).drop j).take n))[m]?=some x -> cs[i*aF E+(j+m)]?=some (us i (j+m))/\dP w w0.heap.size ah ρ x (us i (j+m)):=by
        intro m x C;rw[ZT]at C;cases I:(((enc E o' l[i]).drop j).take n)[m]? with
        |none=>rw[I]at C;cases C
        | some z=>
         rw[I]at C;injection C with C;have C:(bif z.aH then Lf.v z else Lf.own ((j+m)::i::aF E::q))=x:=C;obtain⟨_,Dn⟩:=Md _ _ _ _ _ I;have h3:=hc i hi _ z Dn;have h4:=L i hi _ z Dn;refine⟨h3,?_⟩;cases Dp:z.aH with
         | true=>
          rw[Dp]at C;subst C;exact⟨Dp,h4.key Dp⟩
         | false=>
          rw[Dp]at C;have C:Lf.own ((j+m)::i::aF E::q)=x:=C;subst C;refine⟨?_,?_⟩
          ·exact h4.SK Dp
          ·rw[L7,AY _ i _ lz pX];show w.cell? _=_;rw[cell_of_row w b _ cs _ _ hh];exact h3
       refine Y w _ ah ρ b (i*aF E+j) ((leaves (λj'=>j'::i::aF E::q) j (((enc E o' l[i]).drop j).take n)).mapIdx λm _=>us i (j+m)) ⟨by simp,λm x C=>?_⟩ (λm v D=>?_)
       ·simp[*]
       ·rw[List.getElem?_mapIdx]at D;cases C:(leaves (λj'=>j' :: i :: aF E :: q) j (((enc E o' l[i]).drop j).take n))[m]? with
        |none=>rw[C]at D;cases D
        | some x=>
         rw[C]at D;injection D with D;subst D;rw[cell_of_row w b _ cs _ _ hh,Nat.add_assoc];simp_all
     ·cases O
    ·cases O
   ·cases O
  ·cases h
end
def A.yG:A->aj (aa Lf)
 |.lf x=>some [x]
 |.agg xs=>some xs
 |_=>none
def Lf.live:Lf->Bool
 |.dead=>false
 |_=>true
def Lf.pl:Lf->aj V
 |.v x=>bif x.plain then some x else none
 |_=>none
def qT:aa Lf->aj (aa V)
 |[]=>some []
 | x :: xs=>match x.pl,qT xs with
  |some y,some ys=>some (y::ys)
  |_,_=>none
def wI{X:Type}(m:Nat->aj aW):aa Nat->V->((Nat->aj aW)->aj X)->aj X
 | [r],y,k=>match m r with
  |some (.sl _)=>k (bV m r (some (.sl y)))
  |_=>none
 | j :: i :: s :: q,y,k=>jf m q λz=>match z with
  | .sl t (o+2) C l=>if s=aF t then (if h:i<l.length then (if j<aF t then (match dec t o (splice (enc t o l[i]) j [y])with
   |some e=>wI m q (.sl t (o+2) C (l.set i e)) k
   |none=>none)else none)else none)else none
  |_=>none
 |_,_,_=>none
def pY{X:Type}(P:Program)(σ:S)(t:TypeId)(x y:A)(k:S->aj X):aj X:=
 match jo P t,y.yG with
 | some n,some xs=>if xs.length=n then (match x with
  | .aG r j=>(match σ.m r with
   |some (.aC cs)=>if j+n<=cs.length then (bif xs.all Lf.live then k ⟨σ.t,bV σ.m r (some (.aC (splice cs j xs)))⟩else none)else none
   |_=>none)
  | .ptr (j :: i :: s :: q)=>(match qT xs with
   |none=>none
   | some D=>jf σ.m q λy=>(match y with
    | .sl C (o+2) E l=>if s=aF C then (if h:i<l.length then (if j+D.length<=aF C then (bif (((enc C o l[i]).drop j).take D.length).all V.plain then (match dec C o (splice (enc C o l[i]) j D)with
     |some e=>wI σ.m q (.sl C (o+2) E (l.set i e)) λm=>k ⟨σ.t,m⟩
     |none=>none)else none)else none)else none)else none
    |_=>none))
  |_=>none)else none
 |_,_=>none
section
variable {P:Program} {w:World} {w0:Wd} {B N:Nat} {ah:bE} {ρ:Nat->Loc} {σ:S} {a:Act} {X:Type} {r:X} {o:Oper}
def ZV{m:Nat -> aj aW}:∀ (q:aa Nat) (y:V) (k:(Nat -> aj aW) -> aj X),wI m q y k=some r -> ∃ m',yD m q y m'/\k m'=some r
 |[],_,_,h=>by simp[wI]at h
 | [x],y,k,h=>by
  simp only[wI]at h;split at h
  next D E=>exact⟨_,.root x D y E,h⟩
  ·cases h
 | j :: i :: s :: q,y,k,h=>by
  simp only[wI]at h;obtain⟨z,I,C⟩:=sg q _ h;clear h;split at C
  ·split at C
   ·rename_i L;subst L;split at C
    ·rename_i hi;split at C
     ·rename_i O;split at C
      next e T=>obtain⟨m',U,Y⟩:=ZV q _ k C;exact⟨m',.elem j i q _ _ _ _ y e m' I hi O T U,Y⟩
      ·cases C
     ·cases C
    ·cases C
   ·cases C
  ·cases C
def Me:∀ (xs:aa Lf) (C:aa V),qT xs=some C -> xs=C.map .v /\ ∀ v∈C,v.plain=true
 | [],C,h=>by
  simp[qT]at h;subst h;exact⟨rfl,by simp⟩
 | x :: xs,C,h=>by
  unfold qT at h;split at h
  ·rename_i y ys D E;injection h with h;subst h;obtain⟨I,L⟩:=Me xs ys E;have:x = .v y/\y.plain=true:=by
    cases x with
    | v z=>
     unfold Lf.pl at D
     grind
    |own q=>cases D
    |dead=>cases D
   simp_all
  ·cases h
def alJ{u:Value}(h:u.oneCell'=true):u.cells = #[u]:=by cases u<;>first|rfl|cases h
def dP.one{x:Lf}{u:Value}(h:dP w B ah ρ x u)(C:x.live=true):u.oneCell'=true:=by
 cases x with
 |v z=>exact h.2.one
 | own k=>
  have:=h.1;cases u<;>first|rfl|cases this
 |dead=>cases C
def Gk{y:A}{xs:aa Lf}(h:y.yG=some xs)(D:xs.all Lf.live=true){u:Value}(C:RA w B ah ρ y u):eJ w B ah ρ xs u.cells/\u.cells.all (·.oneCell')=true:=by
 have key:∀ us:Array Value,eJ w B ah ρ xs us -> us.all (·.oneCell')=true:=by
  intro us E;rw[Array.all_eq_true];intro i hi;have L:=bQ (by rw[<- E.1];exact hi);obtain⟨v,I,O⟩:=E.2 i _ L;have:us[i]=v:=by rw[Array.getElem?_eq_getElem hi]at I;injection I
  rw[this];exact O.one (cu.1 D _ (cR _))
 cases y with
 | lf x=>
  injection h with h;subst h;have C:dP w B ah ρ x u:=C;have T:=C.one (by simpa using D);have:eJ w B ah ρ [x] u.cells:=by
   rw[alJ T]
   refine⟨rfl,λj y U=>?_⟩
   grind
  simp_all
 | agg Y=>
  injection h with h;subst h;obtain⟨us,rfl,h⟩:=C;exact⟨h,key _ h⟩
 |_=>cases h
def SW(w:World)(b o:Nat)(ty:TypeId)(v:Value)(D:w.there b o v.cells.size)(hi:(P.info? ty).map (·.size)=some v.cells.size)(I:v.cells.all (·.oneCell')=true):
  (Instr.storeAt ty (.pointer (some ⟨b,o,none⟩)) v).run P w = .ok () (w.setCells b o v.cells.toList):=by
 have:=run_storeCells_cells (P:=P) b o v.cells.toList 0 w (λj C=>by simpa using (D j (by simpa using C)).1) (λj C=>by simpa using (D j (by simpa using C)).2)
  (λv L=>(Array.all_eq_true_iff_forall_mem.1 I) v (by simpa using L))
 cases E:P.info? ty with
 |none=>simp_all
 | some i=>
  have O:v.cells.size=i.size:=by simp[E]at hi;omega
  simp[Instr.storeAt,Instr.sureAddr,storeVar,sizeOf,typeInfo,E,O,this]
def ZW{t:TypeId}{x y:A}{k:S -> aj X}(h:pY P σ t x y k=some r):∃ c8,k c8=some r /\ ∀ ah ρ a w,Rl w0 N ah ρ σ a w -> ∀ u v,RA w w0.heap.size ah ρ x u -> RA w w0.heap.size ah ρ y v ->
  ∃w',(Instr.storeAt t u v).run P w = .ok () w'/\Rl w0 N ah ρ c8 a w':=by
 unfold pY at h;split at h
 ·rename_i n xs hn oU;split at h
  ·rename_i hlen;split at h
   ·rename_i r' j;split at h
    ·rename_i cs jq;split at h
     ·rename_i T;cases I:xs.all Lf.live with
      |false=>grind
      | true=>
       rw[I]at h
       refine⟨_,h,λah ρ a w hR u v U Y=>?_⟩
       obtain⟨b,off,cN,rfl⟩:=U;obtain⟨hl,Z⟩:=Gk oU I Y;obtain⟨b',A6,iQ,Gl,dV⟩:=hR.Ge jq hl (by rw[hlen];exact T);rw[cN]at iQ;injection iQ with e1 e2;subst e1 e2;exact⟨_,SW w b (off+j) t v Gl (by rw[hl.1,hlen];exact hn) Z,dV⟩
     ·cases h
    ·cases h
   ·rename_i j i s q;split at h
    ·cases h
    ·rename_i E lZ;obtain⟨y0,hg,C⟩:=sg _ _ h;clear h;split at C
     ·rename_i t' o' qn l;split at C
      ·rename_i hs;subst hs;split at C
       ·rename_i hi;split at C
        ·rename_i T;cases hold:(((enc t' o' l[i]).drop j).take E.length).all V.plain with
         |false=>grind
         | true=>
          rw[hold,aq]at C;split at C
          ·rename_i e he;obtain⟨m',sn,h3⟩:=ZV q _ _ C
           refine⟨_,h3,λah ρ a w hR u v U Y=>?_⟩
           obtain⟨ad,rfl,r9⟩:=U;obtain⟨L,Mf⟩:=Me xs E lZ;have I:xs.all Lf.live=true:=by rw[L];simp[Lf.live]
           obtain⟨hl,Z⟩:=Gk oU I Y;have A7:E.length=n:=by rw[<- hlen,L,eI]
           have q1:∀ (D:Nat) x,D<E.length -> (enc t' o' l[i])[j+D]?=some x -> x.plain=true:=by
            intro D x yE hx;refine cu.1 hold x (gF (i:=D) ?_);simp_all
           have q2:∀ (D:Nat) x,E[D]?=some x -> ∃ O,v.cells[D]?=some O/\RV w w0.heap.size ah [] x O:=by
            intro D x hx;obtain⟨O,uT,fG⟩:=hl.2 D (.v x) (by rw[L,eH,hx];rfl);exact⟨O,uT,fG.2⟩
           obtain⟨b,hb,Gl,dV⟩:=hR.alE (xs:=E) (us:=v.cells) hg hi T he q1 Mf (by rw[hl.1,L,eI]) q2 sn;rw[r9]at hb;injection hb with hb;subst hb;exact⟨_,SW w b _ t v Gl (by rw[hl.1,hlen];exact hn) Z,dV⟩
          ·cases C
        ·cases C
       ·cases C
      ·cases C
     ·cases C
   ·cases h
  ·cases h
 ·cases h
end
def Ds{X:Type}(P:Program)(s:TypeId)(x:A)(f:Nat)(k:A->aj X):aj X:=
 match Gj P s f with
 |none=>none
 | some C=>match jo P C.type with
  | some (_+1)=>(match x with
   |.aG r j=>k (.aG r (j+C.offset))
   |.jd cs=>k (.jd (cs.drop C.offset))
   |.ptr (j::i::s::q)=>k (.ptr ((j+C.offset)::i::s::q))
   |_=>none)
  |_=>none
def yH{X:Type}(P:Program)(σ:S)(t:TypeId)(x i:A)(k:A->aj X):aj X:=
 match pW P t with
 |none=>none
 | some e=>match jo P e,i with
  | some n,.lf (.v (.int _ iv))=>(match x with
   |.lf (.v (.sl C g _ l))=>if n=aF C then (bif Nat.blt g 2 then (if h:0<=iv/\iv.toNat<l.length then k (.jd (enc C g (l[iv.toNat]'h.2)))else none)else none)else none
   | .lf (.own q)=>jf σ.m q λy=>(match y with
    |.sl C g _ l=>if n=aF C then (if h:0<=iv/\iv.toNat<l.length then (bif Nat.blt g 2 then k (.jd (enc C g (l[iv.toNat]'h.2)))else k (.ptr (0::iv.toNat::aF C::q)))else none)else none
    |_=>none)
   |_=>none)
  |_,_=>none
def A8{X:Type}(P:Program)(σ:S)(t:TypeId)(x:A)(k:A->aj X):aj X:=
 match x with
 | .lf y=>oT σ y λz=>(match z with
  |.sl _ _ _ l=>(match P.underlying t with|some (.slice _)=>k (.lf (.v (.int .i64 (l.length:Int))))|_=>none)
  |.nil=>(match P.underlying t with|some (.slice _)=>k (.lf (.v (.int .i64 0)))|_=>none)
  |.str s=>(match P.underlying t with|some .string=>k (.lf (.v (.int .i64 (s.size:Int))))|_=>none)
  |_=>none)
 |.view _ _ i j=>(match P.underlying t with|some (.slice _)=>k (.lf (.v (.int .i64 ((j-i:Nat):Int))))|_=>none)
 |_=>none
def yI:Bool×aa Lf->aj A
 |(true,cs)=>some (.agg cs)
 |(false,[y])=>some (.lf y)
 |_=>none
def A9{X:Type}(x:A)(i:Nat)(k:A->aj X):aj X:=
 match x with
 | .eV xs=>match (xs[i]?).bind yI with
  |some y=>k y
  |none=>none
 |_=>none
section
variable {P:Program} {w:World} {w0:Wd} {B N:Nat} {ah:bE} {ρ:Nat->Loc} {σ:S} {a:Act} {X:Type} {r:X} {o:Oper} {w':World} {aD:bE} {ρ':Nat->Loc} {d:Nat}
def alK(n:Nat){j i s:Nat}{q:aa Nat}{ad:Addr}(h:addrAt w ah ρ (j :: i :: s :: q)=some ad):addrAt w ah ρ ((j+n) :: i :: s :: q)=some ⟨ad.block,ad.off+n,none⟩:=by
 match q,h with
 | [r],h=>
  simp[addrAt]at h ⊢;split at h
  ·grind
  ·cases h
 | x :: y :: q,h=>
  simp[addrAt]at h ⊢;split at h
  ·grind
  ·cases h
def SX(w:World)(s:TypeId)(f:Nat)(C:Field)(n b off:Nat)(D:Gj P s f=some C)(E:jo P C.type=some (n+1)):
  (Instr.fieldAt s (.pointer (some ⟨b,off,none⟩)) f).run P w = .ok (.pointer (some ⟨b,off+C.offset,none⟩)) w:=by
 unfold Gj at D;split at D
 ·rename_i O L;unfold jo at E;cases I:P.info? C.type with
  |none=>simp_all
  | some i=>
   have hi:i.size=n+1:=by simpa [I]using E
   simp[Instr.fieldAt,gL L,D,Instr.sureAddr,fieldPlace,sizeOf,typeInfo,I,hi,Addr.add_mid]
 ·cases D
def alL{s:TypeId}{x:A}{f:Nat}{k:A -> aj X}(h:Ds P s x f k=some r):∃ y,k y=some r /\ ∀ (w:World) (B:Nat) (ah:bE) (ρ:Nat -> Loc) (u:Value),RA w B ah ρ x u ->
  ∃v,(Instr.fieldAt s u f).run P w = .ok v w/\RA w B ah ρ y v:=by
 unfold Ds at h;split at h
 ·cases h
 ·rename_i D E;split at h
  ·rename_i n I;split at h
   ·rename_i Y j
    refine⟨_,h,λw B ah ρ u C=>?_⟩
    obtain⟨b,off,T,rfl⟩:=C;exact⟨_,SX w s f D n b _ E I,b,off,T,by rw[Nat.add_assoc]⟩
   ·rename_i cs
    refine⟨_,h,λw B ah ρ u C=>?_⟩
    obtain⟨b,off,rfl,hb,hl,Z⟩:=C
    refine⟨_,SX w s f D n b _ E I,b,_,rfl,hb,hl,λj x hx=>?_⟩
    grind
   ·rename_i j i s' q
    refine⟨_,h,λw B ah ρ u C=>?_⟩
    obtain⟨ad,rfl,L⟩:=C;have U:=alK D.offset L;obtain⟨_,_,_,_,_,_,_,O,_⟩:=AZ _ _ L;obtain⟨b,off,sp⟩:=ad;simp only at O;subst O;exact⟨_,SX w s f D n b off E I,_,rfl,U⟩
   ·cases h
  ·cases h
def SY(w:World)(t e:TypeId)(n b off len cap:Nat)(I:IntKind)(iv:Int)(C:pW P t=some e)(D:jo P e=some n)(L:0 <= iv)(Y:iv.toNat<len):
  (Instr.indexAt t (.slice (some ⟨b,off,none⟩) len cap) (.int I iv)).run P w = .ok (.pointer (some ⟨b,off+iv.toNat*n,none⟩)) w:=by
 unfold pW at C;split at C
 ·rename_i O T;injection C with C;subst C;unfold jo at D;cases E:P.info? O with
  |none=>simp_all
  | some i=>
   have hi:i.size=n:=by simpa [E]using D
   have U:iv<len:=by omega
   simp[Instr.indexAt,gL T,asIntOf,L,U,sizeOf,typeInfo,E,hi,Addr.add_mid]
 ·cases C
def alM{t:TypeId}{x i:A}{k:A -> aj X}(h:yH P σ t x i k=some r):∃ y,k y=some r /\ ∀ ah ρ a w,Rl w0 N ah ρ σ a w -> ∀ u v,RA w w0.heap.size ah ρ x u -> RA w w0.heap.size ah ρ i v ->
  ∃p,(Instr.indexAt t u v).run P w = .ok p w/\RA w w0.heap.size ah ρ y p:=by
 unfold yH at h;split at h
 ·cases h
 ·rename_i e Y;split at h
  ·rename_i n Z iv hn;split at h
   ·rename_i t' g qn l;split at h
    ·rename_i Ba;subst Ba;cases D:Nat.blt g 2 with
     |false=>grind
     | true=>
      rw[D,aq]at h;split at h
      ·rename_i hb
       refine⟨_,h,λah ρ a w hR u v E I=>?_⟩
       obtain rfl:=I.2.gJ;have yJ:g<2:=by have:=cK D;omega
       cases E.2 with
       |eD=>simp at hb
       |fF=>simp at hb
       |fV=>simp at hb
       |own=>grind
       | aH _ _ _ _ _ b off cap us ho hl Mg h1 lV hc U=>
        refine⟨_,SY w t e _ b off _ cap Z iv Y hn hb.1 hb.2,b,_,rfl,Mg,hl,λj x L=>⟨pV t' g _ yJ j x L,us _ j,?_,U _ hb.2 j x L⟩⟩
        grind
      ·cases h
    ·cases h
   ·rename_i q;obtain⟨y0,D,C⟩:=sg _ _ h;clear h;split at C
    ·rename_i t' O qn l;split at C
     ·rename_i Ba;subst Ba;split at C
      ·rename_i hb;cases T:Nat.blt O 2 with
       | true=>
        rw[T,aq]at C;have ZX:O<2:=cK T
        refine⟨_,C,λah ρ a w hR u v E I=>?_⟩
        obtain rfl:=I.2.gJ;obtain⟨wE,lz,jX⟩:=D.ok hR.root;have:wE=u:=by
         have h3:=E.2;simp_all
        subst this;cases jX with
        |eD=>simp at hb
        |fF=>simp at hb
        |fV=>simp at hb
        |own=>grind
        | aH _ _ _ _ _ b off cap us ho hl Mg h1 lV hc U=>
         refine⟨_,SY w t e _ b off _ cap Z iv Y hn hb.1 hb.2,b,_,rfl,Mg,hl,λj x L=>⟨pV t' O _ ZX j x L,us _ j,?_,U _ hb.2 j x L⟩⟩
         grind
       | false=>
        rw[T,au]at C;have ZX:¬ O<2:=λdU=>by have h9:Nat.blt O 2=true:=iM dU;rw[h9]at T;cases T
        refine⟨_,C,λah ρ a w hR u v E I=>?_⟩
        obtain rfl:=I.2.gJ;obtain⟨wE,lz,jX⟩:=D.ok hR.root;have:wE=u:=by
         have h3:=E.2;simp_all
        subst this;cases jX with
        |eD=>simp at hb
        |fF=>simp at hb
        |fV=>simp at hb
        |aH _ _ _ _ _ _ _ _ _ ho=>omega
        | own _ _ _ _ _ b cap cs us pX hh hs yE r8 hc U=>
         refine⟨_,SY w t e _ b 0 _ cap Z iv Y hn hb.1 hb.2,_,rfl,?_⟩;rw[AY 0 _ _ lz pX];simp
      ·cases C
     ·cases C
    ·cases C
   ·cases h
  ·cases h
def alN{t ty:TypeId}{x:A}{k:A->aj X}(h:A8 P σ t x k=some r):∃ y,k y=some r/\∀ ah ρ a w,Rl w0 N ah ρ σ a w->∀ u,RA w w0.heap.size ah ρ x u->
  ∃v,(Builtin.len_ #[t] ty #[u]).run P w = .ok v w/\RA w w0.heap.size ah ρ y v:=by
 unfold A8 at h;split at h
 ·rename_i y;have key:∃ z,(∀ ah ρ a w,Rl w0 N ah ρ σ a w->∀ u,dP w w0.heap.size ah ρ y u->∃ q,RV w w0.heap.size ah q z u)/\(match z with
    |.sl _ _ _ l=>(match P.underlying t with|some (.slice _)=>k (.lf (.v (.int .i64 (l.length:Int))))|_=>none)
    |.nil=>(match P.underlying t with|some (.slice _)=>k (.lf (.v (.int .i64 0)))|_=>none)
    |.str s=>(match P.underlying t with|some .string=>k (.lf (.v (.int .i64 (s.size:Int))))|_=>none)
    |_=>none)=some r:=by
   cases y with
   |v z=>exact⟨z,λah ρ a w _ u D=>⟨[],D.2⟩,h⟩
   |dead=>cases h
   | own q=>
    obtain⟨z,L,h⟩:=sg q _ h
    refine⟨z,λah ρ a w hR u D=>?_,h⟩
    obtain⟨v,T,I⟩:=L.ok hR.root;have O:=D.2;rw[T]at O;injection O with O;subst O;exact⟨q,I⟩
  obtain⟨z,L,C⟩:=key;clear h;split at C
  ·rename_i U g Y l;split at C
   ·rename_i e E
    refine⟨_,C,λah ρ a w hR u D=>?_⟩
    obtain⟨q,I⟩:=L ah ρ a w hR u D;cases I with
    |eD=>exact⟨_,by simp[Builtin.len_,gL E,goInt],rfl,.int _ _ _⟩
    |fF=>exact⟨_,by simp[Builtin.len_,gL E,goInt],rfl,.int _ _ _⟩
    |fV=>exact⟨_,by simp[Builtin.len_,gL E,goInt],rfl,.int _ _ _⟩
    |aH=>exact⟨_,by simp[Builtin.len_,gL E,goInt],rfl,.int _ _ _⟩
    |own=>exact⟨_,by simp[Builtin.len_,gL E,goInt],rfl,.int _ _ _⟩
   ·cases C
  ·split at C
   ·rename_i e E
    refine⟨_,C,λah ρ a w hR u D=>?_⟩
    obtain⟨q,I⟩:=L ah ρ a w hR u D;cases I;exact⟨_,by simp[Builtin.len_,gL E,goInt],rfl,.int _ _ _⟩
   ·cases C
  ·split at C
   ·rename_i E
    refine⟨_,C,λah ρ a w hR u D=>?_⟩
    obtain⟨q,I⟩:=L ah ρ a w hR u D;obtain rfl:=I.wG;exact⟨_,by simp[Builtin.len_,gL E,goInt],rfl,.int _ _ _⟩
   ·cases C
  ·cases C
 ·split at h
  ·rename_i e E
   refine⟨_,h,λah ρ a w hR u D=>?_⟩
   obtain⟨A,n,c,T,Z,C,rfl⟩:=D;exact⟨_,by cases A<;>simp[sliced,Builtin.len_,gL E,goInt],rfl,.int _ _ _⟩
  ·cases h
 ·cases h
def SZ{p:Bool×aa Lf}{y:A}(h:yI p=some y){u:Value}(C:RP w B ah ρ p u):RA w B ah ρ y u:=by
 unfold yI at h;split at h
 ·injection h with h;subst h;exact C
 ·rename_i z;injection h with h;subst h;obtain⟨D,E,I⟩:=C.2 0 z rfl;have:u=D:=by simpa using E
  subst this;exact I
 ·cases h
def alO{x:A}{i:Nat}{k:A -> aj X}(h:A9 x i k=some r):∃ y,k y=some r /\ ∀ (w:World) (B:Nat) (ah:bE) (ρ:Nat -> Loc) (u:Value),RA w B ah ρ x u ->
  ∃v,(Instr.extract u i).run P w = .ok v w/\RA w B ah ρ y v:=by
 unfold A9 at h;split at h
 ·rename_i xs;split at h
  ·rename_i y C
   refine⟨y,h,λw B ah ρ u E=>?_⟩
   obtain⟨us,rfl,T,I⟩:=E;cases D:xs[i]? with
   |none=>simp_all
   | some p=>
    rw[D]at C;obtain⟨v,L,O⟩:=I i p D;exact⟨v,by simp[Instr.extract,L],SZ C O⟩
  ·cases h
 ·cases h
def ZY{k:aa Nat}(h:cS d k=true):[d] <:+ k:=by
 have h:k.getLast?=some d:=by simpa [cS]using h
 obtain⟨y,C⟩:=List.getLast?_eq_some_iff.1 h;simp_all
def Mh{j i s:Nat}{q:aa Nat}(C:q≠[]):cS d (j :: i :: s :: q)=cS d q:=by
 cases q with
 |nil=>simp_all
 |cons x q=>simp[cS]
structure Dt (w w':World) (ah aD:bE) (d:Nat):Prop where
 size:w.heap.size<=w'.heap.size
 block:∀b,b<w.heap.size->ah b≠some [d]->w'.heap[b]?=w.heap[b]?
 S0:∀b,b<w.heap.size->aD b=ah b
 ne:∀b,ah b≠some []
def Dt.tr(C:Dt w w' ah aD d)(D:∀ b k,ah b=some k->b<w.heap.size)(E:∀ r,r≠d->ρ' r=ρ r):Tr w w' ah aD ρ ρ' (cS d) (λr=>Nat.beq r d):=by
 refine⟨C.size,λb hb hl=>⟨C.block b hb (by rw[hl];simp),(C.S0 b hb).trans hl⟩,λb k hl I=>⟨C.block b (D b k hl) ?_,(C.S0 b (D b k hl)).trans hl⟩,λr L=>E r (by rintro rfl;simp at L),λj i s x q=>Mh (by simp),λb hb=>absurd hb (C.ne b)⟩
 rw[hl];intro e;injection e with e;subst e;simp[cS]at I
def RA.S1{x:A}{u:Value}(h:RA w B ah ρ x u)(C:Dt w w' ah aD d)(D:∀b k,ah b=some k->b<w.heap.size)(E:∀r,r≠d->ρ' r=ρ r):RA w' B aD ρ' (x.drop d) u:=h.tr (C.tr D E) (uO (λ_ h=>h) λ_=>oQ)
def dZ.S1{r:Nat}(C:r≠d){x:aW}(h:dZ w B ah ρ r x)(D:Dt w w' ah aD d)(E:∀b k,ah b=some k->b<w.heap.size)(I:∀r,r≠d->ρ' r=ρ r):dZ w' B aD ρ' r (x.drop d):=h.tr (D.tr E I) (uO (λ_ h=>h) λ_=>oQ) (by simpa [cS]using C) (oQ C)
def Rl.yK{x:aW}(h:Rl w0 N ah ρ σ a w)(T:w0.F d=none)(hb:je w0 w w')(E:Dt w w' ah aD d)(U:∀ b k,w.heap.size <= b -> aD b=some k -> b<w'.heap.size/\k≠[])(I:∀ r,r≠d -> ρ' r=ρ r)(hx:dZ w' w0.heap.size aD ρ' d x):
  Rl w0 N aD ρ' ((σ.drop d).root d x) a w':=by
 have O:=λb k hb=>(h.cX b k hb).2.1
 refine⟨h.below.trans hb,λb k L=>?_,λr y C=>?_,λk=>(h.tmp k).S1 E O I,h.size,h.defers,λr Y D=>(I r (by rintro rfl;rw[T]at D;cases D)).trans (h.fix r Y D),h.dj⟩
 ·rcases Nat.lt_or_ge b w.heap.size with Z | oR
  ·rw[E.S0 b Z]at L;have:=h.cX b k L;exact⟨this.1,Nat.lt_of_lt_of_le this.2.1 E.size,this.2.2⟩
  ·have:=U b k oR L;exact⟨.inl (Nat.le_trans h.below.size oR),this.1,this.2⟩
 ·by_cases D:r=d
  ·subst D;have C:(bV (σ.drop r).m r _) r=some y:=C;rw[cc]at C;simp_all
  ·have C:(bV (σ.drop d).m d (some x)) r=some y:=C;rw[cH _ _ _ D]at C;have hb:Nat.beq r d=false:=by
    cases hb:Nat.beq r d with
    |false=>rfl
    |true=>simp_all
   simp only[S.drop,hb,au]at C;cases hm:σ.m r with
   |none=>simp_all
   | some z=>
    rw[hm]at C;injection C with C;subst C;exact(h.root r z hm).S1 D E O I
end
def gN(q:Nat)(nk k:aa Nat):aa Nat:=bif cS q k then k.dropLast++nk else k
def bE.gN(ah:bE)(q:Nat)(nk:aa Nat):bE:=λb=>(ah b).map (Proofs.YtgjfmljpdnnihaaGreat.gN q nk)
section
variable {P:Program} {w w':World} {w0:Wd} {B N:Nat} {ah aD:bE} {ρ ρ':Nat->Loc} {σ:S} {a:Act} {X:Type} {d q:Nat} {nk:aa Nat}
def ZZ:gN q nk [q]=nk:=by simp[gN,cS]
def alP{k:aa Nat}(h:cS q k=false):gN q nk k=k:=by simp[gN,h]
def alQ{j i s:Nat}{k:aa Nat}(C:k≠[]):gN q nk (j :: i :: s :: k)=j :: i :: s :: gN q nk k:=by
 unfold gN;rw[Mh C];cases cS q k with
 |false=>rfl
 | true=>
  cases k with
  |nil=>simp_all
  |cons x k=>simp
def Z0{k:aa Nat}(C:nk≠[])(D:k≠[]):gN q nk k≠[]:=by
 unfold gN;cases cS q k with
 |false=>simp_all
 |true=>simp[C]
def bE.S2{b:Nat}(h:ah b=none):ah.gN q nk b=none:=by simp[bE.gN,h]
def bE.Z1{b:Nat}{k:aa Nat}(h:ah b=some k):ah.gN q nk b=some (Proofs.YtgjfmljpdnnihaaGreat.gN q nk k):=by simp[bE.gN,h]
def bE.Z2{b:Nat}{k:aa Nat}(h:ah b=some k)(C:cS q k=false):ah.gN q nk b=some k:=by rw[bE.Z1 h,alP C]
def RV.gN{k:aa Nat}{x:V}{v:Value}(h:RV w B ah k x v)(D:∀ b,ah b≠some []):RV w B (ah.gN q nk) (Proofs.YtgjfmljpdnnihaaGreat.gN q nk k) x v:=
 h.map (Q:=λk C=>C=Proofs.YtgjfmljpdnnihaaGreat.gN q nk k) (dx _) (λb _ h=>⟨rfl,bE.S2 h⟩) (λb k C _ hl e=>by
  subst e;exact⟨rfl,bE.Z1 hl,λj i s=>(alQ λe=>D b (e ▸ hl)).symm⟩) (.inr rfl)
structure Rel (q:Nat) (ah aD:bE):Prop where
 ne:∀b,ah b≠some []
 none:∀b,ah b=none->aD b=Option.none
 ld:∀b k,ah b=some k->cS q k=false->aD b=some k
def Gm(C:∀b,ah b≠some []):Rel q ah (ah.gN q nk):=⟨C,λ_ h=>bE.S2 h,λ_ _ h D=>bE.Z2 h D⟩
def Rel.tr(C:Rel q ah aD):Tr w w ah aD ρ ρ (cS q) (λ_=>false):=
 ⟨dx _,λb _ hl=>⟨rfl,C.none b hl⟩,λb k hl D=>⟨rfl,C.ld b k hl D⟩,λ_ _=>rfl,λj i s x q=>Mh (by simp),λb hb=>absurd hb (C.ne b)⟩
def RV.rel(C:Rel q ah aD){k:aa Nat}{x:V}{v:Value}(h:RV w B ah k x v)(D:cS q k=false\/x.aH=true):RV w B aD k x v:=h.tr (ρ:=λ_=>.dJ undef) C.tr D.symm
def alR(C:Rel q ah aD)(k:aa Nat)(u:Value)(D:cS q k=false)(h:cW w ah ρ k=some u):cW w aD ρ k=some u:=SO C.tr k u (.inr D) (SP k) h
def eJ.rel(C:Rel q ah aD){cs:aa Lf}{us:Array Value}(h:eJ w B ah ρ cs us):eJ w B aD ρ (cs.map (Lf.drop q)) us:=h.tr C.tr (uO (λ_ h=>h) λ_ _=>rfl)
def RA.rel(C:Rel q ah aD){x:A}{u:Value}(h:RA w B ah ρ x u):RA w B aD ρ (x.drop q) u:=h.tr C.tr (uO (λ_ h=>h) λ_ _=>rfl)
def dZ.rel(C:Rel q ah aD){r:Nat}(D:r≠q){x:aW}(h:dZ w B ah ρ r x):dZ w B aD ρ r (x.drop q):=h.tr C.tr (uO (λ_ h=>h) λ_ _=>rfl) (by simpa [cS]using D) rfl
def Rl.wJ(h:Rl w0 N ah ρ σ a w):∀b,ah b≠some []:=λb hb=>(h.cX b [] hb).2.2 rfl
def Rl.rel(h:Rl w0 N ah ρ σ a w)(E:Rel q ah aD)(L:∀ b k,aD b=some k -> (∃ D,ah b=some D)/\k≠[]):Rl w0 N aD ρ (σ.drop q) a w:=by
 refine⟨h.below,λb k O=>?_,λr x C=>?_,λk=>(h.tmp k).rel E,h.size,h.defers,h.fix,h.dj⟩
 ·obtain⟨⟨D,hl⟩,U⟩:=L b k O;have:=h.cX b D hl;simp_all
 ·have C:(bif Nat.beq r q then none else (σ.m r).map _)=some x:=C;cases hb:Nat.beq r q with
  |true=>simp_all
  | false=>
   rw[hb]at C;have T:r≠q:=by rintro rfl;simp at hb
   cases I:σ.m r with
   |none=>simp_all
   | some y=>
    rw[I]at C;injection C with C;subst C;exact(h.root r y I).rel E T
def Rl.alS{z:V}(h:Rl w0 N ah ρ σ a w)(L:σ.m q=some (.sl z))(O:nk≠[]):∃ u,ρ q = .dJ u/\Rl w0 N (ah.gN q nk) ρ (σ.drop q) a w/\RV w w0.heap.size (ah.gN q nk) nk z u:=by
 have E:=h.wJ;have I:=h.root q _ L;generalize C:aW.sl z=x at I;cases I with
 |aC=>cases C
 |mp=>cases C
 |gh=>cases C
 | sl u y T U=>
  injection C with C;subst C
  refine⟨u,T,h.rel (Gm E) λb k D=>?_,?_⟩
  ·unfold bE.gN at D;cases hl:ah b with
   |none=>simp_all
   | some Y=>
    rw[hl]at D;injection D with D;subst D;exact⟨⟨Y,rfl⟩,Z0 O (λe=>E b (by rw[hl,e]))⟩
  ·have:=U.gN (q:=q) (nk:=nk) E
   rwa [ZZ]at this
def gZ(r:Nat)(key:Nat->aa Nat):Nat->Nat->aa Lf->S->aj (aa V×S)
 |_,_,[],σ=>some ([],σ)
 |f+1,j,.v x::xs,σ=>(gZ r key f (j+1) xs σ).map λp=>(x::p.1,p.2)
 | f+1,j,.own [q] :: xs,σ=>match σ.m q with
  |some (.sl z)=>bif Nat.beq q r then none else (gZ r key f (j+1) (xs.map (Lf.drop q)) (σ.drop q)).map λp=>(z::p.1,p.2)
  |_=>none
 |_,_,_,_=>none
def Mi{r:Nat}{key:Nat->aa Nat}(U:∀ j,cS r (key j)=true):∀ (f j:Nat) (xs:aa Lf) (σ E:S) (I:aa V),gZ r key f j xs σ=some (I,E)->∀ ah ρ a w,Rl w0 N ah ρ σ a w->∀ us:aa Value,eJ w w0.heap.size ah ρ xs us.toArray->
  ∃ aD,Rl w0 N aD ρ E a w/\I.length=xs.length/\(∀ (n:Nat) x,I[n]?=some x->∃ u,us[n]?=some u/\RV w w0.heap.size aD (key (j+n)) x u)/\(∀ k x v,cS r k=true->RV w w0.heap.size ah k x v->RV w w0.heap.size aD k x v)/\
   (∀x,σ.m r=some (.sl x)->E.m r=some (.sl x))/\(∀k u,cS r k=true->cW w ah ρ k=some u->cW w aD ρ k=some u)/\(∀b,ah b=some [r]->aD b=some [r])/\(∀b,ah b=none->aD b=none)
 | 0,j,[],σ,E,I,h,ah,ρ,a,w,hR,us,L=>by
  simp only[gZ,iD,Prod.mk.injEq]at h;obtain⟨rfl,rfl⟩:=h;exact⟨ah,hR,rfl,by simp,λ_ _ _ _ h=>h,λ_ h=>h,λ_ _ _ h=>h,λ_ h=>h,λ_ h=>h⟩
 | f+1,j,[],σ,E,I,h,ah,ρ,a,w,hR,us,L=>by
  simp only[gZ,iD,Prod.mk.injEq]at h;obtain⟨rfl,rfl⟩:=h;exact⟨ah,hR,rfl,by simp,λ_ _ _ _ h=>h,λ_ h=>h,λ_ _ _ h=>h,λ_ h=>h,λ_ h=>h⟩
 |0,j,x::xs,σ,E,I,h,ah,ρ,a,w,hR,us,L=>by simp[gZ]at h
 | f+1,j,x :: xs,σ,E,I,h,ah,ρ,a,w,hR,us,L=>by
  obtain⟨T,us,rfl⟩:∃ T Mj,us=T :: Mj:=by
   cases us with
   |nil=>have:=L.1;simp at this
   |cons T us=>exact⟨_,_,rfl⟩
  have Y:dP w w0.heap.size ah ρ x T:=by
   obtain⟨u,e,h⟩:=L.2 0 x rfl;simp at e;subst e;exact h
  have mE:eJ w w0.heap.size ah ρ xs us.toArray:=⟨by have:=L.1;simpa using this,λn y C=>by
   obtain⟨u,e,h⟩:=L.2 (n+1) y C;exact⟨u,by simpa using e,h⟩⟩
  cases x with
  | v x=>
   simp only[gZ,Option.map_eq_some_iff]at h;obtain⟨⟨S3,sq⟩,h,e⟩:=h;simp only[Prod.mk.injEq]at e;obtain⟨rfl,rfl⟩:=e;obtain⟨aD,Z,h2,h3,D,h5⟩:=Mi U f (j+1) xs σ sq S3 h ah ρ a w hR us mE
   refine⟨aD,Z,by simp[h2],λn y C=>?_,D,h5⟩
   cases n with
   | zero=>
    simp at C;subst C;refine⟨T,rfl,D _ _ _ (U _) (Y.2.key Y.1)⟩
   | succ n=>
    obtain⟨u,e,h⟩:=h3 n y (by simpa using C);exact⟨u,by simpa using e,by rw[show j+(n+1)=j+1+n by omega];exact h⟩
  |dead=>simp[gZ]at h
  | own k=>
   match k,Y,h with
   |[],_,h=>simp[gZ]at h
   |_::_::_,_,h=>simp[gZ]at h
   | [q],Y,h=>
    simp only[gZ]at h;split at h
    ·rename_i z hz;cases S4:Nat.beq q r with
     |true=>rw[S4]at h;cases h
     | false=>
      rw[S4,au,Option.map_eq_some_iff]at h;obtain⟨⟨S3,sq⟩,alT,e⟩:=h;simp only[Prod.mk.injEq]at e;obtain⟨rfl,rfl⟩:=e;have cL:q≠r:=by rintro rfl;simp at S4
      have Z3:key j≠[]:=by intro e;have:=U j;rw[e]at this;simp[cS]at this
      obtain⟨u,cN,dV,jX⟩:=hR.alS hz Z3;have Gn:u=T:=by
       have D:=Y.2;simp only[cW,cN]at D;injection D
      subst Gn;have oc:∀ k,cS r k=true->cS q k=false:=by
       intro k O;cases hq:cS q k with
       |false=>rfl
       | true=>
        exfalso;have Z:=ZY O;have h2:=ZY hq;exact cL (ZP Z h2)
      obtain⟨aD,Z,h2,h3,D,h5,h6,h7,h8⟩:=Mi U f (j+1) (xs.map (Lf.drop q)) (σ.drop q) sq S3 alT _ ρ a w dV us (mE.rel (Gm hR.wJ))
      refine⟨aD,Z,by simp[h2],λn y C=>?_,λk x v O hv=>D _ _ _ O (hv.rel (Gm hR.wJ) (.inl (oc k O))),λx hx=>h5 x ?_,λk v O hv=>h6 k v O (alR (Gm hR.wJ) k v (oc k O) hv),λb hb=>h7 b (bE.Z2 hb (by simpa [cS]using λe=>cL e.symm)),λb hb=>h8 b (bE.S2 hb)⟩
      ·cases n with
       | zero=>
        simp at C;subst C;exact⟨u,rfl,D _ _ _ (U _) jX⟩
       | succ n=>
        obtain⟨u,e,h⟩:=h3 n y (by simpa using C);exact⟨u,by simpa using e,by rw[show j+(n+1)=j+1+n by omega];exact h⟩
      ·have hb:Nat.beq r q=false:=by
        cases hb:Nat.beq r q with
        |false=>rfl
        |true=>exact absurd (cC hb).symm cL
       show (bif Nat.beq r q then none else (σ.m r).map (aW.drop q))=_;rw[hb,hx];rfl
    ·cases h
end
def od:Value->Lf
 |.int k n=>.v (.int k n)
 |.bool b=>.v (.bool b)
 |.string s=>.v (.str s)
 |.slice none 0 0=>.v .nil
 |_=>.dead
def zeroV:Value->aj V
 |.int k n=>some (.int k n)
 |.bool b=>some (.bool b)
 |.string s=>some (.str s)
 |.slice none 0 0=>some .nil
 |_=>none
def Gq:aa Value->aj (aa V)
 |[]=>some []
 | v :: C=>match zeroV v,Gq C with
  |some x,some xs=>some (x::xs)
  |_,_=>none
def zeroOf(P:Program)(e:TypeId):aj Value:=(P.info? e).bind (·.zero)
def bytesOf(P:Program)(e:TypeId):aj Nat:=(P.info? e).map (·.bytes)
def hD{X:Type}(N:Nat)(σ:S)(d:Nat)(x:aW)(y:A)(k:S->aj X):aj X:=
 bif Nat.blt d N then k (((σ.drop d).root d x).set d y)else none
def qU{X:Type}(P:Program)(N:Nat)(σ:S)(d:Nat)(e:TypeId)(k:S->aj X):aj X:=
 match zeroOf P e with
 |some z=>hD N σ d (.aC (z.cells.toList.map od)) (.aG d 0) k
 |none=>none
def uU(P:Program)(t:TypeId):aj (TypeId×TC):=
 match pW P t with
 |none=>none
 | some e=>match ZI e,jo P e,bytesOf P e with
  |some C,some n,some b=>bif Nat.beq n (aF C)&&Nat.ble b 65536 then some (e,C)else none
  |_,_,_=>none
def Mk(P:Program)(e:TypeId)(C:TC):aj (T C):=
 match zeroOf P e with
 |none=>none
 | some z=>match Gq z.cells.toList with
  |none=>none
  |some D=>dec C (full C) D
def yL{X:Type}(P:Program)(N:Nat)(σ:S)(d:Nat)(t:TypeId)(l c:A)(k:S->aj X):aj X:=
 match uU P t,l,c with
 | some (e,C),.lf (.v (.int _ n)),.lf (.v (.int _ c))=>match Mk P e C with
  |none=>none
  |some z=>if 0<=n/\n<=c/\c<1073741824 then hD N σ d (.sl (.sl C (full C+2) false (List.replicate n.toNat z))) (.lf (.own [d])) k else none
 |_,_,_=>none
def V.Ml(t:TC):V->aj (aa (T t))
 |.sl C _ _ l=>if h:C=t then some (h ▸ l)else none
 |.nil=>some []
 |_=>none
def tu{X:Type}(P:Program)(N:Nat)(σ:S)(d:Nat)(t:TypeId)(x y:A)(k:S->aj X):aj X:=
 match uU P t with
 | some (e,C)=>bif Nat.beq (full C) 0&&(zeroOf P e).any (λz=>Nat.beq z.cells.size (aF C))then sj σ y λD=>(match D.Ml C with
  |none=>none
  | some l2=>match x with
   |.lf (.v .nil)=>bif bD l2.length then hD N σ d (.sl (.sl C 2 false l2)) (.lf (.own [d])) k else none
   | .lf (.own [r])=>(match σ.m r with
    |some (.sl (.sl E (o+2) q l))=>if h:E=C then (bif Nat.blt d N&&(Nat.blt r N ||Nat.ble 60000 r)&&bD (l.length+l2.length)then k (((σ.drop r).root r (.sl (.sl C (o+2) false ((h ▸ l)++l2)))).set d (.lf (.own [r])))else none)else none
    |_=>none)
   |_=>none)else none
 |none=>none
section
variable {P:Program} {w w':World} {w0:Wd} {B N:Nat} {ah aD:bE} {ρ ρ':Nat->Loc} {σ:S} {a:Act} {X:Type} {d:Nat} {r:X} {q:Nat} {o:Oper}
def Mm(v:Value):dP w B ah ρ (od v) v:=by
 unfold od;split
 ·exact⟨rfl,.int _ _ _⟩
 ·exact⟨rfl,.bool _ _⟩
 ·exact⟨rfl,.str _ _⟩
 ·exact⟨rfl,.nil _⟩
 ·trivial
def Z4{v:Value}{x:V}(h:zeroV v=some x)(q:aa Nat):RV w B ah q x v:=by
 unfold zeroV at h;split at h<;>first|(injection h with h;subst h;first|exact .int _ _ _|exact .bool _ _|exact .str _ _|exact .nil _)|cases h
def S5:∀ (C:aa Value) (xs:aa V),Gq C=some xs -> xs.length=C.length /\ ∀ (j:Nat) x,xs[j]?=some x -> ∃ v,C[j]?=some v/\zeroV v=some x
 | [],xs,h=>by
  simp[Gq]at h;simp_all
 | v :: C,xs,h=>by
  unfold Gq at h;split at h
  ·rename_i y ys E D;injection h with h;subst h;obtain⟨I,L⟩:=S5 C ys D
   grind
  ·cases h
def je.Z5(w0:Wd)(w:World)(o:Obj)(h:w0.heap.size<=w.heap.size):je w0 w (w.alloc o):=.of ((Below.refl w0.heap.size w).alloc h o) (dx _)
def Rl.Du{c:Array Value}{e:TypeId}{x:aW}{ρ':Nat -> Loc}(h:Rl w0 N ah ρ σ a w)(D:w0.F d=none)(E:∀ r,r≠d -> ρ' r=ρ r)
  (I:dZ (w.alloc (.cells c e)) w0.heap.size (bV ah w.heap.size (some [d])) ρ' d x):Rl w0 N (bV ah w.heap.size (some [d])) ρ' ((σ.drop d).root d x) a (w.alloc (.cells c e)):=by
 refine h.yK D (je.Z5 w0 w _ h.below.size) ⟨by simp,λb hb _=>Below.heap_alloc w _ b hb,λb hb=>cH _ _ _ (by omega),λb hb=>(h.cX b [] hb).2.2 rfl⟩ (λb k hb C=>?_) E I
 by_cases e:b=w.heap.size
 ·subst e;rw[cc]at C;injection C with C;subst C;simp_all
 ·rw[cH _ _ _ e]at C;have:=(h.cX b k C).2.1;omega
def oV{x:aW}{y:A}{k:S -> aj X}(h:hD N σ d x y k=some r):d<N/\k (((σ.drop d).root d x).set d y)=some r:=by
 unfold hD at h;cases C:Nat.blt d N with
 |false=>simp_all
 |true=>simp_all
def alU{e:TypeId}{k:S -> aj X}(h:qU P N σ d e k=some r):∃ E,k E=some r /\ ∀ ah ρ a w,Rl w0 N ah ρ σ a w -> ∃ w' aD ρ' v,(Instr.alloc e true (.tuple #[])).run P w = .ok v w'/\Rl w0 N aD ρ' E (a.put (some d) v) w':=by
 unfold qU at h;split at h
 ·rename_i z D;obtain⟨I,h⟩:=oV h
  refine⟨_,h,λah ρ a w hR=>?_⟩
  have T:(Instr.alloc e true (.tuple #[])).run P w = .ok (.pointer (some ⟨w.heap.size,0,none⟩)) (w.alloc (.cells z.cells e)):=by
   unfold zeroOf at D;cases hi:P.info? e with
   |none=>simp_all
   | some i=>
    have D:i.zero=some z:=by simpa [hi]using D
    simp[Instr.alloc,zeroValue,typeInfo,hi,D,newVar,newRow]
  refine⟨_,bV ah w.heap.size (some [d]),bV ρ d (.aC w.heap.size 0),_,T,(hR.Du (hR.dj d (.inl I)) (λr U=>cH _ _ _ U) ?_).set ⟨w.heap.size,0,cc _ _ _,rfl⟩ I⟩
  refine .aC w.heap.size 0 z.cells e _ (λj=>z.cells.getD j undef) (cc _ _ _) (cc _ _ _) (heap_alloc_new w _) (by simp) λj x C=>?_
  rw[eH]at C;cases L:z.cells.toList[j]? with
  |none=>simp_all
  | some v=>
   rw[L]at C;injection C with C;subst C;have O:z.cells[j]?=some v:=by simpa using L
   have Y:z.cells.getD j undef=v:=by rw[iq,O];rfl
   rw[Y,eN];exact⟨O,Mm v⟩
 ·cases h
def yM{t e:TypeId}{C:TC}(h:uU P t=some (e,C)):P.underlying t=some (.slice e)/\tid C=e /\ ∃ i,P.info? e=some i/\i.size=aF C/\i.bytes <= 65536:=by
 unfold uU at h;split at h
 ·cases h
 ·rename_i I D;split at h
  ·rename_i L n b O T hb;cases E:(Nat.beq n (aF L)&&Nat.ble b 65536)with
   |false=>simp_all
   | true=>
    rw[E,aq]at h;injection h with h;injection h with U Y;subst U Y;rw[aO]at E;refine⟨?_,aly O,?_⟩
    ·unfold pW at D;split at D
     ·simp_all
     ·cases D
    ·unfold jo at T;unfold bytesOf at hb;cases hi:P.info? I with
     |none=>simp_all
     |some i =>simp_all
  ·cases h
def Z6(z:Array Value)(n i j:Nat)(C:j<z.size)(h:i*z.size+j<n):(madeCells z n)[i*z.size+j]?=some z[j]:=by
 have D:(i*z.size+j) % z.size=j:=by rw[Nat.add_comm,Nat.add_mul_mod_self_right,Nat.mod_eq_of_lt C]
 simp[madeCells,Array.getElem?_map,Array.getElem?_range,h,if_true,Option.map_some,D];simp[C]
def alV{t:TypeId}{l c:A}{k:S -> aj X}(h:yL P N σ d t l c k=some r):∃ c8,k c8=some r /\ ∀ ah ρ a w,Rl w0 N ah ρ σ a w -> ∀ u v,RA w w0.heap.size ah ρ l u -> RA w w0.heap.size ah ρ c v ->
  ∃w' aD ρ' x,(Instr.makeSlice t u v).run P w = .ok x w'/\Rl w0 N aD ρ' c8 (a.put (some d) x) w':=by
 unfold yL at h;split at h
 ·rename_i e D kl n kc c oW;split at h
  ·cases h
  ·rename_i z E;split at h
   ·rename_i hb;obtain⟨hd,h⟩:=oV h
    refine⟨_,h,λah ρ a w hR u v hu T=>?_⟩
    obtain rfl:=hu.2.gJ;obtain rfl:=T.2.gJ;obtain⟨gi,ht,i,hi,iA,jU⟩:=yM oW;unfold Mk at E;split at E
    ·cases E
    ·rename_i C Dv;split at E
     ·cases E
     ·rename_i vs lZ;have oX:i.zero=some C:=by unfold zeroOf at Dv;simpa [hi]using Dv
      obtain⟨qV,lA⟩:=S5 _ _ lZ;have U:=lU D (full D) vs z E;have O:C.cells.size=aF D:=by rw[<- kL D (full D) z,<- U.1,qV];simp
      have Sx:(i.bytes:Int)*c <= 281474976710656:=by
       have h1:(i.bytes:Int) <= 65536:=by omega
       have h2:i.bytes*c <= 65536*c:=Int.mul_le_mul_of_nonneg_right h1 (by omega);omega
      have eO:=run_make (P:=P) w t e i C gi hi oX kl kc n c hb.1 hb.2.1 Sx (by omega);rw[iA,<- O]at eO
      refine⟨_,bV ah w.heap.size (some [d]),bV ρ d (.dJ (.slice (some ⟨w.heap.size,0,none⟩) n.toNat c.toNat)),_,eO,(hR.Du (hR.dj d (.inl hd)) (λr hr=>cH _ _ _ hr) ?_).set ⟨rfl,?_⟩ hd⟩
      ·refine .sl _ _ (cc _ _ _) ?_;have hlen:(List.replicate n.toNat z).length=n.toNat:=by simp
       have:=RV.own (w:=w.alloc (.cells (madeCells C.cells (c.toNat*C.cells.size)) e)) (B:=w0.heap.size) (ah:=bV ah w.heap.size (some [d])) [d] D (full D) false (List.replicate n.toNat z) w.heap.size c.toNat (madeCells C.cells (c.toNat*C.cells.size)) (λ_ j=>C.cells.getD j undef)
        (cc _ _ _) (by rw[ht];exact heap_alloc_new w _) (by rw[size_madeCells,O]) (by rw[hlen];omega) ⟨by unfold maxLen;omega,λh=>by cases h⟩ (λY h' j x I=>?_) (λY h' j x I=>?_)
       ·rw[hlen]at this;exact this
       ·rw[List.getElem_replicate]at I;have L:j<aF D:=by have:=(dO.1 I).1;rwa [kL]at this
        rw[hlen]at h';rw[<- O]at L;rw[<- O,Z6 C.cells _ Y j L (by
         have:(Y+1)*C.cells.size <= c.toNat*C.cells.size:=iL _ (by omega);rw[iC]at this;omega)]
        simp[iq,L]
       ·rw[List.getElem_replicate]at I;have L:j<(enc D (full D) z).length:=(dO.1 I).1;rw[<- U.1]at L;have Z:=bQ L;generalize vs[j]=y at Z;obtain⟨v,T,S6⟩:=lA j y Z;have wE:C.cells[j]?=some v:=by simpa using T
        have hg:C.cells.getD j undef=v:=by rw[iq,wE];rfl
        rw[hg];exact(Z4 S6 _).wk (U.2 j y x Z I)
      ·simp[cW,cc]
   ·cases h
 ·cases h
def Dw(t:TC)(h:full t=0)(o C:Nat)(x:T t):enc t o x=enc t C x:=by
 have key:∀ o,enc t o x=enc t 0 x:=by
  intro o;rw[ZJ t o x];have:=yB t o x h
  conv=>lhs;rw[<- List.map_id (enc t o x)]
  apply List.map_congr_left;intro y D;have E:=this y D;cases y<;>first|rfl|cases E
 simp_all
def wK(u:Nat->Nat->Value)(n s:Nat):aa Value:=(List.range (n*s)).map λk=>u (k / s) (k % s)
def Z7(u:Nat -> Nat -> Value)(n s i j:Nat)(hi:i<n)(C:j<s):(wK u n s)[i*s+j]?=some (u i j):=by
 have D:i*s+j<n*s:=by
  have:(i+1)*s <= n*s:=iL _ hi
  grind
 have E:(i*s+j) / s=i:=by rw[Nat.add_comm,Nat.add_mul_div_right _ _ (by omega),Nat.div_eq_of_lt C,eN]
 have I:(i*s+j) % s=j:=by rw[Nat.add_comm,Nat.add_mul_mod_self_right,Nat.mod_eq_of_lt C]
 simp[wK,D,E,I]
def Mn(u:Nat -> Nat -> Value)(n s k:Nat)(v:Value)(D:0<s)(h:(wK u n s)[k]?=some v):∃ i j,k=i*s+j/\i<n/\j<s/\v=u i j:=by
 have C:k<n*s:=by
  have:=(dO.1 h).1
  simpa [wK]using this
 refine⟨k / s,k % s,by rw[Nat.mul_comm];exact(Nat.div_add_mod k s).symm,Nat.div_lt_of_lt_mul (by rw[Nat.mul_comm];exact C),Nat.mod_lt _ D,?_⟩;simp[wK,eH,List.getElem?_range C,Option.map_some,iD]at h;simp_all
def Bb(t:TC)(o:Nat)(x:T t)(j:Nat)(C:j<aF t):∃y,(enc t o x)[j]?=some y:=⟨_,bQ (by rw[kL];exact C)⟩
def wL(t:TC)(l:aa (T t))(C:aa Value):Prop:=
 ∀i (hi:i<l.length) (o j:Nat) x,(enc t o l[i])[j]?=some x->∃v,C[i*aF t+j]?=some v/\v.oneCell'=true/\∀(w':World) (B':Nat) (aD:bE) (D:aa Nat),RV w' B' aD D x v
def RV.reads{q:aa Nat}{t:TC}{g:Nat}{qn:Bool}{l:aa (T t)}{u:Value}(h:RV w B ah q (.sl t g qn l) u)(U:full t=0):
  ∃A c news,u = .slice A l.length c/\Reads w w.heap.size (aF t) A l.length news/\(∀v∈news,v.oneCell'=true)/\wL t l news:=by
 cases h with
 |eD=>exact⟨none,0,[],rfl,Reads.none_,by simp,λi hi=>by simp at hi⟩
 |fF=>exact⟨_,_,[],rfl,⟨by simp,λh=>by simp at h⟩,by simp,λi hi=>by simp at hi⟩
 |fV=>exact⟨_,_,[],rfl,⟨by simp,λh=>by simp at h⟩,by simp,λi hi=>by simp at hi⟩
 | aH _ _ _ _ _ b off cap us ho hl hb h1 lV Z L=>
  have O:∀ i (hi:i<l.length) j,j<aF t -> (us i j).oneCell'=true:=by
   intro i hi j C;obtain⟨y,I⟩:=Bb t g l[i] j C;exact(L i hi j y I).one
  refine⟨_,cap,wK us l.length (aF t),rfl,⟨by simp[wK],λhn=>⟨b,off,rfl,hb,λk v E=>?_⟩⟩,λv E=>?_,λi hi o j x D=>?_⟩
  ·obtain⟨i,j,rfl,hi,C,rfl⟩:=Mn us _ _ k v (oN t) E;obtain⟨y,I⟩:=Bb t g l[i] j C;exact Z i hi j y I
  ·obtain⟨k,Y⟩:=List.mem_iff_getElem?.1 E;obtain⟨i,j,rfl,hi,C,rfl⟩:=Mn us _ _ k v (oN t) Y;exact O i hi j C
  ·have C:j<aF t:=by have:=(dO.1 D).1;rwa [kL]at this
   rw[Dw t U o g]at D
   refine⟨us i j,Z7 us _ _ i j hi C,O i hi j C,λw' B' aD q'=>(L i hi j x D).tj (yB t g l[i] U x (gF D))⟩
 | own _ _ o _ _ b cap cs us hl hh hs hn hm Z L=>
  have O:∀ i (hi:i<l.length) j,j<aF t -> (us i j).oneCell'=true:=by
   intro i hi j C;obtain⟨y,I⟩:=Bb t o l[i] j C;exact(L i hi j y I).one
  refine⟨_,cap,wK us l.length (aF t),rfl,⟨by simp[wK],λhn=>⟨b,0,rfl,(iB.1 hh).1,λk v E=>?_⟩⟩,λv E=>?_,λi hi o' j x D=>?_⟩
  ·obtain⟨i,j,rfl,hi,C,rfl⟩:=Mn us _ _ k v (oN t) E;obtain⟨y,I⟩:=Bb t o l[i] j C;rw[eN,cell_of_row w b _ cs _ _ hh];simp_all
  ·obtain⟨k,Y⟩:=List.mem_iff_getElem?.1 E;obtain⟨i,j,rfl,hi,C,rfl⟩:=Mn us _ _ k v (oN t) Y;exact O i hi j C
  ·have C:j<aF t:=by have:=(dO.1 D).1;rwa [kL]at this
   rw[Dw t U o' o]at D
   refine⟨us i j,Z7 us _ _ i j hi C,O i hi j C,λw' B' aD q'=>(L i hi j x D).tj (yB t o l[i] U x (gF D))⟩
def RV.Z8{q:aa Nat}{t:TC}{o:Nat}{D:Bool}{l:aa (T t)}{u:Value}(h:RV w B ah q (.sl t (o+2) D l) u)(E:full t=0){B':Nat}(hB:∀ b,ah b=some q -> B' <= b):
  ∃xs,w.ownsRow B' (tid t) (aF t) u l.length xs/\(∀b,u.ownBlock=some b -> ah b=some q)/\(D=true -> u.ownBlock≠none)/\wL t l xs:=by
 cases h with
 |fF=>omega
 |fV=>omega
 |eD=>exact⟨[],⟨by simp,.inl ⟨rfl,rfl⟩⟩,by simp[Value.ownBlock],by simp,λi hi=>by simp at hi⟩
 |aH _ _ _ _ _ _ _ _ _ ho=>omega
 | own _ _ _ _ _ b cap cs us hl L O U Y hc I=>
  refine⟨cs.toList.take _,⟨?_,.inr ⟨b,cap,cs,rfl,hB b hl,L,U,Y.1,O,rfl⟩⟩,λZ Bc=>?_,λ_=>by simp[Value.ownBlock],λi hi o' j x C=>?_⟩
  ·simp_all
  ·have:b=Z:=by simpa [Value.ownBlock]using Bc
   simp_all
  ·have hj:j<aF t:=by have:=(dO.1 C).1;rwa [kL]at this
   have dU:i*aF t+j<l.length*aF t:=by
    have:(i+1)*aF t <= l.length*aF t:=iL _ hi;rw[iC]at this;omega
   rw[Dw t E o' o]at C
   refine⟨us i j,?_,(I i hi j x C).one,λw' B' aD q'=>(I i hi j x C).tj (yB t o l[i] E x (gF C))⟩
   grind
def wL.append{t:TC}{l l2:aa (T t)}{xs ys:aa Value}(h:wL t l xs)(E:wL t l2 ys)(hl:xs.length=l.length*aF t):wL t (l++l2) (xs++ys):=by
 intro i hi o j x C;by_cases D:i<l.length
 ·rw[List.getElem_append_left D]at C;obtain⟨v,I,r⟩:=h i D o j x C
  grind
 ·rw[List.getElem_append_right (by omega)]at C;have L:i-l.length<l2.length:=by rw[mC]at hi;omega
  obtain⟨v,I,r⟩:=E _ L o j x C;refine⟨v,?_,r⟩;have e:i*aF t+j=xs.length+((i-l.length)*aF t+j):=by
   rw[hl,Nat.sub_mul];have:l.length*aF t <= i*aF t:=iL _ (by omega);omega
  grind
def S7{q:aa Nat}{t:TC}{o:Nat}{l:aa (T t)}{u:Value}{xs:aa Value}{B':Nat}(h:w.ownsRow B' (tid t) (aF t) u l.length xs)(D:wL t l xs)(hl:∀ b,u.ownBlock=some b -> ah b=some q):
  RV w B ah q (.sl t (o+2) false l) u:=by
 rcases h.2 with ⟨rfl,E⟩|⟨b,cap,cs,rfl,hB,I,L,O,U,Z⟩
 ·have:=List.eq_nil_of_length_eq_zero E;subst this;exact .eD _ _ _
 ·have qS:∀ i _ j x,(enc t o l[i])[j]?=some x -> ∃ v,cs[i*aF t+j]?=some v /\ ∀ w' B' aD Y,RV w' B' aD Y x v:=by
   intro i hi j x C;obtain⟨v,hv,_,r⟩:=D i hi o j x C
   grind
  refine .own q t o false l b cap cs (λi j=>(cs[i*aF t+j]?).getD undef) (hl b rfl) I U L ⟨O,λh=>by cases h⟩ (λi hi j x C=>?_) (λi hi j x C=>?_)
  ·grind
  ·grind
def Rl.append{t e ty:TypeId}{C:TC}{i:TypeInfo}{z:Value}{rr o g:Nat}{q qn:Bool}{l l2:aa (T C)}{u v:Value}{q':aa Nat}{Bx:Nat}{S8:bE}(h:Rl w0 N ah ρ σ a w)(hF:w0.F rr=none)(gi:P.underlying t=some (.slice e))(ht:tid C=e)(hi:P.info? e=some i)(hz:i.zero=some z)
  (iA:i.size=aF C) (jU:i.bytes <= 65536) (ni:z.cells.size=aF C) (hf:full C=0) (hd:RV w w0.heap.size ah [rr] (.sl C (o+2) q l) u) (hs:RV w Bx S8 q' (.sl C g qn l2) v) (hlen:l.length+l2.length<1073741824):
  ∃D w' aD,(Builtin.append_ #[t,t] ty #[u,v]).run P w = .ok D w'/\Rl w0 N aD (bV ρ rr (.dJ D)) ((σ.drop rr).root rr (.sl (.sl C (o+2) false (l++l2)))) a w'/\mD D=true:=by
 subst ht;obtain⟨xs,yN,U,Gr,iG⟩:=hd.Z8 hf (B':=0) (λb _=>Nat.zero_le b);obtain⟨A,c,news,rfl,wM,oY,Gs⟩:=hs.reads hf;have gI:(l.length+l2.length)*i.bytes <= 140737488355328:=by
  have h1:(l.length+l2.length)*i.bytes <= 1073741824*65536:=Nat.mul_le_mul (by omega) jU;omega
 obtain⟨D,w',eO,L,I,lC⟩:=Sw (P:=P) w 0 t ty (tid C) i z (aF C) i.bytes gi hi hz iA rfl ni (oN C) u l.length xs yN _ A l2.length c news wM oY (by unfold maxLen;omega) gI (Nat.zero_le _);have Gt:(l++l2).length=l.length+l2.length:=mC;rw[<- Gt]at L;have Bd:=iG.append Gs yN.1;have gf:mD D=true:=by rcases L.2 with ⟨rfl,_⟩|⟨_,_,_,rfl,_⟩<;>rfl
 have Y:Below 0 w w':=(Below.refl 0 w).grown I (Nat.zero_le _) (λ_ _=>Nat.zero_le _);have sr:je w0 w w':=⟨Y.os,Y.tape,Y.output,Y.size,λk E hL=>I.block k (Nat.lt_of_lt_of_le E h.below.size) (λO=>by
  rcases(h.cX k _ (U k O.symm)).1 with h1|h1
  ·exact absurd E (Nat.not_lt.2 h1)
  ·exact h1 hL)⟩
 by_cases Z:D.ownBlock=some w.heap.size
 ·have dU:w.heap.size<w'.heap.size:=by
   rcases L.2 with ⟨rfl,_⟩|⟨b,cap,cs,rfl,_,hh,_⟩
   ·cases Z
   ·have:b=w.heap.size:=by simpa [Value.ownBlock]using Z
    grind
  refine⟨D,w',bV ah w.heap.size (some [rr]),eO,h.yK hF sr ⟨I.size,λb hb cL=>I.block b hb (λO=>cL (U b O.symm)),λb hb=>cH _ _ _ (by omega),λb hb=>(h.cX b [] hb).2.2 rfl⟩ (λb k hb E=>?_) (λr hr=>cH _ _ _ hr) (.sl D _ (cc _ _ _) (S7 L Bd (λb hb=>?_))),gf⟩
  ·by_cases e:b=w.heap.size
   ·subst e;rw[cc]at E
    grind
   ·rw[cH _ _ _ e]at E;have:=(h.cX b k E).2.1;omega
  ·rw[Z]at hb;injection hb with hb;subst hb;exact cc _ _ _
 ·have S9:D.ownBlock=u.ownBlock:=by
   rcases lC with lC|lC
   ·exact lC
   ·exact absurd lC Z
  refine⟨D,w',ah,eO,h.yK hF sr ⟨I.size,λb hb cL=>I.block b hb (λO=>cL (U b O.symm)),λ_ _=>rfl,λb hb=>(h.cX b [] hb).2.2 rfl⟩ (λb k hb E=>?_) (λr hr=>cH _ _ _ hr) (.sl D _ (cc _ _ _) (S7 L Bd (λb hb=>U b (by rw[<- S9];exact hb)))),gf⟩
  have:=(h.cX b k E).2.1;omega
def Ta{t:TC}{x:V}{l:aa (T t)}(h:x.Ml t=some l){q:aa Nat}{u:Value}(C:RV w B ah q x u):∃ g D,RV w B ah q (.sl t g D l) u:=by
 unfold V.Ml at h;split at h
 ·grind
 ·injection h with h;subst h;cases C;exact⟨0,false,.eD _ _ _⟩
 ·cases h
def Tb{x:Lf}{k:V -> aj X}(h:oT σ x k=some r):∃ y,(∀ ah ρ a w,Rl w0 N ah ρ σ a w -> ∀ u,dP w w0.heap.size ah ρ x u -> ∃ q,RV w w0.heap.size ah q y u)/\k y=some r:=by
 cases x with
 |v z=>exact⟨z,λah ρ a w _ u C=>⟨[],C.2⟩,h⟩
 |dead=>cases h
 | own q=>
  obtain⟨z,D,h⟩:=sg q _ h
  refine⟨z,λah ρ a w hR u C=>?_,h⟩
  obtain⟨v,E,I⟩:=D.ok hR.root;have L:=C.2
  grind
def Z9{y:A}{k:V -> aj X}(h:sj σ y k=some r):∃ z,(∀ ah ρ a w,Rl w0 N ah ρ σ a w -> ∀ u,RA w w0.heap.size ah ρ y u -> ∃ q B' aD,RV w B' aD q z u)/\k z=some r:=by
 unfold sj at h;split at h
 ·obtain⟨z,C,D⟩:=Tb h;exact⟨z,λah ρ a w hR u E=>let ⟨q,I⟩:=C ah ρ a w hR u E;⟨q,_,_,I⟩,D⟩
 ·obtain⟨z,D,_,C⟩:=ZS h;exact⟨z,λah ρ a w hR u E=>⟨[],0,_,C _ _ _ _ _ _ hR u E 0⟩,D⟩
 ·cases h
def alW{t ty:TypeId}{x y:A}{k:S -> aj X}(h:tu P N σ d t x y k=some r):∃ c8,k c8=some r /\ ∀ ah ρ a w,Rl w0 N ah ρ σ a w -> ∀ u v,RA w w0.heap.size ah ρ x u -> RA w w0.heap.size ah ρ y v ->
  ∃w' aD ρ' z,(Builtin.append_ #[t,t] ty #[u,v]).run P w = .ok z w'/\Rl w0 N aD ρ' c8 (a.put (some d) z) w':=by
 unfold tu at h;split at h
 ·rename_i e tc oW;obtain⟨gi,ht,i,hi,iA,jU⟩:=yM oW;cases O:(Nat.beq (full tc) 0&&(zeroOf P e).any (λz=>Nat.beq z.cells.size (aF tc)))with
  |false=>grind
  | true=>
   rw[O,aq]at h;rw[aO]at O;have hf:=cC O.1;obtain⟨z,hz,T⟩:=(Option.any_eq_true _ _).1 O.2;have T:=cC T;have oX:i.zero=some z:=by unfold zeroOf at hz;simpa [hi]using hz
   obtain⟨yv,Mo,C⟩:=Z9 (w0:=w0) (N:=N) h;clear h;split at C
   ·cases C
   ·rename_i l2 lA;split at C
    ·cases D:bD l2.length with
     |false=>grind
     | true=>
      rw[D,aq]at C;have D:l2.length<1073741824:=by simpa [bD]using D
      obtain⟨U,h3⟩:=oV C
      refine⟨_,h3,λah ρ a w hR u v L Y=>?_⟩
      have L:u = .slice none 0 0:=by cases L.2;rfl
      subst L;obtain⟨q',_,_,E⟩:=Mo ah ρ a w hR v Y;obtain⟨g,qn,E⟩:=Ta lA E;obtain⟨Z,w',aD,eO,dV,gf⟩:=hR.append (ty:=ty) (rr:=d) (o:=0) (q:=false) (l:=[]) (hR.dj d (.inl U)) gi ht hi oX iA jU T hf (.eD _ _ _) E (by simpa using D);exact⟨w',aD,_,Z,eO,dV.set ⟨gf,by simp[cW,cc]⟩ U⟩
    ·rename_i rr;split at C
     ·rename_i t' o q l hm;split at C
      ·rename_i nE;subst nE;cases D:(Nat.blt d N&&(Nat.blt rr N || Nat.ble 60000 rr)&&bD (l.length+l2.length))with
       |false=>grind
       | true=>
        rw[D,aq]at C;rw[aO,aO,eA]at D;have Gu:l.length+l2.length<1073741824:=by simpa [bD]using D.2
        have U:d<N:=by have:=cK D.1.1;omega
        have qW:rr<N \/ 60000 <= rr:=D.1.2.imp (λh=>by have:=cK h;omega) (λh=>cK h)
        refine⟨_,C,λah ρ a w hR u v L Y=>?_⟩
        obtain⟨q',_,_,E⟩:=Mo ah ρ a w hR v Y;obtain⟨g,qn,E⟩:=Ta lA E;have fB:=hR.root rr _ hm;generalize I:aW.sl (.sl t' (o+2) q l)=x at fB;cases fB with
        |aC=>cases I
        |mp=>cases I
        |gh=>cases I
        | sl uu y cN hr=>
         injection I with I;subst I;have Gn:uu=u:=by
          have h4:=L.2;simp only[cW,cN]at h4;simp_all
         subst Gn;obtain⟨Z,w',aD,eO,dV,gf⟩:=hR.append (ty:=ty) (hR.dj rr qW) gi ht hi oX iA jU T hf hr E Gu;exact⟨w',aD,_,Z,eO,dV.set ⟨gf,by simp[cW,cc]⟩ U⟩
      ·cases C
     ·cases C
    ·cases C
 ·cases h
def Rl.aaa{t:TC}{g p:Nat}{Z:Bool}{l ys:aa (T t)}{news:aa Value}(h:Rl w0 N ah ρ σ a w)(hm:σ.m q=some (.sl (.sl t (g+2) Z l)))(hf:full t=0)(hp:p+ys.length <= l.length)(oc:0<l.length)(iG:wL t ys news)(qX:news.length=ys.length*aF t):
  ∃ b cap,ρ q = .dJ (.slice (some ⟨b,0,none⟩) l.length cap)/\l.length <= cap/\(∀ n,n<news.length -> (w.cell? ⟨b,p*aF t+n,none⟩).isSome=true/\w.frozen? ⟨b,p*aF t+n,none⟩=false) /\
   Rl w0 N ah ρ ⟨σ.t,bV σ.m q (some (.sl (.sl t (g+2) Z (splice l p ys))))⟩ a (w.setCells b (p*aF t) news):=by
 have fB:=h.root q _ hm;generalize O:aW.sl (.sl t (g+2) Z l)=x at fB;cases fB with
 |aC=>cases O
 |mp=>cases O
 |gh=>cases O
 | sl v y cN iH=>
  injection O with O;subst O;cases iH with
  |eD=>exact absurd oc (Nat.lt_irrefl 0)
  |fF=>exact absurd oc (Nat.lt_irrefl 0)
  |fV=>exact absurd oc (Nat.lt_irrefl 0)
  |aH _ _ _ _ _ _ _ _ _ ho=>omega
  | own _ _ _ _ _ b cap cs u pX hh hs hn r8 hc hr=>
   have A3:(p+ys.length)*aF t <= cap*aF t:=iL _ (by omega);rw[Nat.add_mul]at A3;have lW:p*aF t+news.length <= cs.size:=by rw[qX,hs];exact A3
   have hW:=Ma w b (p*aF t) news;obtain⟨I,gI,nD⟩:=F5 b (tid t) news (p*aF t) w cs hh lW;have tq:∀ n,I[n]?=if n<p*aF t then cs[n]? else if n<p*aF t+news.length then news[n-p*aF t]? else cs[n]?:=by
    intro n;have e2:I[n]?=(splice cs.toList (p*aF t) news)[n]?:=by
     rw[show I[n]?=I.toList[n]? by simp,nD];rfl
    rw[e2,wD _ _ _ (by simpa using lW)];simp
   have Gf:I.size=cs.size:=by
    rw[<- lR,nD];have:=th cs.toList (p*aF t) news (by simpa using lW);simp only[splice]at this;simp_all
   have tv:=oN t;have hC:qR w (w.setCells b (p*aF t) news) ah ρ:=by
    intro k ad v ha E gf;by_cases cL:ad.block=b
    ·obtain⟨D,C,s',q',rfl,A0,alF,uQ,_⟩:=AZ k ad ha;have r9:ad=⟨b,ad.off,none⟩:=by cases ad;simp_all
     rw[r9,cell_of_row w b _ cs _ _ hh]at E;rw[r9,cell_of_row _ b _ I _ _ gI,tq];by_cases U:ad.off<p*aF t
     ·rw[bH U];exact E
     ·by_cases h2:ad.off<p*aF t+news.length
      ·exfalso;have hk:ad.off=(ad.off / aF t)*aF t+ad.off % aF t:=by rw[Nat.mul_comm];exact(Nat.div_add_mod _ _).symm
       have dU:ad.off<l.length*aF t:=by
        have:(p+ys.length)*aF t <= l.length*aF t:=iL _ hp;rw[Nat.add_mul]at this;omega
       have hi:ad.off / aF t<l.length:=Nat.div_lt_of_lt_mul (by rw[Nat.mul_comm];exact dU);obtain⟨y,hy⟩:=Bb t g l[ad.off / aF t] (ad.off % aF t) (Nat.mod_lt _ tv);have h3:=hc _ hi _ y hy;rw[<- hk,E]at h3;injection h3 with h3;have:=(hr _ hi _ y hy).ZQ (yB t g _ hf y (gF hy));rw[<- h3,gf]at this;cases this
      ·rw[bJ U,bJ h2];exact E
    ·exact(World.cell?_of_block (hW.block _ cL)).trans E
   have A1:cW w ah ρ [q]=some (.slice (some ⟨b,0,none⟩) l.length cap):=by simp only[cW,cN]
   refine⟨b,cap,cN,hn,λn yE=>⟨?_,frozen_of_row w b _ cs _ hh⟩,h.wrote hW pX hC ((yD.root q _ _ hm).ok h.root hW pX (List.suffix_refl _) hC A1 ?_)⟩
   ·rw[cell_of_row w b _ cs _ _ hh];simp;omega
   ·have hlen:(splice l p ys).length=l.length:=th l p ys hp;have key:∀ C (h:C<(splice l p ys).length) (D:Nat) x,(enc t g (splice l p ys)[C])[D]?=some x -> ∃ v,I[C*aF t+D]?=some v/\RV (w.setCells b (p*aF t) news) w0.heap.size ah (D :: C :: aF t :: [q]) x v:=by
     intro C h' D x Y;have r7:D<aF t:=by have:=(dO.1 Y).1;rwa [kL]at this
     have L:=bQ h';generalize (splice l p ys)[C]=e at L Y;rw[wD l p ys hp]at L;have uR:=yB t g e hf x (gF Y);have old:l[C]?=some e -> ∃ v,cs[C*aF t+D]?=some v/\RV (w.setCells b (p*aF t) news) w0.heap.size ah (D :: C :: aF t :: [q]) x v:=λhle=>by
      obtain⟨hi,rfl⟩:=dO.1 hle;exact⟨_,hc C hi D x Y,(hr C hi D x Y).tj uR⟩
     by_cases U:C<p
     ·rw[bH U]at L;have dU:(C+1)*aF t <= p*aF t:=iL _ U;rw[iC]at dU;rw[tq,bH];exact old L
     ·rw[bJ U]at L;by_cases h2:C<p+ys.length
      ·rw[bH h2]at L;obtain⟨hi,rfl⟩:=dO.1 L;obtain⟨v,E,_,jX⟩:=iG (C-p) hi g D x Y;have aCD:(C-p)*aF t=C*aF t-p*aF t:=Nat.sub_mul _ _ _;have hle:p*aF t <= C*aF t:=iL _ (by omega);have dU:=(dO.1 E).1;refine⟨v,?_,jX _ _ _ _⟩;rw[tq,bJ,bH,<- E];congr 1;omega
      ·rw[bJ h2]at L;have oR:(p+ys.length)*aF t <= C*aF t:=iL _ (by omega);rw[Nat.add_mul]at oR;rw[tq,bJ,bJ (by rw[qX];omega)];exact old L
    rw[<- hlen]
    refine .own [q] t g Z (splice l p ys) b cap I (λC D=>(I[C*aF t+D]?).getD undef) pX gI (Gf.trans hs) (by rw[hlen];exact hn) ⟨r8.1,λh=>by rw[hlen];exact r8.2 h⟩ (λC h D x lY=>?_) (λC h D x lY=>?_)
    ·obtain⟨v,E,_⟩:=key C h D x lY;rw[E];rfl
    ·obtain⟨v,E,hr⟩:=key C h D x lY;rw[E];exact hr
def aab(b i c s:Nat):sliced (some ⟨b,0,none⟩) 0 i c s = .slice (some ⟨b,0,none⟩) i c:=by
 unfold sliced;split
 ·rfl
 ·rw[Option.map_some,Addr.add_lit];simp
def Gw{X:Type}(P:Program)(N:Nat)(σ:S)(d:Nat)(t:TypeId)(x y:A)(k:S->aj X):aj X:=
 match x,y with
 | .view [q] s 0 i,.view [E] I j m=>(match uU P t with
  | some (e,C)=>bif Nat.beq E q&&Nat.beq s (aF C)&&Nat.beq I (aF C)&&Nat.beq (full C) 0&&Nat.blt d N then (match σ.m q with
   |some (.sl (.sl D (o+2) L l))=>bif Nat.beq (full D) 0&&Nat.beq (aF D) (aF C)then (if i<=j/\j<=m/\m<=l.length/\0<l.length then k ((σ.root q (.sl (.sl D (o+2) L (splice l i ((l.take m).drop j))))).set d (.view [q] s 0 (i+(m-j))))else none)else none
   |_=>none)else none
  |none=>none)
 |_,_=>none
def alX{t ty:TypeId}{x y:A}{k:S -> aj X}(h:Gw P N σ d t x y k=some r):∃ c8,k c8=some r /\ ∀ ah ρ a w,Rl w0 N ah ρ σ a w -> ∀ u v,RA w w0.heap.size ah ρ x u -> RA w w0.heap.size ah ρ y v ->
  ∃w' aD ρ' z,(Builtin.append_ #[t,t] ty #[u,v]).run P w = .ok z w'/\Rl w0 N aD ρ' c8 (a.put (some d) z) w':=by
 unfold Gw at h;split at h
 ·rename_i q s i q' s' j m;split at h
  ·rename_i e D oW;obtain⟨gi,ht,inf,hi,L,jU⟩:=yM oW;cases hc:(Nat.beq q' q&&Nat.beq s (aF D)&&Nat.beq s' (aF D)&&Nat.beq (full D) 0&&Nat.blt d N)with
   |false=>grind
   | true=>
    rw[hc,aq]at h;simp only[aO]at hc;obtain⟨⟨⟨⟨c1,c2⟩,c3⟩,c4⟩,c5⟩:=hc;obtain rfl:=cC c1;obtain rfl:=cC c2;obtain rfl:=cC c3;have hd:d<N:=by have:=cK c5;omega
    split at h
    ·rename_i O g qn l hm;cases T:(Nat.beq (full O) 0&&Nat.beq (aF O) (aF D))with
     |false=>grind
     | true=>
      rw[T,aq]at h;rw[aO]at T;have hf:=cC T.1;have U:=cC T.2;split at h
      ·rename_i hb;obtain⟨b1,b2,b3,b4⟩:=hb
       refine⟨_,h,λah ρ a w hR u v hu hv=>?_⟩
       obtain⟨A,n,c,hva,a1,a2,rfl⟩:=hu;obtain⟨A',n',c',Y,a1',a2',rfl⟩:=hv;rw[hva]at Y;injection Y with Y;injection Y with C e2 e3;subst C e2 e3
       -- what is moved
       have fB:=hR.root q' _ hm;generalize E:aW.sl (.sl O (g+2) qn l)=x at fB;cases fB with
       |aC=>cases E
       |mp=>cases E
       |gh=>cases E
       | sl wN y cN iH=>
        injection E with E;subst E;have Mp:wN = .slice A n c:=by
         simp only[cW,cN]at hva;simp_all
        subst Mp;have Mq:RV w 0 (λ_=>none) [] (.sl O 0 qn l) (.slice A n c):=iH.gp;have hn:n=l.length:=by cases Mq<;>rfl
        obtain⟨hp,Dx,Be⟩:=Mq.part (a:=j) (h:=m) (by omega) b2 (by omega);obtain⟨A2,c2,news,gf,wM,oY,iG⟩:=hp.reads hf;have hlen:((l.take m).drop j).length=m-j:=by rw[List.length_drop,fU];omega
        obtain⟨b,cap,Z,lV,nG,dV⟩:=hR.aaa hm hf (p:=i) (ys:=(l.take m).drop j) (news:=news) (by rw[hlen];omega) b4 iG (by rw[hlen];exact hlen ▸ wM.1);rw[cN]at Z;injection Z with Z;injection Z with C e2 e3;subst C e2 e3;rw[hlen]at gf;have Bf:sliced (some ⟨b,0,none⟩) 0 i c (aF D) = .slice (some ⟨b,0,none⟩) i c:=aab b i c _;obtain⟨ad,wN⟩:∃ ad,sliced (some ⟨b,0,none⟩) j m c (aF D) = .slice (some ad) (m-j) (c-j):=by
         unfold sliced;by_cases hcj:c=j
         ·grind
         ·grind
        have Tc:A2=some ad:=by
         grind
        subst Tc;have qX:news.length=(m-j)*inf.size:=by rw[wM.1,hlen,L,U]
        have eO:=run_append_room_cells (P:=P) w t ty e inf gi hi b 0 i c ad (m-j) (c-j) news qX (λk u I=>by
         have oZ:=(dO.1 I).1;have tv:0<((l.take m).drop j).length:=by
          rcases Nat.eq_zero_or_pos ((l.take m).drop j).length with h0|h0
          ·grind
          ·exact h0
         obtain⟨b',A6,C,_,wO⟩:=wM.2 tv;injection C with C;subst C;rw[Addr.add_lit];exact wO k u I) oY (by omega) (λk I=>by rw[eN,L,<- U];exact(nG k I).1) (λk I=>by rw[eN,L,<- U];exact(nG k I).2)
        refine⟨_,ah,ρ,_,by rw[Bf,wN];exact eO,?_⟩;rw[eN,L,<- U];exact dV.set ⟨some ⟨b,0,none⟩,l.length,c,by simp only[cW,cN],Nat.zero_le _,by omega,(aab b _ c _).symm⟩ hd
      ·cases h
    ·cases h
  ·cases h
 ·cases h
def alY{t:TypeId}{x y:A}:cI λX k=>Gw (X:=X) P N σ d t x y k:=λX Y k g=>by
 unfold Gw
 repeat' first|rfl|refine de ?_ ?_|split
def Gx{X:Type}(P:Program)(σ:S)(t:TypeId)(x:A)(k:S->aj X):aj X:=
 match x with
 | .view [q] s i j=>(match uU P t with
  | some (e,C)=>(match Mk P e C with
   | some z=>(match σ.m q with
    |some (.sl (.sl D (o+2) E l))=>if h:C=D then (bif Nat.beq s (aF C)&&Nat.beq (full C) 0 then (if i<=j/\j<=l.length then k (σ.root q (.sl (.sl D (o+2) E (splice l i (List.replicate (j-i) (h ▸ z))))))else none)else none)else none
    |_=>none)
   |none=>none)
  |none=>none)
 |_=>none
def alZ{t ty:TypeId}{x:A}{k:S->aj X}(h:Gx P σ t x k=some r):∃ c8,k c8=some r/\∀ ah ρ a w,Rl w0 N ah ρ σ a w->∀ u,RA w w0.heap.size ah ρ x u->
  ∃w',(Builtin.clear_ #[t] ty #[u]).run P w = .ok (.tuple #[]) w'/\Rl w0 N ah ρ c8 a w':=by
 unfold Gx at h;split at h
 ·rename_i q s i j;split at h
  ·rename_i e C oW;obtain⟨gi,ht,inf,hi,iA,jU⟩:=yM oW;split at h
   ·rename_i z T;split at h
    ·rename_i t' g qn l hm;split at h
     ·rename_i nE;subst nE;cases U:(Nat.beq s (aF C)&&Nat.beq (full C) 0)with
      |false=>rw[U]at h;cases h
      | true=>
       rw[U,aq]at h;rw[aO]at U;obtain rfl:=cC U.1;have hf:=cC U.2;split at h
       ·rename_i hb
        refine⟨_,h,λah ρ a w hR u hu=>?_⟩
        obtain⟨A,n,c,Y,a1,a2,rfl⟩:=hu;unfold Mk at T;split at T
        ·cases T
        ·rename_i D Dv;split at T
         ·cases T
         ·rename_i vs lZ;have oX:inf.zero=some D:=by unfold zeroOf at Dv;simpa [hi]using Dv
          obtain⟨qV,lA⟩:=S5 _ _ lZ;have E:=lU C (full C) vs z T;have ni:D.cells.size=aF C:=by rw[<-kL C (full C) z,<-E.1,qV];simp
          have hzr:∀w:World,(zeroValue e).run P w = .ok D w:=λw=>by simp[zeroValue,typeInfo,hi,oX]
          rcases Nat.eq_zero_or_pos (j-i)with h0|h0
          ·have uQ:splice l i (List.replicate (j-i) z)=l:=by rw[h0];simp[splice]
           refine⟨w,?_,?_⟩
           ·unfold sliced;rw[h0];cases (if c=i then A else A.map (·.add (i*aF C)))<;>simp[Builtin.clear_,gL gi]
           ·show Rl w0 N ah ρ (σ.root q (.sl (.sl C (g+2) qn (splice l i (List.replicate (j-i) z))))) a w;rw[uQ];have:σ.root q (.sl (.sl C (g+2) qn l))=σ:=by
             unfold S.root;have:bV σ.m q (some (.sl (.sl C (g+2) qn l)))=σ.m:=by
              funext k;by_cases E:k=q
              ·subst E;rw[cc,hm]
              ·rw[cH _ _ _ E]
             rw[this]
            rw[this];exact hR
          ·have o6:(Builtin.zeroCells D.cells (j-i))=madeCells D.cells ((j-i)*D.cells.size):=rfl;have iG:wL C (List.replicate (j-i) z) (Builtin.zeroCells D.cells (j-i)).toList:=by
            intro i' h' o' I x L;rw[List.getElem_replicate]at L;have hj:I<aF C:=by have:=(dO.1 L).1;rwa [kL]at this
            rw[kH]at h';have r7:=hj;rw[<-ni]at r7;have Z:(Builtin.zeroCells D.cells (j-i)).toList[i'*aF C+I]?=some D.cells[I]:=by
             rw[o6,Array.getElem?_toList,<-ni];exact Z6 D.cells _ i' I r7 (by
              have:(i'+1)*D.cells.size<=(j-i)*D.cells.size:=iL _ (by omega);rw[iC]at this;omega)
            rw[Dw C hf o' (full C)]at L;have Gy:I<(enc C (full C) z).length:=(dO.1 L).1;rw[<-E.1]at Gy;have hy:=bQ Gy;generalize vs[I]=y at hy;obtain⟨v,hv,S6⟩:=lA I y hy;have O:D.cells[I]=v:=by
             have e1:D.cells.toList[I]?=some D.cells[I]:=by simp[r7]
             rw[e1]at hv;injection hv
            have jX:∀(w':World) (B':Nat) (aD:bE) (q':aa Nat),RV w' B' aD q' x v:=λw' B' aD q'=>(Z4 S6 _).wk (E.2 I y x hy L)
            exact⟨_,Z,by rw[O];exact(jX w 0 (λ_=>none) []).one,λw' B' aD q'=>by rw[O];exact jX _ _ _ _⟩
           have qX:(Builtin.zeroCells D.cells (j-i)).toList.length=(List.replicate (j-i) z).length*aF C:=by rw[o6,kH,lR,size_madeCells,ni]
           obtain⟨b,cap,cN,lV,Z,dV⟩:=hR.aaa hm hf (p:=i) (ys:=List.replicate (j-i) z) (by rw[kH];omega) (by omega) iG qX;simp only[cW,cN]at Y;injection Y with Y;injection Y with e1 e2 e3;subst e1 e2 e3;refine⟨_,?_,dV⟩;have gf:sliced (some ⟨b,0,none⟩) i j cap (aF C) = .slice (some ⟨b,i*aF C,none⟩) (j-i) (cap-i):=by
            unfold sliced;rw[bJ,Option.map_some,Addr.add_lit,eN]
           have jY:=run_storeCells_cells (P:=P) b (i*aF C) (Builtin.zeroCells D.cells (j-i)).toList 0 w (λk E=>(Z k E).1) (λk E=>(Z k E).2) (λv hv=>by
            obtain⟨k,E⟩:=List.mem_iff_getElem?.1 hv;have oZ:=(dO.1 E).1;rw[qX,kH]at oZ;have tv:=oN C;obtain⟨x,L⟩:=Bb C 0 z (k % aF C) (Nat.mod_lt _ tv);have dU:k / aF C<(List.replicate (j-i) z).length:=by rw[kH];exact Nat.div_lt_of_lt_mul (by rw[Nat.mul_comm];exact oZ)
            obtain⟨v',O,oY,_⟩:=iG (k / aF C) dU 0 (k % aF C) x (by rw[List.getElem_replicate];exact L);rw[Nat.mul_comm,Nat.div_add_mod,E]at O;injection O with O;rw[O];exact oY)
           simp only[Nat.add_zero]at jY;rw[gf];obtain⟨n',yE⟩:∃n',j-i=n'+1:=⟨j-i-1,by omega⟩
           rw[yE]at jY ⊢;simp[Builtin.clear_,gL gi,hzr,jY]
       ·cases h
     ·cases h
    ·cases h
   ·cases h
  ·cases h
 ·cases h
def al0{t:TypeId}{x:A}:cI λX k=>Gx (X:=X) P σ t x k:=λX Y k g=>by
 unfold Gx
 repeat' first|rfl|refine de ?_ ?_|split
end
def yO(place:Nat->aj (Nat×Nat))(cells:aa Lf):aa (Nat×A)->aj (aa Lf)
 |[]=>some cells
 | (i,x) :: rest=>match place i,x.yG with
  |some (off,n),some xs=>if xs.length=n/\off+n<=cells.length then (bif xs.all Lf.live then yO place (splice cells off xs) rest else none)else none
  |_,_=>none
def aac(P:Program)(t:TypeId):aj (Nat->aj (Nat×Nat)):=
 match P.underlying t with
 |some (.array _ e)=>(P.info? e).map λC=>λi=>some (i*C.size,C.size)
 |some (.struct fields)=>(fields.toList.mapM (λf=>(P.info? f.type).map λi=>(f.offset,i.size))).map λps=>(ps.toArray[·]?)
 |_=>none
def Dy{X:Type}(P:Program)(σ:S)(t:TypeId)(parts:aa (Nat×Operand))(k:A->aj X):aj X:=
 match zeroOf P t,aac P t with
 | some z,some pl=>match yO pl (z.cells.toList.map od) (parts.map λp=>(p.1,aK σ p.2))with
  |some cs=>k (.agg cs)
  |none=>none
 |_,_=>none
def Lf.asV:Lf->aj V
 |.v x=>some x
 |_=>none
def uV:aa Lf->aj (aa V)
 |[]=>some []
 | x :: xs=>match x.asV,uV xs with
  |some y,some ys=>some (y::ys)
  |_,_=>none
def Gz(t:TC)(g:Nat):Nat->aa V->aj (aa (T t))
 |0,[]=>some []
 |0,_=>none
 | n+1,C=>match dec t g (C.take (aF t)),Gz t g n (C.drop (aF t))with
  |some x,some xs=>some (x::xs)
  |_,_=>none
def yP{X:Type}(P:Program)(N:Nat)(σ:S)(d:Nat)(t:TypeId)(len:Nat)(parts:aa (Nat×Operand))(k:S->aj X):aj X:=
 match uU P t with
 | some (e,C)=>match zeroOf P e with
  | some z=>bif Nat.beq (full C) 0&&Nat.beq z.cells.size (aF C)&&Nat.blt (len*aF C) 16777217 then (match yO (λi=>some (i*aF C,aF C)) (List.replicate len (z.cells.toList.map od)).flatten (parts.map λp=>(p.1,aK σ p.2))with
   | some cs=>(match uV cs with
    | some D=>(match Gz C 0 len D with
     |some l=>hD N σ d (.sl (.sl C 2 true l)) (.lf (.own [d])) k
     |none=>none)
    |none=>none)
   |none=>none)else none
  |none=>none
 |none=>none
section
variable {P:Program} {w w':World} {w0:Wd} {B N:Nat} {ah aD:bE} {ρ ρ':Nat->Loc} {σ:S} {a:Act} {X:Type} {d:Nat} {r:X}
def aad(off:Nat):∀ (l:aa Value) (n:Nat) (cs:Array Value),off+n+l.length <= cs.size ->
  ((l.zipIdx n).foldl (λ(cs:Array Value) (p:Value×Nat)=>cs.setIfInBounds (off+p.2) p.1) cs).toList=splice cs.toList (off+n) l
 |[],n,cs,_=>by simp[splice]
 | v :: l,n,cs,h=>by
  simp at h;rw[List.zipIdx_cons,List.foldl_cons,aad off l (n+1) _ (by simp;omega)];have C:off+n<cs.toList.length:=by simp;omega
  simp only[splice,Array.toList_setIfInBounds,nj];have D:(cs.toList.set (off+n) v).take (off+(n+1))=cs.toList.take (off+n)++[v]:=by
   rw[show off+(n+1)=off+n+1 by omega,List.take_succ_eq_append_getElem (by simpa using C),List.getElem_set_self,List.take_set_of_le (dx _)]
  have E:(cs.toList.set (off+n) v).drop (off+(n+1)+l.length)=cs.toList.drop (off+(n+1)+l.length):=by
   rw[List.drop_set_of_lt (by omega)]
  grind
def eJ.splice{cs xs:aa Lf}{D E:Array Value}(h:eJ w B ah ρ cs D)(I:eJ w B ah ρ xs E){off:Nat}(L:off+xs.length <= cs.length){O:Array Value}(U:O.toList=Proofs.YtgjfmljpdnnihaaGreat.splice D.toList off E.toList):eJ w B ah ρ (Proofs.YtgjfmljpdnnihaaGreat.splice cs off xs) O:=by
 have Y:off+E.toList.length <= D.toList.length:=by rw[lR,lR,I.1,h.1];exact L
 refine⟨?_,λj x C=>?_⟩
 ·rw[th _ _ _ L,<- lR,U,th _ _ _ Y,lR,h.1]
 ·have e:O[j]?=(Proofs.YtgjfmljpdnnihaaGreat.splice D.toList off E.toList)[j]?:=by rw[<- U,Array.getElem?_toList]
  rw[e,wD _ _ _ Y,lR,I.1];rw[wD _ _ _ L]at C;by_cases T:j<off
  ·simp[T,Array.getElem?_toList]at C ⊢;exact h.2 j x C
  ·by_cases Z:j<off+xs.length
   ·simp[T,Z,Array.getElem?_toList]at C ⊢;exact I.2 _ x C
   ·simp[T,Z,Array.getElem?_toList]at C ⊢;exact h.2 j x C
def Mr{place:Nat -> aj (Nat×Nat)}:∀ (parts:aa (Nat×A)) (cells:aa Lf) (C:Array Value) (D:aa (Nat×Value)) (out:aa Lf),yO place cells parts=some out -> eJ w B ah ρ cells C -> D.length=parts.length ->
  (∀(j:Nat) p q,parts[j]?=some p -> D[j]?=some q -> p.1=q.1/\RA w B ah ρ p.2 q.2) -> ∃E,Instr.fill place C D=some E/\eJ w B ah ρ out E
 | [],cells,C,D,out,h,hR,hl,I=>by
  have:D=[]:=List.eq_nil_of_length_eq_zero hl;subst this;injection h with h;subst h;exact⟨C,rfl,hR⟩
 | (i,x) :: rest,cells,C,D,out,h,hR,hl,I=>by
  cases D with
  |nil=>simp at hl
  | cons v D=>
   obtain⟨i',v⟩:=v;obtain⟨e,L⟩:=I 0 _ _ rfl rfl;simp only at e L;subst e;unfold yO at h;split at h
   ·rename_i off n xs U Y;split at h
    ·rename_i hb;cases O:xs.all Lf.live with
     |false=>grind
     | true=>
      rw[O,aq]at h;obtain⟨T,_⟩:=Gk Y O L;have Z:v.cells.size=n:=by rw[T.1];exact hb.1
      have lW:¬ (off+v.cells.size > C.size):=by rw[Z,hR.1];omega
      have al1:(v.cells.zipIdx.foldl (λ(cs:Array Value) (p:Value×Nat)=>cs.setIfInBounds (off+p.2) p.1) C).toList=Proofs.YtgjfmljpdnnihaaGreat.splice C.toList off v.cells.toList:=by
       have:=aad off v.cells.toList 0 C (by rw[lR];omega);rw[<- Array.foldl_toList,Array.toList_zipIdx];exact this
      have uQ:=hR.splice T (off:=off) (by rw[hb.1];exact hb.2) al1;obtain⟨E,sk,dV⟩:=Mr rest _ _ D out h uQ (by simpa using hl) (λj p q hp' A0=>I (j+1) p q (by simpa using hp') (by simpa using A0));refine⟨E,?_,dV⟩;have cL:(v.cells.size≠n || off+v.cells.size > C.size)=false:=by
       grind
      simp only[Instr.fill,U];rw[bJ (by rw[cL];simp)];exact sk
    ·cases h
   ·cases h
def al2(z:Value):eJ w B ah ρ (z.cells.toList.map od) z.cells:=by
 refine⟨by simp,λj x C=>?_⟩
 rw[eH]at C;cases D:z.cells.toList[j]? with
 |none=>simp_all
 | some v=>
  rw[D]at C;injection C with C;subst C;exact⟨v,by simpa using D,Mm v⟩
def al3{t:TypeId}{parts:Array (Nat×Operand)}{k:A -> aj X}(h:Dy P σ t parts.toList k=some r):∃ y,k y=some r /\ ∀ ah ρ a w,Rl w0 N ah ρ σ a w ->
  ∃v,(Instr.build t (parts.map λ(i,x)=>(i,a.eval x))).run P w = .ok v w/\RA w w0.heap.size ah ρ y v:=by
 unfold Dy at h;split at h
 ·rename_i z pl E C;split at h
  ·rename_i cs Z
   refine⟨_,h,λah ρ a w hR=>?_⟩
   obtain⟨T,U,dV⟩:=Mr (w:=w) (B:=w0.heap.size) (ah:=ah) (ρ:=ρ) _ _ z.cells (parts.toList.map λp=>(p.1,a.eval p.2)) cs Z (al2 z) (by simp) (λj p q D I=>by
    rw[eH]at D I;cases Y:parts.toList[j]? with
    |none=>rw[Y]at D;cases D
    | some x=>
     rw[Y]at D I;injection D with D;injection I with I;subst D I;exact⟨rfl,hR.aK x.2⟩)
   refine⟨_,run_build (P:=P) w t _ T ?_,T,rfl,dV⟩;have GA:(parts.map λ(i,x)=>(i,a.eval x)).toList=parts.toList.map λp=>(p.1,a.eval p.2):=by simp
   rw[GA];unfold zeroOf at E;unfold Program.built;cases hi:P.info? t with
   |none=>simp[hi]at E
   | some i=>
    have E:i.zero=some z:=by simpa [hi]using E
    unfold aac at C;split at C
    ·rename_i n e L;cases O:P.info? e with
     |none=>simp[O]at C
     | some ie=>
      rw[O]at C;injection C with C;subst C;simp[L,E,O];exact U
    ·rename_i fields L;cases D:fields.toList.mapM (λf=>(P.info? f.type).map λi=>(f.offset,i.size))with
     |none=>rw[D]at C;cases C
     | some ps=>
      rw[D]at C;injection C with C;subst C;simp only[L,E,D];exact U
    ·cases C
  ·cases h
 ·cases h
def Ms:∀ (cs:aa Lf) (C:aa V),uV cs=some C->cs=C.map .v
 |[],C,h=>by injection h with h;subst h;rfl
 | x :: xs,C,h=>by
  unfold uV at h;split at h
  next y ys D E=>injection h with h;subst h;rw[Ms xs ys E,List.map_cons];cases x<;>first|(injection D with D;rw[D])|cases D
  ·cases h
def Td(t:TC)(g:Nat):∀ (n:Nat) (C:aa V) (l:aa (T t)),Gz t g n C=some l -> l.length=n/\C.length=n*aF t /\ ∀ i (hi:i<l.length) (j:Nat) x,(enc t g l[i])[j]?=some x -> ∃ y,C[i*aF t+j]?=some y/\Wk y x
 | 0,[],l,h=>by
  injection h with h;subst h;exact⟨rfl,by simp,λi hi=>by simp at hi⟩
 |0,_::_,l,h=>by cases h
 | n+1,C,l,h=>by
  unfold Gz at h;split at h
  ·rename_i x xs I L;injection h with h;subst h;obtain⟨O,Z,h3⟩:=Td t g n _ xs L;have D:=lU t g _ x I;have hlen:(C.take (aF t)).length=aF t:=by rw[D.1,kL]
   have oR:aF t <= C.length:=by rw[fU]at hlen;omega
   refine⟨by simp[O],?_,λi hi j y E=>?_⟩
   ·grind
   ·cases i with
    | zero=>
     have U:j<aF t:=by have:=(dO.1 E).1;rwa [kL]at this
     have Y:=bQ (by rw[hlen];exact U);refine⟨_,?_,D.2 j _ y Y E⟩;simp_all
    |succ i =>grind
  ·cases h
def RV.under{k:aa Nat}{x:V}{v:Value}{n:Nat}(h:RV w B ah k x v)(E:1<k.length\/x.aH=true)(I:w.heap.size<=w'.heap.size)(hb:∀ b,b<w.heap.size->ah b≠some [n]->w'.heap[b]?=w.heap[b]?)(hl:∀ b,b<w.heap.size->aD b=ah b):RV w' B aD k x v:=
 h.map (Q:=λk D=>k=D/\1<k.length) I (λb C h=>⟨hb b C (by rw[h];simp),(hl b C).trans h⟩) (λb k D C h e=>by
  obtain⟨rfl,e⟩:=e;exact⟨hb b C (by rw[h];rintro⟨⟩;simp at e),(hl b C).trans h,λ_ _ _=>⟨rfl,by simp⟩⟩) (E.symm.imp_right λh=>⟨rfl,h⟩)
def tw(w:World)(B:Nat)(ah:bE)(n C:Nat)(t:TC)(o:Nat)(l:aa (T t))(D:aa Value):Prop:=
 ∀i (hi:i<l.length) j x,(enc t o l[i])[j]?=some x->∃v,D[i*aF t+j]?=some v/\RV w B ah (j::(C+i)::aF t::[n]) x v
def RV.al4{n:Nat}{t:TC}{o:Nat}{C:Bool}{l:aa (T t)}{u:Value}(h:RV w B ah [n] (.sl t (o+2) C l) u){B':Nat}(hB:∀ b,ah b=some [n] -> B' <= b):
  ∃xs,w.ownsRow B' (tid t) (aF t) u l.length xs/\(∀b,u.ownBlock=some b -> ah b=some [n])/\(C=true -> u.ownBlock≠none)/\tw w B ah n 0 t o l xs:=by
 cases h with
 |fF=>omega
 |fV=>omega
 |eD=>exact⟨[],⟨by simp,.inl ⟨rfl,rfl⟩⟩,by simp[Value.ownBlock],by simp,λi hi=>by simp at hi⟩
 |aH _ _ _ _ _ _ _ _ _ Z=>omega
 | own _ _ _ _ _ b cap cs us hl D E I L hc hr=>
  refine⟨cs.toList.take _,⟨?_,.inr ⟨b,cap,cs,rfl,hB b hl,D,I,L.1,E,rfl⟩⟩,λO U=>?_,λ_=>by simp[Value.ownBlock],λi hi j x Y=>?_⟩
  ·simp_all
  ·have:b=O:=by simpa [Value.ownBlock]using U
   simp_all
  ·have hj:j<aF t:=by have:=(dO.1 Y).1;rwa [kL]at this
   have dU:i*aF t+j<l.length*aF t:=by
    have:(i+1)*aF t <= l.length*aF t:=iL _ hi;rw[iC]at this;omega
   grind
def tw.append{n:Nat}{t:TC}{o:Nat}{l l2:aa (T t)}{xs ys:aa Value}(h:tw w B ah n 0 t o l xs)(E:tw w B ah n l.length t o l2 ys)(hl:xs.length=l.length*aF t):tw w B ah n 0 t o (l++l2) (xs++ys):=by
 intro i hi j x C;by_cases D:i<l.length
 ·rw[List.getElem_append_left D]at C;obtain⟨v,I,r⟩:=h i D j x C
  grind
 ·rw[List.getElem_append_right (by omega)]at C;have L:i-l.length<l2.length:=by rw[mC]at hi;omega
  obtain⟨v,I,r⟩:=E _ L j x C;refine⟨v,?_,?_⟩
  ·have e:i*aF t+j=xs.length+((i-l.length)*aF t+j):=by
    rw[ Nat.sub_mul];have:l.length*aF t <= i*aF t:=iL _ (by omega);omega
   grind
  ·grind
def tw.under{n C:Nat}{t:TC}{o:Nat}{l:aa (T t)}{D:aa Value}(h:tw w B ah n C t o l D)(E:w.heap.size<=w'.heap.size)(hb:∀ b,b<w.heap.size->ah b≠some [n]->w'.heap[b]?=w.heap[b]?)(hl:∀ b,b<w.heap.size->aD b=ah b):tw w' B aD n C t o l D:=
 λi hi j x I=>let ⟨v,L,r⟩:=h i hi j x I;⟨v,L,r.under (.inl (by simp)) E hb hl⟩
def aae{n:Nat}{t:TC}{o:Nat}{l:aa (T t)}{u:Value}{xs:aa Value}{B':Nat}(h:w.ownsRow B' (tid t) (aF t) u l.length xs)(D:tw w B ah n 0 t o l xs)(hl:∀ b,u.ownBlock=some b -> ah b=some [n]):
  RV w B ah [n] (.sl t (o+2) false l) u:=by
 rcases h.2 with ⟨rfl,E⟩|⟨b,cap,cs,rfl,hB,I,L,O,U,Y⟩
 ·have:=List.eq_nil_of_length_eq_zero E;subst this;exact .eD _ _ _
 ·have Z:∀ i _ j x,(enc t o l[i])[j]?=some x -> ∃ v,cs[i*aF t+j]?=some v/\RV w B ah (j :: i :: aF t :: [n]) x v:=by
   intro i hi j x C;obtain⟨v,hv,r⟩:=D i hi j x C
   grind
  refine .own [n] t o false l b cap cs (λi j=>(cs[i*aF t+j]?).getD undef) (hl b rfl) I U L ⟨O,λh=>by cases h⟩ (λi hi j x C=>?_) (λi hi j x C=>?_)
  ·grind
  ·grind
def Rl.al5{t e ty:TypeId}{C:TC}{i:TypeInfo}{z:Value}{rr o m c:Nat}{q:Bool}{l l2:aa (T C)}{u:Value}{ad:aj Addr}{news:aa Value}(h:Rl w0 N ah ρ σ a w)(hF:w0.F rr=none)(gi:P.underlying t=some (.slice e))(ht:tid C=e)(hi:P.info? e=some i)(hz:i.zero=some z)
  (iA:i.size=aF C) (jU:i.bytes <= 65536) (ni:z.cells.size=aF C) (hd:RV w w0.heap.size ah [rr] (.sl C (o+2) q l) u) (wM:Reads w w.heap.size (aF C) ad m news) (oY:∀v∈news,v.oneCell'=true) (hm:m=l2.length)
  (Gs:tw w w0.heap.size ah rr l.length C o l2 news) (hlen:l.length+l2.length<1073741824):
  ∃D w' aD,(Builtin.append_ #[t,t] ty #[u,.slice ad m c]).run P w = .ok D w'/\Rl w0 N aD (bV ρ rr (.dJ D)) ((σ.drop rr).root rr (.sl (.sl C (o+2) false (l++l2)))) a w'/\mD D=true:=by
 subst ht hm;obtain⟨xs,yN,Z,Gr,iG⟩:=hd.al4 (B':=0) (λb _=>Nat.zero_le b);have gI:(l.length+l2.length)*i.bytes <= 140737488355328:=by
  have h1:(l.length+l2.length)*i.bytes <= 1073741824*65536:=Nat.mul_le_mul (by omega) jU;omega
 obtain⟨D,w',eO,L,I,lC⟩:=Sw (P:=P) w 0 t ty (tid C) i z (aF C) i.bytes gi hi hz iA rfl ni (oN C) u l.length xs yN _ ad l2.length c news wM oY (by unfold maxLen;omega) gI (Nat.zero_le _);have Gt:(l++l2).length=l.length+l2.length:=mC;rw[<- Gt]at L;have Bd:=iG.append Gs yN.1;have gf:mD D=true:=by rcases L.2 with ⟨rfl,_⟩|⟨_,_,_,rfl,_⟩<;>rfl
 have O:Below 0 w w':=(Below.refl 0 w).grown I (Nat.zero_le _) (λ_ _=>Nat.zero_le _);have sr:je w0 w w':=⟨O.os,O.tape,O.output,O.size,λk E hL=>I.block k (Nat.lt_of_lt_of_le E h.below.size) (λe'=>by
  rcases(h.cX k _ (Z k e'.symm)).1 with h1|h1
  ·exact absurd E (Nat.not_lt.2 h1)
  ·exact h1 hL)⟩
 have U:∀b,b<w.heap.size -> ah b≠some [rr] -> w'.heap[b]?=w.heap[b]?:=λb hb cL=>I.block b hb (λe'=>cL (Z b e'.symm))
 by_cases Y:D.ownBlock=some w.heap.size
 ·have dU:w.heap.size<w'.heap.size:=by
   rcases L.2 with ⟨rfl,_⟩|⟨b,cap,cs,rfl,_,hh,_⟩
   ·cases Y
   ·have:b=w.heap.size:=by simpa [Value.ownBlock]using Y
    grind
  have Bg:∀b,b<w.heap.size -> bV ah w.heap.size (some [rr]) b=ah b:=λb hb=>cH _ _ _ (by omega)
  refine⟨D,w',bV ah w.heap.size (some [rr]),eO,h.yK hF sr ⟨I.size,U,Bg,λb hb=>(h.cX b [] hb).2.2 rfl⟩ (λb k hb E=>?_) (λr hr=>cH _ _ _ hr) (.sl D _ (cc _ _ _) (aae L (Bd.under I.size U Bg) (λb hb=>?_))),gf⟩
  ·by_cases e:b=w.heap.size
   ·subst e;rw[cc]at E
    grind
   ·rw[cH _ _ _ e]at E;have:=(h.cX b k E).2.1;omega
  ·rw[Y]at hb;injection hb with hb;subst hb;exact cc _ _ _
 ·have S9:D.ownBlock=u.ownBlock:=by
   rcases lC with lC|lC
   ·exact lC
   ·exact absurd lC Y
  refine⟨D,w',ah,eO,h.yK hF sr ⟨I.size,U,λ_ _=>rfl,λb hb=>(h.cX b [] hb).2.2 rfl⟩ (λb k hb E=>?_) (λr hr=>cH _ _ _ hr) (.sl D _ (cc _ _ _) (aae L (Bd.under I.size U (λ_ _=>rfl)) (λb hb=>Z b (by rw[<- S9];exact hb)))),gf⟩
  have:=(h.cX b k E).2.1;omega
end
end Go.Proofs.YtgjfmljpdnnihaaGreat
