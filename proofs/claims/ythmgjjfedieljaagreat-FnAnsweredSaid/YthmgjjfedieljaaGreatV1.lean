/-
  Running the program over pure contents, and that it follows (part 1). Nothing here is a claim.
-/
import Derived.Test.YthmgjjfedieljaaGreatAppend
import Derived.Test.YthmgjjfedieljaaGreatLaws
import Derived.Handy
import Derived.Great.BuildSlice
import Derived.ArgAppend
set_option linter.unusedSimpArgs false
namespace Go.Proofs.YthmgjjfedieljaaGreat
open Go.RowKit
set_option linter.defProp false
abbrev aa:=List
abbrev ah:=Option
abbrev aj:=Unit
def av:=@cond_true
def eZ:=@Bool.or_eq_true
def aH:=@Bool.and_eq_true
def c8:=@Nat.eq_of_beq_eq_true
def cH:=@Nat.le_of_ble_eq_true
def iR:=@List.mem_of_getElem?
def fz:=@List.getElem?_map
def jH:=@Array.getElem?_eq_some_iff
def dg:=@Nat.le_refl
def gy:=@Nat.zero_add
def ax:=@cond_false
def rP:=@List.map_congr_left
def cm:=@List.all_eq_true
def bE:=@congrArg
def jV:=@List.any_eq_false
theorem aV.{u}{c:Prop}{h:Decidable c}(k:c:=by omega){α:Sort u}{t e:α}:ite c t e=t:=if_pos k
def fN:=@List.length_map
def nN:=@Bool.eq_false_iff
def jt:=@Array.getD_eq_getD_getElem?
def nO:=@Array.length_toList
theorem aX.{u}{c:Prop}{h:Decidable c}(k:¬c:=by omega){α:Sort u}{t e:α}:ite c t e=e:=if_neg k
def jg:=@List.length_set
def dW:=@List.getElem?_eq_some_iff
def bL:=@List.getElem?_eq_getElem
def ju:=@Nat.mul_le_mul_right
def jv:=@Nat.succ_mul
def uS:=@List.eq_nil_of_length_eq_zero
def gW:=@Sem.run_bind
def nQ:=@Result.andThen_ok
def iY:=@run_underlying
def cX:=@List.getElem_mem
def jI:=@Nat.ble_eq_true_of_le
def jJ:=@Option.some.injEq
def jh:=@List.length_append
def jK:=@List.length_take
def oF:=@List.length_replicate
def qL:=@List.getElem?_eq_none
def cQ:=@List.getD_eq_getElem?_getD
def qM:=@Bool.or_eq_false_iff
def ff:=@Bool.not_eq_true'
def ig:=@List.mem_cons
def dn:=@Bool.true_and
def mZ:=@List.map_append
def gE:=@List.mem_append
def lK:=@Bool.false_or
def gz:=@List.mem_singleton
def iZ:=@List.mem_map
theorem aP.{u}{c:Prop}{h:Decidable c}(k:c:=by omega){α:Sort u}{t:c->α}{e:¬c->α}:dite c t e=t k:=dif_pos k
def gq:=@List.mem_range
def sR:=@List.mem_of_find?_eq_some
def qb:=@List.getElem_range
theorem bf{p:Prop}[Decidable p](k:p:=by omega):decide p=true:=decide_eq_true k
def ij:=@decide_eq_true_eq
def bI:=@Bool.not_true
def dU:=@Int.le_refl
def uT:=@Int.tmod_eq_emod_of_nonneg
def bD:=@Int.toNat_natCast
theorem bz{p:Prop}[Decidable p](k:¬p:=by omega):decide p=false:=decide_eq_false k
def eM:=@Int.natCast_zero
def dN:=@Int.eq_ofNat_of_zero_le
def iJ:=@Sum.elim_inl
def qc:=@List.take_length
def gu:=@beq_self_eq_true
def jL:=@List.mem_iff_getElem
def tV:=@List.findIdx?_eq_some_iff_getElem
def fO:=@List.length_range
def uU:=@Int.tdiv_eq_ediv_of_nonneg
def sS:=@decide_eq_false_iff_not
def dO:=@beq_iff_eq
def mj:=@List.length_singleton
def sU:=@List.pairwise_iff_getElem
def ja:=@of_decide_eq_true
set_option linter.unusedVariables false
set_option linter.unusedSimpArgs false
structure aK where
 cN:Int
 aO:Int
 rows:Int
 aW:Int
structure aN where
 aA:Int
 row:Int
 cu:Int
structure rQ where
 order:Int
 hash:Bool
structure aQ where
 kind:Int
 aA:Int
 row:Int
 cu:Int
structure dw where
 uV:Int
 rp:Int
 lM:Int
 wu:Int
 sV:Int
 nR:Int
 wz:Int
 wA:Int
 qN:Int
 wr:Int
 wC:Int
 wD:Int
 zF:Int
 yl:Int
 ym:Int
 xp:Int
 xs:Int
structure ji where
 open_:Bool
 row:Int
structure cr where
 aO:List ji
 aS:Int
structure eB where
 at_:Int
 cmd:aQ
structure fj where
 last:List Int
 bq:List Int
structure cw where
 symbols:List Int
 qd:Bool
structure c9 where
 cells:List cw
 bx:List Int
 bg:List Int
structure lN where
 bx:Int
 bg:Int
structure dc where
 rows:List Int
 counts:List Int
 gj:Int
structure gv where
 cc:Int
 map:List Int
structure eC where
 aB:List Int
 wait:Int
 bO:Bool
structure aR where
 id:Int
 cS:Int
 line:Int
 write:Bool
 data:Int
 at_:Int
structure dz where
 weight:Int
 eS:Int
structure m0 where
 on:Bool
 low:Int
 high:Int
structure jM where
 state:Int
 since:Int
 idle:Int
structure zG where
 down:Int
 sleep:Int
structure cY where
 line:Int
 code:Int
 times:Int
structure wE where
 next:Int
 every:Int
 wait:Int
structure fA where
 gA:Int
 cap:Int
 dx:Int
 low:Int
 high:Int
 weights:List Int
 eT:zG
structure lO where
 bW:fA
 next:fA
 waits:Bool
structure fB where
 aq:aK
 bP:dw
 mapping:rQ
 cc:Int
 interval:Int
 jj:Int
 dX:lN
structure cI where
 id:Int
 at_:Int
 data:Int
 code:Int
structure au where
 config:fB
 box:lO
 now:Int
 aG:cr
 ready:fj
 array:c9
 spare:gv
 ay:eC
 bF:List dc
 guard:List Int
 pending:List aN
 queue:List aR
 shares:List dz
 drain:m0
 aS:jM
 dJ:wE
 errors:List cY
 trace:List eB
 aZ:List cI
structure jk where
 kind:Int
 request:aR
 n:Int
 Bk:Int
 addr:aN
 jl:fA
structure mq where
 line:Int
 data:Int
 code:Int
structure bH where
 b:List Int
 i:Int
 h:Int
inductive TC where
 |int|u8|bool|str
 |iq
 |Addr
 |yo
 |Command
 |oG
 |rR
 |nT
 |Event
 |sW
 |Cell
 |Array
 |zH
 |qe
 |tW
 |nX
 |dY
 |jW
 |wF
 |Power
 |zI
 |kE
 |yp
 |oH
 |uW
 |Config
 |mw
 |eU
 |Act
 |Fact
 |uX
 |sl (t:TC)
 |ID
 |C9 (g:Nat)
 |Da (g:Nat)
 |Db (g:Nat)
 |fnCommand (g:Nat)
deriving DecidableEq
def T:TC->Type
 |.int=>Int
 |.u8=>Int
 |.bool=>Bool
 |.str=>ByteArray
 |.iq=>aK
 |.Addr=>aN
 |.yo=>rQ
 |.Command=>aQ
 |.oG=>dw
 |.rR=>ji
 |.nT=>cr
 |.Event=>eB
 |.sW=>fj
 |.Cell=>cw
 |.Array=>c9
 |.zH=>lN
 |.qe=>dc
 |.tW=>gv
 |.nX=>eC
 |.dY=>aR
 |.jW=>dz
 |.wF=>m0
 |.Power=>jM
 |.zI=>zG
 |.kE=>cY
 |.yp=>wE
 |.oH=>fA
 |.uW=>lO
 |.Config=>fB
 |.mw=>cI
 |.eU=>au
 |.Act=>jk
 |.Fact=>mq
 |.uX=>bH
 |.sl t=>aa (T t)
 |.ID=>au
 |.C9 _=>Int
 |.Da _=>aR
 |.Db _=>aN
 |.fnCommand _=>aQ
def aF:TC->Nat
 |.ID=>76
 |.C9 _=>3
 |.Da _=>8
 |.Db _=>5
 |.fnCommand _=>6
 |.iq=>4
 |.Addr=>3
 |.yo=>2
 |.Command=>4
 |.oG=>17
 |.rR=>2
 |.nT=>2
 |.Event=>5
 |.sW=>2
 |.Cell=>2
 |.Array=>3
 |.zH=>2
 |.qe=>3
 |.tW=>2
 |.nX=>3
 |.dY=>6
 |.jW=>2
 |.wF=>3
 |.Power=>3
 |.zI=>2
 |.kE=>3
 |.yp=>3
 |.oH=>8
 |.uW=>17
 |.Config=>28
 |.mw=>4
 |.eU=>75
 |.Act=>20
 |.Fact=>3
 |.uX=>3
 |_=>1
def full:TC->Nat
 |.int|.u8|.bool|.str=>0
 |.iq=>0
 |.Addr=>0
 |.yo=>0
 |.Command=>0
 |.oG=>0
 |.rR=>0
 |.nT=>2
 |.Event=>0
 |.sW=>2
 |.Cell=>2
 |.Array=>4
 |.zH=>0
 |.qe=>2
 |.tW=>2
 |.nX=>2
 |.dY=>0
 |.jW=>0
 |.wF=>0
 |.Power=>0
 |.zI=>0
 |.kE=>0
 |.yp=>0
 |.oH=>2
 |.uW=>2
 |.Config=>0
 |.mw=>0
 |.eU=>4
 |.Act=>2
 |.Fact=>0
 |.uX=>2
 |.sl t=>full t+2
 |.ID=>4
 |.C9 _=>0
 |.Da _=>0
 |.Db _=>0
 |.fnCommand _=>0
def tid:TC->TypeId
 |.int=>3
 |.u8=>5
 |.bool=>4
 |.str=>9
 |.iq=>25
 |.Addr=>77
 |.yo=>29
 |.Command=>162
 |.oG=>27
 |.rR=>184
 |.nT=>46
 |.Event=>164
 |.sW=>48
 |.Cell=>141
 |.Array=>51
 |.zH=>31
 |.qe=>104
 |.tW=>53
 |.nX=>55
 |.dY=>75
 |.jW=>144
 |.wF=>61
 |.Power=>63
 |.zI=>36
 |.kE=>159
 |.yp=>65
 |.oH=>38
 |.uW=>43
 |.Config=>33
 |.mw=>122
 |.eU=>70
 |.Act=>79
 |.Fact=>124
 |.uX=>129
 |.sl .int=>34
 |.sl .bool=>268
 |.sl .str=>0
 |_=>0
inductive V where
 |int (k:IntKind) (n:Int)
 |bool (b:Bool)
 |str (s:ByteArray)
 |nil
 |sl (t:TC) (o:Nat) (q:Bool) (l:List (T t))
def V.aY:V->ah Int|.int .i64 n=>some n|_=>none
def V.SM:V->ah Int|.int .u8 n=>some n|_=>none
def V.qO:V->ah Bool|.bool b=>some b|_=>none
def V.SN:V->ah ByteArray|.str s=>some s|_=>none
def V.gn(t:TC)(o:Nat):V->ah (aa (T t))
 |.sl D C _ l=>bif Nat.beq C o ||(Nat.ble (full t+2) C&&Nat.ble (full t+2) o)then (if h:D=t then some (h ▸ l)else none)else none
 |.nil=>some []
 |_=>none
inductive Wk:V->V->Prop
 |same (x:V):Wk x x
 |nil (t:TC) (o:Nat):Wk .nil (.sl t o false [])
 |q (t:TC) (o:Nat) (l:List (T t)):Wk (.sl t o true l) (.sl t o false l)
 |gr (t:TC) (o o':Nat) (qn:Bool) (l:List (T t)) (h:full t+2<=o) (h':full t+2<=o'):Wk (.sl t o' qn l) (.sl t o false l)
def m9(xs ys:aa V):Prop:=xs.length=ys.length/\∀(j:Nat) (x y:V),xs[j]?=some x->ys[j]?=some y->Wk x y
def m9.nil:m9 [] []:=⟨rfl,by simp⟩
def m9.cons{x y:V}{xs ys:aa V}(h:Wk x y)(k:m9 xs ys):m9 (x :: xs) (y :: ys):=by
 refine⟨by simp[k.1],λj a b C hb=>?_⟩
 cases j with
 |zero=>simp_all
 |succ j=>simp at C hb;exact k.2 j a b C hb
def V.ajS{x:V}{n:Int}(h:x.aY=some n):Wk x (.int .i64 n):=by
 unfold V.aY at h;split at h<;>first|(injection h with h;subst h;exact .same _)|cases h
def V.ajT{x:V}{n:Int}(h:x.SM=some n):Wk x (.int .u8 n):=by
 unfold V.SM at h;split at h<;>first|(injection h with h;subst h;exact .same _)|cases h
def V.ajU{x:V}{n:Bool}(h:x.qO=some n):Wk x (.bool n):=by
 unfold V.qO at h;split at h<;>first|(injection h with h;subst h;exact .same _)|cases h
def V.ajV{x:V}{n:ByteArray}(h:x.SN=some n):Wk x (.str n):=by
 unfold V.SN at h;split at h<;>first|(injection h with h;subst h;exact .same _)|cases h
def V.IE{x:V}{t:TC}{o:Nat}{l:aa (T t)}(h:x.gn t o=some l):Wk x (.sl t o false l):=by
 unfold V.gn at h;split at h
 ·rename_i E C q I;cases hc:(Nat.beq C o || (Nat.ble (full t+2) C&&Nat.ble (full t+2) o))with
  |false=>simp_all
  | true=>
   rw[hc,av]at h;split at h
   ·rename_i D;subst D;injection h with h;subst h;rw[eZ,aH]at hc;rcases hc with hc | hc
    ·obtain rfl:=c8 hc;cases q
     ·exact .same _
     ·exact .q _ _ _
    ·exact .gr _ _ _ _ _ (cH hc.2) (cH hc.1)
   ·cases h
 ·injection h with h;subst h;exact .nil _ _
 ·cases h
def Fv(x:aN)(o:Nat):aa V:=[.int .i64 x.aA,.int .i64 x.row,.int .i64 x.cu]
def Fw(x:aQ)(o:Nat):aa V:=[.int .i64 x.kind,.int .i64 x.aA,.int .i64 x.row,.int .i64 x.cu]
def Fx(x:aR)(o:Nat):aa V:=[.int .i64 x.id,.int .i64 x.cS,.int .i64 x.line,.bool x.write,.int .i64 x.data,.int .i64 x.at_]
def Fy(x:au)(o:Nat):aa V:=[.int .i64 x.config.aq.cN,.int .i64 x.config.aq.aO,.int .i64 x.config.aq.rows,.int .i64 x.config.aq.aW,.int .i64 x.config.bP.uV,.int .i64 x.config.bP.rp,.int .i64 x.config.bP.lM,.int .i64 x.config.bP.wu,.int .i64 x.config.bP.sV,.int .i64 x.config.bP.nR,.int .i64 x.config.bP.wz,.int .i64 x.config.bP.wA,.int .i64 x.config.bP.qN,.int .i64 x.config.bP.wr,.int .i64 x.config.bP.wC,.int .i64 x.config.bP.wD,.int .i64 x.config.bP.zF,.int .i64 x.config.bP.yl,.int .i64 x.config.bP.ym,.int .i64 x.config.bP.xp,.int .i64 x.config.bP.xs,.int .i64 x.config.mapping.order,.bool x.config.mapping.hash,.int .i64 x.config.cc,.int .i64 x.config.interval,.int .i64 x.config.jj,.int .i64 x.config.dX.bx,.int .i64 x.config.dX.bg,.int .i64 x.box.bW.gA,.int .i64 x.box.bW.cap,.int .i64 x.box.bW.dx,.int .i64 x.box.bW.low,.int .i64 x.box.bW.high,.sl .int o false x.box.bW.weights,.int .i64 x.box.bW.eT.down,.int .i64 x.box.bW.eT.sleep,.int .i64 x.box.next.gA,.int .i64 x.box.next.cap,.int .i64 x.box.next.dx,.int .i64 x.box.next.low,.int .i64 x.box.next.high,.sl .int o false x.box.next.weights,.int .i64 x.box.next.eT.down,.int .i64 x.box.next.eT.sleep,.bool x.box.waits,.int .i64 x.now,.sl .rR o false x.aG.aO,.int .i64 x.aG.aS,.sl .int o false x.ready.last,.sl .int o false x.ready.bq,.sl .Cell o false x.array.cells,.sl .int o false x.array.bx,.sl .int o false x.array.bg,.int .i64 x.spare.cc,.sl .int o false x.spare.map,.sl .int o false x.ay.aB,.int .i64 x.ay.wait,.bool x.ay.bO,.sl .qe o false x.bF,.sl .int o false x.guard,.sl .Addr o false x.pending,.sl .dY o false x.queue,.sl .jW o false x.shares,.bool x.drain.on,.int .i64 x.drain.low,.int .i64 x.drain.high,.int .i64 x.aS.state,.int .i64 x.aS.since,.int .i64 x.aS.idle,.int .i64 x.dJ.next,.int .i64 x.dJ.every,.int .i64 x.dJ.wait,.sl .kE o false x.errors,.sl .Event o false x.trace,.sl .mw o false x.aZ]
def enc:(t:TC)->(o:Nat)->T t->aa V
 |.int,_,x=>[.int .i64 x]
 |.u8,_,x=>[.int .u8 x]
 |.bool,_,x=>[.bool x]
 |.str,_,x=>[.str x]
 |.iq,o,x=>[.int .i64 x.cN,.int .i64 x.aO,.int .i64 x.rows,.int .i64 x.aW]
 |.Addr,o,x=>Fv x o
 |.yo,o,x=>[.int .i64 x.order,.bool x.hash]
 |.Command,o,x=>Fw x o
 |.oG,o,x=>[.int .i64 x.uV,.int .i64 x.rp,.int .i64 x.lM,.int .i64 x.wu,.int .i64 x.sV,.int .i64 x.nR,.int .i64 x.wz,.int .i64 x.wA,.int .i64 x.qN,.int .i64 x.wr,.int .i64 x.wC,.int .i64 x.wD,.int .i64 x.zF,.int .i64 x.yl,.int .i64 x.ym,.int .i64 x.xp,.int .i64 x.xs]
 |.rR,o,x=>[.bool x.open_,.int .i64 x.row]
 |.nT,o,x=>[.sl .rR o false x.aO,.int .i64 x.aS]
 |.Event,o,x=>[.int .i64 x.at_,.int .i64 x.cmd.kind,.int .i64 x.cmd.aA,.int .i64 x.cmd.row,.int .i64 x.cmd.cu]
 |.sW,o,x=>[.sl .int o false x.last,.sl .int o false x.bq]
 |.Cell,o,x=>[.sl .int o false x.symbols,.bool x.qd]
 |.Array,o,x=>[.sl .Cell o false x.cells,.sl .int o false x.bx,.sl .int o false x.bg]
 |.zH,o,x=>[.int .i64 x.bx,.int .i64 x.bg]
 |.qe,o,x=>[.sl .int o false x.rows,.sl .int o false x.counts,.int .i64 x.gj]
 |.tW,o,x=>[.int .i64 x.cc,.sl .int o false x.map]
 |.nX,o,x=>[.sl .int o false x.aB,.int .i64 x.wait,.bool x.bO]
 |.dY,o,x=>Fx x o
 |.jW,o,x=>[.int .i64 x.weight,.int .i64 x.eS]
 |.wF,o,x=>[.bool x.on,.int .i64 x.low,.int .i64 x.high]
 |.Power,o,x=>[.int .i64 x.state,.int .i64 x.since,.int .i64 x.idle]
 |.zI,o,x=>[.int .i64 x.down,.int .i64 x.sleep]
 |.kE,o,x=>[.int .i64 x.line,.int .i64 x.code,.int .i64 x.times]
 |.yp,o,x=>[.int .i64 x.next,.int .i64 x.every,.int .i64 x.wait]
 |.oH,o,x=>[.int .i64 x.gA,.int .i64 x.cap,.int .i64 x.dx,.int .i64 x.low,.int .i64 x.high,.sl .int o false x.weights,.int .i64 x.eT.down,.int .i64 x.eT.sleep]
 |.uW,o,x=>[.int .i64 x.bW.gA,.int .i64 x.bW.cap,.int .i64 x.bW.dx,.int .i64 x.bW.low,.int .i64 x.bW.high,.sl .int o false x.bW.weights,.int .i64 x.bW.eT.down,.int .i64 x.bW.eT.sleep,.int .i64 x.next.gA,.int .i64 x.next.cap,.int .i64 x.next.dx,.int .i64 x.next.low,.int .i64 x.next.high,.sl .int o false x.next.weights,.int .i64 x.next.eT.down,.int .i64 x.next.eT.sleep,.bool x.waits]
 |.Config,o,x=>[.int .i64 x.aq.cN,.int .i64 x.aq.aO,.int .i64 x.aq.rows,.int .i64 x.aq.aW,.int .i64 x.bP.uV,.int .i64 x.bP.rp,.int .i64 x.bP.lM,.int .i64 x.bP.wu,.int .i64 x.bP.sV,.int .i64 x.bP.nR,.int .i64 x.bP.wz,.int .i64 x.bP.wA,.int .i64 x.bP.qN,.int .i64 x.bP.wr,.int .i64 x.bP.wC,.int .i64 x.bP.wD,.int .i64 x.bP.zF,.int .i64 x.bP.yl,.int .i64 x.bP.ym,.int .i64 x.bP.xp,.int .i64 x.bP.xs,.int .i64 x.mapping.order,.bool x.mapping.hash,.int .i64 x.cc,.int .i64 x.interval,.int .i64 x.jj,.int .i64 x.dX.bx,.int .i64 x.dX.bg]
 |.mw,o,x=>[.int .i64 x.id,.int .i64 x.at_,.int .i64 x.data,.int .i64 x.code]
 |.eU,o,x=>Fy x o
 |.Act,o,x=>[.int .i64 x.kind,.int .i64 x.request.id,.int .i64 x.request.cS,.int .i64 x.request.line,.bool x.request.write,.int .i64 x.request.data,.int .i64 x.request.at_,.int .i64 x.n,.int .i64 x.Bk,.int .i64 x.addr.aA,.int .i64 x.addr.row,.int .i64 x.addr.cu,.int .i64 x.jl.gA,.int .i64 x.jl.cap,.int .i64 x.jl.dx,.int .i64 x.jl.low,.int .i64 x.jl.high,.sl .int o false x.jl.weights,.int .i64 x.jl.eT.down,.int .i64 x.jl.eT.sleep]
 |.Fact,o,x=>[.int .i64 x.line,.int .i64 x.data,.int .i64 x.code]
 |.uX,o,x=>[.sl .u8 o false x.b,.int .i64 x.i,.int .i64 x.h]
 |.sl t,o,x=>[.sl t o false x]
 |.ID,o,x=>.bool true::Fy x o
 |.C9 g,o,x=>.bool false::.int .i64 (g:Int)::[.int .i64 x]
 |.Da g,o,x=>.bool false::.int .i64 (g:Int)::Fx x o
 |.Db g,o,x=>.bool false::.int .i64 (g:Int)::Fv x o
 |.fnCommand g,o,x=>.bool false::.int .i64 (g:Int)::Fw x o
def dF{α β:Type}(g:V->ah β)(f:β->aa V->ah α):aa V->ah α
 |x::cs=>(g x).bind λy=>f y cs
 |[]=>none
def dE{α:Type}(x:α):aa V->ah α
 |[]=>some x
 |_=>none
def V.cg(b:Bool):V->ah Bool|.bool c=>bif c==b then some c else none|_=>none
def V.Fz(n:Int):V->ah Int|.int .i64 m=>if m=n then some m else none|_=>none
def DQ{α:Type}(e:α->aa V)(p:aa V->aa V)(d:aa V->ah α):Prop:=∀cs x,d cs=some x->∃L,e x=p L/\m9 cs L
def ajW{α:Type}{e:α->aa V}{p:aa V->aa V}{x:α}(h:e x=p []):DQ e p (dE x):=λcs y C=>by
 cases cs with
 |nil=>injection C with C;subst C;exact⟨[],h,.nil⟩
 |cons=>cases C
def bind_some{α β:Type}{a:ah α}{f:α -> ah β}{b:β}(h:a.bind f=some b):∃ x,a=some x/\f x=some b:=by
 cases a with
 |none=>cases h
 |some x=>simp_all
def Dc{α β:Type}{e:α->aa V}{p:aa V->aa V}{g:V->ah β}{k:β->V}(D:∀ {x y},g x=some y->Wk x (k y)){f:β->aa V->ah α}(E:∀ y,DQ e (λL=>p (k y :: L)) (f y)):DQ e p (dF g f):=λcs x C=>by
 cases cs with
 |nil=>cases C
 | cons c cs=>
  obtain⟨y,I,O⟩:=bind_some C;obtain⟨L,T,U⟩:=E y cs x O;exact⟨k y::L,T,.cons (D I) U⟩
def V.ajX{b:Bool}{x:V}{c:Bool}(h:x.cg b=some c):Wk x (.bool b):=by
 unfold V.cg at h;split at h
 next C=>cases C<;>cases b<;>first|exact .same _|cases h
 ·cases h
def V.ajY{n:Int}{x:V}{c:Int}(h:x.Fz n=some c):Wk x (.int .i64 n):=by
 unfold V.Fz at h;split at h
 ·split at h
  next C=>subst C;exact .same _
  ·cases h
 ·cases h
abbrev Z3 (o:Nat):aa V->ah aN:=dF V.aY λC=>dF V.aY λD=>dF V.aY λE=>dE ⟨C,D,E⟩
abbrev Z4 (o:Nat):aa V->ah aQ:=dF V.aY λC=>dF V.aY λD=>dF V.aY λE=>dF V.aY λI=>dE ⟨C,D,E,I⟩
abbrev Z5 (o:Nat):aa V->ah aR:=dF V.aY λC=>dF V.aY λD=>dF V.aY λE=>dF V.qO λI=>dF V.aY λO=>dF V.aY λT=>dE ⟨C,D,E,I,O,T⟩
abbrev Z6 (o:Nat):aa V->ah au:=dF V.aY λC=>dF V.aY λD=>dF V.aY λE=>dF V.aY λI=>dF V.aY λO=>dF V.aY λT=>dF V.aY λU=>dF V.aY λY=>dF V.aY λZ=>dF V.aY λx9=>dF V.aY λzJ=>dF V.aY λzK=>dF V.aY λzL=>dF V.aY λzM=>dF V.aY λzN=>dF V.aY λzO=>dF V.aY λzP=>dF V.aY λIF=>dF V.aY λIG=>dF V.aY λII=>dF V.aY λSO=>dF V.aY λSP=>dF V.qO λSQ=>dF V.aY λSR=>dF V.aY λSS=>dF V.aY λSU=>dF V.aY λSV=>dF V.aY λSW=>dF V.aY λx28=>dF V.aY λx29=>dF V.aY λx30=>dF V.aY λx31=>dF V.aY λx32=>dF (V.gn .int o) λx33=>dF V.aY λx34=>dF V.aY λx35=>dF V.aY λx36=>dF V.aY λx37=>dF V.aY λx38=>dF V.aY λx39=>dF V.aY λx40=>dF (V.gn .int o) λx41=>dF V.aY λx42=>dF V.aY λx43=>dF V.qO λx44=>dF V.aY λx45=>dF (V.gn .rR o) λx46=>dF V.aY λx47=>dF (V.gn .int o) λx48=>dF (V.gn .int o) λx49=>dF (V.gn .Cell o) λx50=>dF (V.gn .int o) λx51=>dF (V.gn .int o) λx52=>dF V.aY λx53=>dF (V.gn .int o) λx54=>dF (V.gn .int o) λx55=>dF V.aY λx56=>dF V.qO λx57=>dF (V.gn .qe o) λx58=>dF (V.gn .int o) λx59=>dF (V.gn .Addr o) λx60=>dF (V.gn .dY o) λx61=>dF (V.gn .jW o) λx62=>dF V.qO λx63=>dF V.aY λx64=>dF V.aY λx65=>dF V.aY λx66=>dF V.aY λx67=>dF V.aY λx68=>dF V.aY λx69=>dF V.aY λx70=>dF V.aY λx71=>dF (V.gn .kE o) λx72=>dF (V.gn .Event o) λx73=>dF (V.gn .mw o) λx74=>dE ⟨⟨⟨C,D,E,I⟩,⟨O,T,U,Y,Z,x9,zJ,zK,zL,zM,zN,zO,zP,IF,IG,II,SO⟩,⟨SP,SQ⟩,SR,SS,SU,⟨SV,SW⟩⟩,⟨⟨x28,x29,x30,x31,x32,x33,⟨x34,x35⟩⟩,⟨x36,x37,x38,x39,x40,x41,⟨x42,x43⟩⟩,x44⟩,x45,⟨x46,x47⟩,⟨x48,x49⟩,⟨x50,x51,x52⟩,⟨x53,x54⟩,⟨x55,x56,x57⟩,x58,x59,x60,x61,x62,⟨x63,x64,x65⟩,⟨x66,x67,x68⟩,⟨x69,x70,x71⟩,x72,x73,x74⟩
def dec:(t:TC)->(o:Nat)->aa V->ah (T t)
 |.int,_=>dF V.aY dE
 |.u8,_=>dF V.SM dE
 |.bool,_=>dF V.qO dE
 |.str,_=>dF V.SN dE
 |.iq,o=>dF V.aY λC=>dF V.aY λD=>dF V.aY λE=>dF V.aY λI=>dE ⟨C,D,E,I⟩
 |.Addr,o=>Z3 o
 |.yo,o=>dF V.aY λC=>dF V.qO λD=>dE ⟨C,D⟩
 |.Command,o=>Z4 o
 |.oG,o=>dF V.aY λC=>dF V.aY λD=>dF V.aY λE=>dF V.aY λI=>dF V.aY λO=>dF V.aY λU=>dF V.aY λY=>dF V.aY λZ=>dF V.aY λx8=>dF V.aY λx9=>dF V.aY λzJ=>dF V.aY λzK=>dF V.aY λzL=>dF V.aY λzM=>dF V.aY λzN=>dF V.aY λzO=>dF V.aY λzP=>dE ⟨C,D,E,I,O,U,Y,Z,x8,x9,zJ,zK,zL,zM,zN,zO,zP⟩
 |.rR,o=>dF V.qO λC=>dF V.aY λD=>dE ⟨C,D⟩
 |.nT,o=>dF (V.gn .rR o) λC=>dF V.aY λD=>dE ⟨C,D⟩
 |.Event,o=>dF V.aY λC=>dF V.aY λD=>dF V.aY λE=>dF V.aY λI=>dF V.aY λO=>dE ⟨C,⟨D,E,I,O⟩⟩
 |.sW,o=>dF (V.gn .int o) λC=>dF (V.gn .int o) λD=>dE ⟨C,D⟩
 |.Cell,o=>dF (V.gn .int o) λC=>dF V.qO λD=>dE ⟨C,D⟩
 |.Array,o=>dF (V.gn .Cell o) λC=>dF (V.gn .int o) λD=>dF (V.gn .int o) λE=>dE ⟨C,D,E⟩
 |.zH,o=>dF V.aY λC=>dF V.aY λD=>dE ⟨C,D⟩
 |.qe,o=>dF (V.gn .int o) λC=>dF (V.gn .int o) λD=>dF V.aY λE=>dE ⟨C,D,E⟩
 |.tW,o=>dF V.aY λC=>dF (V.gn .int o) λD=>dE ⟨C,D⟩
 |.nX,o=>dF (V.gn .int o) λC=>dF V.aY λD=>dF V.qO λE=>dE ⟨C,D,E⟩
 |.dY,o=>Z5 o
 |.jW,o=>dF V.aY λC=>dF V.aY λD=>dE ⟨C,D⟩
 |.wF,o=>dF V.qO λC=>dF V.aY λD=>dF V.aY λE=>dE ⟨C,D,E⟩
 |.Power,o=>dF V.aY λC=>dF V.aY λD=>dF V.aY λE=>dE ⟨C,D,E⟩
 |.zI,o=>dF V.aY λC=>dF V.aY λD=>dE ⟨C,D⟩
 |.kE,o=>dF V.aY λC=>dF V.aY λD=>dF V.aY λE=>dE ⟨C,D,E⟩
 |.yp,o=>dF V.aY λC=>dF V.aY λD=>dF V.aY λE=>dE ⟨C,D,E⟩
 |.oH,o=>dF V.aY λC=>dF V.aY λD=>dF V.aY λE=>dF V.aY λI=>dF V.aY λO=>dF (V.gn .int o) λU=>dF V.aY λY=>dF V.aY λZ=>dE ⟨C,D,E,I,O,U,⟨Y,Z⟩⟩
 |.uW,o=>dF V.aY λC=>dF V.aY λD=>dF V.aY λE=>dF V.aY λI=>dF V.aY λO=>dF (V.gn .int o) λU=>dF V.aY λY=>dF V.aY λZ=>dF V.aY λx8=>dF V.aY λx9=>dF V.aY λzJ=>dF V.aY λzK=>dF V.aY λzL=>dF (V.gn .int o) λzM=>dF V.aY λzN=>dF V.aY λzO=>dF V.qO λzP=>dE ⟨⟨C,D,E,I,O,U,⟨Y,Z⟩⟩,⟨x8,x9,zJ,zK,zL,zM,⟨zN,zO⟩⟩,zP⟩
 |.Config,o=>dF V.aY λC=>dF V.aY λD=>dF V.aY λE=>dF V.aY λI=>dF V.aY λO=>dF V.aY λU=>dF V.aY λY=>dF V.aY λZ=>dF V.aY λx8=>dF V.aY λx9=>dF V.aY λzJ=>dF V.aY λzK=>dF V.aY λzL=>dF V.aY λzM=>dF V.aY λzN=>dF V.aY λzO=>dF V.aY λzP=>dF V.aY λIF=>dF V.aY λIG=>dF V.aY λII=>dF V.aY λSO=>dF V.aY λSP=>dF V.qO λSQ=>dF V.aY λSR=>dF V.aY λSS=>dF V.aY λSU=>dF V.aY λSV=>dF V.aY λSW=>dE ⟨⟨C,D,E,I⟩,⟨O,U,Y,Z,x8,x9,zJ,zK,zL,zM,zN,zO,zP,IF,IG,II,SO⟩,⟨SP,SQ⟩,SR,SS,SU,⟨SV,SW⟩⟩
 |.mw,o=>dF V.aY λC=>dF V.aY λD=>dF V.aY λE=>dF V.aY λI=>dE ⟨C,D,E,I⟩
 |.eU,o=>Z6 o
 |.Act,o=>dF V.aY λC=>dF V.aY λD=>dF V.aY λE=>dF V.aY λI=>dF V.qO λO=>dF V.aY λU=>dF V.aY λY=>dF V.aY λZ=>dF V.aY λx8=>dF V.aY λx9=>dF V.aY λzJ=>dF V.aY λzK=>dF V.aY λzL=>dF V.aY λzM=>dF V.aY λzN=>dF V.aY λzO=>dF V.aY λzP=>dF (V.gn .int o) λIF=>dF V.aY λIG=>dF V.aY λII=>dE ⟨C,⟨D,E,I,O,U,Y⟩,Z,x8,⟨x9,zJ,zK⟩,⟨zL,zM,zN,zO,zP,IF,⟨IG,II⟩⟩⟩
 |.Fact,o=>dF V.aY λC=>dF V.aY λD=>dF V.aY λE=>dE ⟨C,D,E⟩
 |.uX,o=>dF (V.gn .u8 o) λC=>dF V.aY λD=>dF V.aY λE=>dE ⟨C,D,E⟩
 |.sl t,o=>dF (V.gn t o) dE
 |.ID,o=>dF (V.cg true) λ_=>Z6 o
 |.C9 g,o=>dF (V.cg false) λ_=>dF (V.Fz g) λ_=>dF V.aY dE
 |.Da g,o=>dF (V.cg false) λ_=>dF (V.Fz g) λ_=>Z5 o
 |.Db g,o=>dF (V.cg false) λ_=>dF (V.Fz g) λ_=>Z3 o
 |.fnCommand g,o=>dF (V.cg false) λ_=>dF (V.Fz g) λ_=>Z4 o
def Z7:TC->Nat->aa V
 |.eU,o=>Fy ⟨⟨⟨0,0,0,0⟩,⟨0,0,0,0,0,0,0,0,0,0,0,0,0,0,0,0,0⟩,⟨0,false⟩,0,0,0,⟨0,0⟩⟩,⟨⟨0,0,0,0,0,[],⟨0,0⟩⟩,⟨0,0,0,0,0,[],⟨0,0⟩⟩,false⟩,0,⟨[],0⟩,⟨[],[]⟩,⟨[],[],[]⟩,⟨0,[]⟩,⟨[],0,false⟩,[],[],[],[],[],⟨false,0,0⟩,⟨0,0,0⟩,⟨0,0,0⟩,[],[],[]⟩ o
 |_,_=>[]
def mz(t:TC)(o:Nat)(x:T t):(enc t o x).length=aF t:=by cases t<;>rfl
def qP(t:TC):0<aF t:=by cases t<;>simp[aF]
def ajZ(t:TC)(o:Nat):DQ (enc t o) id (dec t o):=by
 cases t<;>dsimp only[dec]<;>(repeat' first|exact ajW rfl|refine Dc V.ajS λ_=>?_|refine Dc V.ajU λ_=>?_|refine Dc V.IE λ_=>?_|refine Dc V.ajV λ_=>?_|refine Dc V.ajT λ_=>?_|refine Dc V.ajX λ_=>?_|refine Dc V.ajY λ_=>?_)
def nY(t:TC)(o:Nat)(cs:aa V)(x:T t)(h:dec t o cs=some x):m9 cs (enc t o x):=by
 obtain⟨L,C,D⟩:=ajZ t o cs x h;rw[C];exact D
def V.low(n:Nat):V->Bool
 |.sl t _ _ _=>Nat.ble (full t+2) n
 |_=>true
def MW(t:TC)(o:Nat)(x:T t):∀ y∈enc t o x,y.low (full t)=true:=by
 cases t<;>simp[enc,V.low,full,Fv,Fw,Fx,Fy]
def V.plain:V->Bool
 |.int _ _|.bool _|.str _=>true
 |_=>false
def Bl(t:TC)(o:Nat)(x:T t)(h:full t=0):∀ y∈enc t o x,y.plain=true:=by
 cases t<;>first|(simp[full]at h;done)|simp[enc,V.plain,Fv,Fw,Fx]
def V.lP:V->Bool
 |.nil=>false
 |_=>true
def SX(t:TC)(o:Nat)(x:T t):∀ y∈enc t o x,y.lP=true:=by
 cases t<;>simp[enc,V.lP,Fv,Fw,Fx,Fy]
def tcs:aa TC:=[.int,.u8,.bool,.str,.sl .int,.sl .bool,.sl .str,.iq,.Addr,.yo,.Command,.oG,.rR,.nT,.Event,.sW,.Cell,.Array,.zH,.qe,.tW,.nX,.dY,.jW,.wF,.Power,.zI,.kE,.yp,.oH,.uW,.Config,.mw,.eU,.Act,.Fact,.uX]
def Z8(e:TypeId):ah TC:=tcs.find? λt=>Nat.beq (tid t) e
def aj0{e:TypeId}{t:TC}(h:Z8 e=some t):tid t=e:=c8 (List.find?_some (p:=λt=>Nat.beq (tid t) e) h)
def V.gr(o:Nat):V->Bool
 |.sl _ C _ _=>C==o
 |_=>true
def Bm(t:TC)(o:Nat)(x:T t):∀ y∈enc t o x,y.gr o=true:=by
 cases t<;>simp[enc,V.gr,Fv,Fw,Fx,Fy]
def V.aI:V->Bool
 |.sl _ o _ _=>decide (o<2)
 |_=>true
def V.ir:V->V
 |.sl t _ q l=>.sl t 0 q l
 |x=>x
def aj1(t:TC)(o:Nat)(x y:T t):(enc t o x).map (λv=>(v.plain,v.aI))=(enc t o y).map (λv=>(v.plain,v.aI)):=by cases t<;>rfl
def V.aj2(x:V):x.ir.aI=true:=by cases x<;>simp[V.ir,V.aI]
def sX(t:TC)(o:Nat)(x:T t)(C:o<2)(j:Nat)(y:V)(h:(enc t o x)[j]?=some y):y.aI=true:=by
 have:=Bm t o x y (iR h);cases y<;>simp_all [V.gr,V.aI]
def Z9(t:TC)(o:Nat)(x:T t):enc t 0 x=(enc t o x).map V.ir:=by cases t<;>rfl
def zR(t:TC)(o:Nat)(x:T t)(j:Nat)(y:V)(h:(enc t 0 x)[j]?=some y):∃ z,(enc t o x)[j]?=some z/\y=z.ir:=by
 rw[Z9 t o x,fz]at h
 grind
def inner:Nat->Nat
 |0=>0
 |1=>1
 |n+2=>n
abbrev bB:=Nat->ah (aa Nat)
inductive RV (w:World) (B:Nat) (af:bB):List Nat->V->Value->Prop
 |int (q:List Nat) (k:IntKind) (n:Int):RV w B af q (.int k n) (.int k n)
 |bool (q:List Nat) (b:Bool):RV w B af q (.bool b) (.bool b)
 |str (q:List Nat) (s:ByteArray):RV w B af q (.str s) (.string s)
 |nil (q:List Nat):RV w B af q .nil (.slice none 0 0)
 |fC (q:List Nat) (t:TC) (o:Nat):RV w B af q (.sl t o false []) (.slice none 0 0)
 |gF (q:List Nat) (t:TC) (o:Nat) (A:Addr) (c:Nat) (ho:o<2):RV w B af q (.sl t o false []) (.slice (some A) 0 c)
 |gO (q:List Nat) (t:TC) (o:Nat) (A:Addr) (c:Nat) (ho:o<2):RV w B af q (.sl t o true []) (.slice (some A) 0 c)
 | aI (q:List Nat) (t:TC) (o:Nat) (qn:Bool) (l:List (T t)) (b off cap:Nat) (u:Nat->Nat->Value) (ho:o<2) (hl:af b=none) (hb:b<w.heap.size) (h1:o=1->B<=b) (lQ:l.length<=cap)
   (hc:∀i (h:i<l.length) j x,(enc t o l[i])[j]?=some x->w.cell? ⟨b,off+(i*aF t+j),none⟩=some (u i j))
   (hr:∀i (h:i<l.length) j x,(enc t o l[i])[j]?=some x->RV w B af [] x (u i j)):RV w B af q (.sl t o qn l) (.slice (some ⟨b,off,none⟩) l.length cap)
 | own (q:List Nat) (t:TC) (o:Nat) (qn:Bool) (l:List (T t)) (b cap:Nat) (cs:Array Value) (u:Nat->Nat->Value) (hl:af b=some q) (hh:w.heap[b]?=some (.cells cs (tid t) (0,0)))
   (hs:cs.size=cap*aF t) (hn:l.length<=cap) (hm:cap<=maxLen/\(qn=true->cap=l.length))
   (hc:∀i (h:i<l.length) j x,(enc t o l[i])[j]?=some x->cs[i*aF t+j]?=some (u i j))
   (hr:∀i (h:i<l.length) j x,(enc t o l[i])[j]?=some x->RV w B af (j::i::aF t::q) x (u i j)):RV w B af q (.sl t (o+2) qn l) (.slice (some ⟨b,0,none⟩) l.length cap)
section
variable {w w':World} {B:Nat} {af aC:bB}
def V.IJ(n:Nat):V->V
 |.sl t _ q l=>.sl t n q l
 |x=>x
def aj3(t:TC)(o n:Nat)(x:T t):enc t n x=(enc t o x).map (V.IJ n):=by cases t<;>rfl
def V.fu(n:Nat):V->Prop
 |.sl t o _ _=>full t+2<=o/\full t+2<=n
 |_=>True
def RV.IJ{q:aa Nat}{x:V}{v:Value}(h:RV w B af q x v):∀ n,x.fu n -> RV w B af q (x.IJ n) v:=by
 induction h with
 |int=>exact λ_ _=>.int _ _ _
 |bool=>exact λ_ _=>.bool _ _
 |str=>exact λ_ _=>.str _ _
 |nil=>exact λ_ _=>.nil _
 |fC=>exact λ_ _=>.fC _ _ _
 |gF q t o A c I=>exact λn C=>by have:=C.1;omega
 |gO q t o A c I=>exact λn C=>by have:=C.1;omega
 |aI q t o O l b off cap u I hl hb T lQ U Y Z=>exact λn C=>by have:=C.1;omega
 | own q t o O l b cap cs u hl hh hs C hm U Y Z=>
  intro n hf;obtain⟨T,h2⟩:=hf;obtain⟨m,rfl⟩:∃m,n=m+2:=⟨n-2,by omega⟩
  have key:∀ (i:Nat) (h:i<l.length) (j:Nat) (x:V),(enc t m l[i])[j]?=some x -> ∃ y:V,(enc t o l[i])[j]?=some y/\y.IJ m=x/\y.fu m:=by
   intro i h j x D;rw[aj3 t o m l[i],fz]at D;cases E:(enc t o l[i])[j]? with
   |none=>simp_all
   | some y=>
    rw[E]at D;injection D with D;refine⟨y,rfl,D,?_⟩;have g1:=Bm t o l[i] y (iR E);have g2:=MW t o l[i] y (iR E);cases y with
    | sl t' o' q' l'=>
     have e:o'=o:=by simpa [V.gr]using g1
     have:=cH (show Nat.ble _ _=true from g2);exact⟨by omega,by omega⟩
    |_=>trivial
  refine .own _ _ _ _ _ _ _ cs u hl hh hs C hm (λi h j x D=>?_) (λi h j x D=>?_)
  ·grind
  ·grind
def RV.wk{q:aa Nat}{x y:V}{v:Value}(h:RV w B af q x v)(k:Wk x y):RV w B af q y v:=by
 cases k with
 |same=>exact h
 |nil t o=>cases h;exact .fC _ _ _
 | gr t o o' I l O h2=>
  have h:=h.IJ o ⟨h2,O⟩;cases h with
  |fC=>exact .fC _ _ _
  |gF q t o A c C=>grind
  |gO q t o A c C=>grind
  |aI q t o I l b off cap u C hl hb O lQ D E=>grind
  |own q t o I l b cap cs u hl T U Y Z D E=>exact .own _ _ _ _ _ _ _ cs u hl T U Y ⟨Z.1,λh=>by cases h⟩ D E
 | q t o l=>
  cases h with
  |gO q t o A c C=>exact .gF _ _ _ _ _ C
  |aI q t o I l b off cap u C hl hb O lQ D E=>exact .aI _ _ _ _ _ _ _ _ u C hl hb O lQ D E
  |own q t o I l b cap cs u hl T U Y Z D E=>exact .own _ _ _ _ _ _ _ cs u hl T U Y ⟨Z.1,λh=>by cases h⟩ D E
def RV.map{Q:aa Nat->aa Nat->Prop}(Z:w.heap.size<=w'.heap.size)(h0:∀ b,b<w.heap.size->af b=none->w'.heap[b]?=w.heap[b]?/\aC b=none)
  (h1:∀b q C,b<w.heap.size->af b=some q->Q q C->w'.heap[b]?=w.heap[b]?/\aC b=some C/\∀j i s,Q (j::i::s::q) (j::i::s::C)) {q C:aa Nat} {x:V} {v:Value} (h:RV w B af q x v) (hq:x.aI=true\/Q q C):RV w' B aC C x v:=by
 induction h generalizing C with
 |int=>exact .int _ _ _
 |bool=>exact .bool _ _
 |str=>exact .str _ _
 |nil=>exact .nil _
 |fC=>exact .fC _ _ _
 |gF _ _ _ _ _ D=>exact .gF _ _ _ _ _ D
 |gO _ _ _ _ _ D=>exact .gO _ _ _ _ _ D
 | aI q t o qn l b off cap u D hl hb h1' lQ I hr O=>
  obtain⟨T,U⟩:=h0 b hb hl;exact .aI _ _ _ _ _ _ _ _ u D U (Nat.lt_of_lt_of_le hb Z) h1' lQ (λi h j x E=>(World.cell?_of_block (a:=⟨b,_,none⟩) T).trans (I i h j x E)) (λi h j x E=>O i h j x E (.inl (sX t o l[i] D j x E)))
 | own q t o qn l b cap cs u hl Y hs hn hm I hr O=>
  obtain⟨T,U,e3⟩:=h1 b q C (jH.1 Y).1 hl (hq.resolve_left (by simp[V.aI]));exact .own _ _ _ _ _ _ _ cs u U (T.trans Y) hs hn hm I (λi h j x E=>O i h j x E (.inr (e3 _ _ _)))
def RV.aaa{q C:aa Nat}{x:V}{v:Value}(h:RV w B af q x v)(D:x.aI=true)(hl:∀ b,af b=none->aC b=none):RV w B aC C x v:=
 h.map (Q:=λ_ _=>False) (dg _) (λb _ h=>⟨rfl,hl b h⟩) (λ_ _ _ _ _ h=>h.elim) (.inl D)
def RV.MX{q:aa Nat}{x:V}{v:Value}(h:RV w B af q x v)(C:x.aI=true)(hl:∀b,af b=none->aC b=none):RV w B aC q x v:=h.aaa C hl
def RV.key{q C:aa Nat}{x:V}{v:Value}(h:RV w B af q x v)(D:x.aI=true):RV w B af C x v:=h.aaa D λ_ h=>h
def oI:Value->Bool
 |.slice ..=>true
 |_=>false
def RV.SY{q:aa Nat}{x:V}{u:Value}(h:RV w B af q x u)(C:x.aI=false):oI u=true:=by
 cases h<;>first|rfl|cases C
def RV.one{q:aa Nat}{x:V}{u:Value}(h:RV w B af q x u):u.oneCell'=true:=by
 cases h<;>rfl
def RV.kF{q:aa Nat}{x:V}{v:Value}(h:RV w B af q x v)(D:w.heap.size<=w'.heap.size)(C:∀ b,b<w.heap.size->w'.heap[b]?=w.heap[b]?/\aC b=af b):RV w' B aC q x v:=
 h.map (Q:=Eq) D (λb hb hl=>⟨(C b hb).1,(C b hb).2.trans hl⟩) (λb q E hb hl e=>by subst e;exact⟨(C b hb).1,(C b hb).2.trans hl,λ_ _ _=>rfl⟩) (.inr rfl)
def RV.apart{q kt:aa Nat}{x:V}{v:Value}{bt:Nat}(h:RV w B af q x v)(C:af bt=some kt)(I:¬ q <:+ kt\/x.aI=true)(O:w.heap.size<=w'.heap.size)(D:∀ b,b≠bt->w'.heap[b]?=w.heap[b]?):RV w' B af q x v:=
 h.map (Q:=λq E=>q=E/\¬ q <:+ kt) O (λb _ hl=>⟨D b (by rintro rfl;rw[hl]at C;cases C),hl⟩) (λb q E _ hl e=>by
  obtain⟨rfl,e⟩:=e;exact⟨D b (by rintro rfl;rw[hl]at C;injection C with C;subst C;exact e (List.suffix_refl _)),hl,λj i s=>⟨rfl,λT=>e (List.IsSuffix.trans ⟨[j,i,s],rfl⟩ T)⟩⟩) (I.symm.imp_right λh=>⟨rfl,h⟩)
def RV.ir{q E:aa Nat}{x:V}{v:Value}(h:RV w B af q x v){B':Nat}:RV w B' (λ_=>none) E x.ir v:=by
 induction h generalizing E with
 |int=>exact .int _ _ _
 |bool=>exact .bool _ _
 |str=>exact .str _ _
 |nil=>exact .nil _
 |fC=>exact .fC _ _ _
 |gF=>exact .gF _ _ _ _ _ (by first|assumption|omega)
 |gO=>exact .gO _ _ _ _ _ (by first|assumption|omega)
 | aI q t o T l b off cap u ho hl hb h1 U I Y Z=>
  refine .aI _ _ _ _ _ _ _ _ u (by omega) rfl hb (by omega) U (λi h j x C=>?_) (λi h j x C=>?_)
  ·obtain⟨y,D,_⟩:=zR t o l[i] j x C;simp_all
  ·obtain⟨y,D,rfl⟩:=zR t o l[i] j x C;simp_all
 | own q t o T l b cap cs u hl O hs hn hm I Y Z=>
  refine .aI _ _ _ _ _ _ _ _ u (by omega) rfl (jH.1 O).1 (by omega) hn (λi h j x C=>?_) (λi h j x C=>?_)
  ·obtain⟨y,D,_⟩:=zR t o l[i] j x C;have:=I i h j y D;rw[gy,cell_of_row w b _ cs _ _ O];exact this
  ·obtain⟨y,D,rfl⟩:=zR t o l[i] j x C;simp_all
end
set_option linter.unusedVariables false
inductive Lf where
 |v (x:V)
 |own (k:List Nat)
 |dead
inductive A where
 |undef
 |skip
 |lf (x:Lf)
 |agg (cs:List Lf)
 |fX (xs:List (Bool×List Lf))
 |ptr (k:List Nat)
 |aL (r j:Nat)
 |kG (cs:List V)
 |qf (f:Nat) (cs:List V)
 |pk (r n:Nat)
 |view (k:List Nat) (s i j:Nat)
 |fn (f:Nat) (cap:List (Nat×Nat))
inductive aU where
 |aD (cs:List Lf)
 |sl (y:V)
 |mp (l:List (Int×Bool))
 |gh (xs:List A)
structure S where
 t:Nat->A
 m:Nat->Option aU
inductive Loc where
 |aD (b off:Nat)
 |dP (v:Value)
 |bJ (us:List Value)
def addrAt(w:World)(af:bB)(ρ:Nat->Loc):aa Nat->ah Addr
 | j :: i :: s :: [r]=>match ρ r with
  |.dP (.slice (some ⟨b,0,none⟩) _ _)=>if af b=some [r]then some ⟨b,i*s+j,none⟩else none
  |_=>none
 | j :: i :: s :: q=>match (addrAt w af ρ q).bind w.cell? with
  |some (.slice (some ⟨b,0,none⟩) _ _)=>if af b=some q then some ⟨b,i*s+j,none⟩else none
  |_=>none
 |_=>none
def de(w:World)(af:bB)(ρ:Nat->Loc):aa Nat->ah Value
 | [r]=>match ρ r with
  |.dP v=>some v
  |_=>none
 |q=>(addrAt w af ρ q).bind w.cell?
def eE(w:World)(B:Nat)(af:bB)(ρ:Nat->Loc):Lf->Value->Prop
 |.v x,u=>x.aI=true/\RV w B af [] x u
 |.own k,u=>oI u=true/\de w af ρ k=some u
 |.dead,_=>True
def fG(w:World)(B:Nat)(af:bB)(ρ:Nat->Loc)(cs:aa Lf)(us:Array Value):Prop:=
 us.size=cs.length/\∀(j:Nat) x,cs[j]?=some x->∃u,us[j]?=some u/\eE w B af ρ x u
def RP(w:World)(B:Nat)(af:bB)(ρ:Nat->Loc)(p:Bool×aa Lf)(u:Value):Prop:=
 match p with
 |(true,cs)=>∃us,u = .agg us/\fG w B af ρ cs us
 |(false,cs)=>fG w B af ρ cs #[u]
def tX:Nat:=4294967296
def MY(b n:Nat):Value:=bif Nat.beq n tX then .map (some b)else .slice (some ⟨b,0,none⟩) n n
def SZ{b n:Nat}(h:n<tX):MY b n = .slice (some ⟨b,0,none⟩) n n:=by
 unfold MY;cases hb:Nat.beq n tX with
 |true=>simp_all
 |false=>rfl
def S0(b:Nat):MY b tX = .map (some b):=rfl
def RF(w:World)(B:Nat)(af:bB)(cs:aa V)(u:Value):Prop:=
 ∃b off,u = .pointer (some ⟨b,off,none⟩)/\b<w.heap.size/\af b=none/\∀(j:Nat) x,cs[j]?=some x->x.aI=true/\∃v,w.cell? ⟨b,off+j,none⟩=some v/\RV w B af [] x v
def RA(w:World)(B:Nat)(af:bB)(ρ:Nat->Loc):A->Value->Prop
 |.undef,_=>True
 |.skip,u=>u=Go.undef
 |.lf x,u=>eE w B af ρ x u
 |.agg cs,u=>RP w B af ρ (true,cs) u
 |.fX xs,u=>∃us:Array Value,u = .tuple us/\us.size=xs.length/\∀(j:Nat) p,xs[j]?=some p->∃v,us[j]?=some v/\RP w B af ρ p v
 |.ptr k,u=>∃ad,u = .pointer (some ad)/\addrAt w af ρ k=some ad
 |.aL r j,u=>∃b off,ρ r = .aD b off/\u = .pointer (some ⟨b,off+j,none⟩)
 |.kG cs,u=>RF w B af cs u
 |.qf f cs,u=>∃pv,u = .func (.func f) #[] #[pv]/\RF w B af cs pv
 |.pk r n,u=>∃b,ρ r = .aD b 0/\u=MY b n
 |.view k s i j,u=>∃A n c,de w af ρ k=some (.slice A n c)/\i<=j/\j<=n/\u=sliced A i j c s
 |.fn f cap,u=>∃C:Array Value,u = .func (.func f) #[] C/\C.size=cap.length/\∀(j:Nat) p,cap[j]?=some p->∃b off,ρ p.1 = .aD b off/\C[j]?=some (.pointer (some ⟨b,off+p.2,none⟩))
inductive eV (w:World) (B:Nat) (af:bB) (ρ:Nat->Loc) (r:Nat):aU->Prop
 | aD (b off:Nat) (cells:Array Value) (e:TypeId) (cs:List Lf) (us:Nat->Value) (cv:ρ r = .aD b off) (hl:af b=some [r]) (hh:w.heap[b]?=some (.cells cells e (0,0))) (hs:off+cs.length<=cells.size)
   (hc:∀(j:Nat) x,cs[j]?=some x->cells[off+j]?=some (us j)/\eE w B af ρ x (us j)):eV w B af ρ r (.aD cs)
 |sl (v:Value) (y:V) (cv:ρ r = .dP v) (hr:RV w B af [r] y v):eV w B af ρ r (.sl y)
 |mp (b clock:Nat) (es:Array MapEntry) (l:List (Int×Bool)) (cv:ρ r = .aD b 0) (hl:af b=some [r]) (hh:w.heap[b]?=some (.map es clock)) (he:es.toList.map (λe=>(e.key,e.val))=l.map λp=>(.int .i64 p.1,.bool p.2)):eV w B af ρ r (.mp l)
 |gh (us:List Value) (xs:List A) (cv:ρ r = .bJ us) (hx:∀(j:Nat) x,xs[j]?=some x->RA w B af ρ x (us.getD j undef)):eV w B af ρ r (.gh xs)
def Qw(_:World):Prop:=True
structure aj4 (n:Nat) (L:bB) (w w':World):Prop where
 os:w'.os=w.os
 tape:w'.tape=w.tape
 output:w'.output=w.output
 size:w.heap.size<=w'.heap.size
 block:∀k,k<n->L k=none->w'.heap[k]?=w.heap[k]?
def Hd(w:World)(L:bB):Prop:=∀w',aj4 w.heap.size L w w'->Qw w'
def aj5(w:World)(L:bB):Hd w L:=λ_ _=>trivial
structure Wd where
 w:World
 L:bB
 F:Nat->Option Loc
 held:Hd w L
 low:∀r,r<20000->F r=none
def Wd.heap(d:Wd):Array Obj:=d.w.heap
def Wd.of(w:World)(h:Hd w λ_=>none):Wd:=⟨w,λ_=>none,λ_=>none,h,λ_ _=>rfl⟩
structure kH (d:Wd) (w w':World):Prop where
 os:w'.os=w.os
 tape:w'.tape=w.tape
 output:w'.output=w.output
 size:w.heap.size<=w'.heap.size
 block:∀k,k<d.heap.size->d.L k=none->w'.heap[k]?=w.heap[k]?
def kH.trans{d:Wd}{a b c:World}(h:kH d a b)(k:kH d b c):kH d a c:=
 ⟨k.os.trans h.os,k.tape.trans h.tape,k.output.trans h.output,Nat.le_trans h.size k.size,λi hi hl=>(k.block i hi hl).trans (h.block i hi hl)⟩
def Wd.on(d:Wd){w:World}(h:kH d d.w w){L:bB}(D:∀ b k,L b=some k->d.heap.size<=b\/d.L b≠none):Hd w L:=λw' hb=>
 d.held w' ⟨hb.os.trans h.os,hb.tape.trans h.tape,hb.output.trans h.output,Nat.le_trans h.size hb.size,λk C hl=>by
  have e:L k=none:=by
   cases e:L k with
   |none=>rfl
   | some q=>
    rcases D k q e with h1|h1
    ·exact absurd C (Nat.not_lt.2 h1)
    ·exact absurd hl h1
  exact(hb.block k (Nat.lt_of_lt_of_le C h.size) e).trans (h.block k C hl)⟩
def kH.of{d:Wd}{a b:World}{B:Nat}(h:Below B a b)(hB:d.heap.size<=B):kH d a b:=
 ⟨h.os,h.tape,h.output,h.size,λi hi _=>h.block i (Nat.lt_of_lt_of_le hi hB)⟩
structure Rl (w0:Wd) (N:Nat) (af:bB) (ρ:Nat->Loc) (σ:S) (a:Act) (w:World):Prop where
 below:kH w0 w0.w w
 dj:∀b k,af b=some k->(w0.heap.size<=b\/w0.L b≠none)/\b<w.heap.size/\k≠[]
 root:∀r x,σ.m r=some x->eV w w0.heap.size af ρ r x
 tmp:∀k,RA w w0.heap.size af ρ (σ.t k) (a.tmps.getD k undef)
 size:a.tmps.size=N
 defers:a.defers=[]
 fix:∀r l,w0.F r=some l->ρ r=l
 cT:∀r,(r<N\/60000<=r)->w0.F r=none
def R(w0:Wd)(N:Nat)(σ:S)(a:Act)(w:World):Prop:=∃af ρ,Rl w0 N af ρ σ a w
/-! Reading along a key. -/
inductive zS (m:Nat->Option aU):List Nat->V->Prop
 |root (r:Nat) (y:V) (h:m r=some (.sl y)):zS m [r] y
 |elem (j i:Nat) (q:List Nat) (t:TC) (o:Nat) (qn:Bool) (l:List (T t)) (y:V) (h:zS m q (.sl t (o+2) qn l)) (hi:i<l.length) (hy:(enc t o l[i])[j]?=some y):zS m (j::i::aF t::q) y
section
variable {w w':World} {w0:Wd} {B N:Nat} {af aC:bB} {ρ ρ':Nat->Loc} {m:Nat->ah aU} {σ:S} {a:Act}
def Dd{q:aa Nat}(j i s:Nat){b n c:Nat}(h:de w af ρ q=some (.slice (some ⟨b,0,none⟩) n c))(hl:af b=some q):addrAt w af ρ (j :: i :: s :: q)=some ⟨b,i*s+j,none⟩:=by
 match q,h,hl with
 | [r],h,hl=>
  simp[de]at h;simp[addrAt]
  grind
 | x :: y :: q,h,hl=>
  simp[de]at h;simp[addrAt,h,hl,if_true]
def MZ{j i s:Nat}{q:aa Nat}:de w af ρ (j::i::s::q)=(addrAt w af ρ (j::i::s::q)).bind w.cell?:=rfl
def zS.ok{k:aa Nat}{y:V}(h:zS m k y)(D:∀ r x,m r=some x -> eV w B af ρ r x):∃ u,de w af ρ k=some u/\RV w B af k y u:=by
 induction h with
 | root r y h=>
  cases D _ _ h with
  |sl v y E C=>exact⟨v,by simp[de,E],C⟩
 | elem j i q t o Y l y h hi I O=>
  obtain⟨u,T,C⟩:=O;cases C with
  |fC=>simp at hi
  |gF=>simp at hi
  |gO=>simp at hi
  |aI _ _ _ _ _ _ _ _ _ Z=>omega
  | own _ _ _ _ _ b cap cs us hl U hs hn D hc C=>
   refine⟨us i j,?_,C i hi j y I⟩;rw[MZ,Dd j i _ T hl];show w.cell? _=_;rw[cell_of_row w b _ cs _ _ U];simp_all
def De:∀ (k:aa Nat) (ad:Addr),addrAt w af ρ k=some ad -> ∃ j i s q,k=j :: i :: s :: q/\af ad.block=some q/\ad.off=i*s+j/\ad.spot=none/\(∀ r,q=[r] -> ∃ v,ρ r = .dP v)
 |[],_,h=>by simp[addrAt]at h
 | [j,i,s,r],ad,h=>by
  simp only[addrAt]at h
  grind
 | j :: i :: s :: x :: y :: q,ad,h=>by
  simp only[addrAt]at h
  grind
/-! What is forgotten: keys of leaves,of addresses,roots. -/
structure qg where
 l:List Nat->Bool
 p:List Nat->Bool
 r:Nat->Bool
def Lf.cy(f:aa Nat->Bool):Lf->Lf
 |.own k=>bif f k then .dead else .own k
 |x=>x
def A.cy(K:qg):A->A
 |.lf x=>.lf (x.cy K.l)
 |.agg cs=>.agg (cs.map (Lf.cy K.l))
 |.fX xs=>.fX (xs.map λp=>(p.1,p.2.map (Lf.cy K.l)))
 |.ptr k=>bif K.p k then .undef else .ptr k
 |.aL r j=>bif K.r r then .undef else .aL r j
 |.pk r n=>bif K.r r then .undef else .pk r n
 |.view k s i j=>bif K.p k then .undef else .view k s i j
 |.fn f cap=>bif cap.any (λp=>K.r p.1)then .undef else .fn f cap
 |x=>x
def aU.cy(K:qg):aU->aU
 |.aD cs=>.aD (cs.map (Lf.cy K.l))
 |.gh xs=>.gh (xs.map (A.cy K))
 |x=>x
/-! What names nothing that is forgotten. -/
def Lf.fr(f:aa Nat->Bool):Lf->Bool
 |.own k=>!f k
 |_=>true
def A.fr(K:qg):A->Bool
 |.lf x=>x.fr K.l
 |.agg cs=>cs.all (Lf.fr K.l)
 |.fX xs=>xs.all λq=>q.2.all (Lf.fr K.l)
 |.ptr k=>!K.p k
 |.aL r _=>!K.r r
 |.pk r _=>!K.r r
 |.view k _ _ _=>!K.p k
 |.fn _ cap=>cap.all λq=>!K.r q.1
 |_=>true
def Lf.rS{f:aa Nat->Bool}{x:Lf}(h:x.fr f=true):x.cy f=x:=by
 cases x with
 |own k=>simp only[Lf.cy,show f k=false by simpa [Lf.fr]using h,ax]
 |_=>rfl
def tY.rS{f:aa Nat->Bool}{cs:aa Lf}(h:cs.all (Lf.fr f)=true):cs.map (Lf.cy f)=cs:=
 (rP λx C=>Lf.rS (cm.1 h x C)).trans (List.map_id cs)
def A.rS{K:qg}{x:A}(h:x.fr K=true):x.cy K=x:=by
 cases x with
 |lf x=>exact bE A.lf (Lf.rS h)
 |agg cs=>exact bE A.agg (tY.rS h)
 |fX xs=>exact bE A.fX ((rP λq C=>by rw[tY.rS (cm.1 h q C)];rfl).trans (List.map_id xs))
 |ptr k=>simp only[A.cy,show K.p k=false by simpa [A.fr]using h,ax]
 |view k=>simp only[A.cy,show K.p k=false by simpa [A.fr]using h,ax]
 |aL r=>simp only[A.cy,show K.r r=false by simpa [A.fr]using h,ax]
 |pk r=>simp only[A.cy,show K.r r=false by simpa [A.fr]using h,ax]
 |fn f cap=>simp only[A.cy,show (cap.any λp=>K.r p.1)=false from jV.2 λp D=>by simpa using cm.1 h p D,ax]
 |_=>rfl
def Lf.uY{f g:aa Nat->Bool}(hl:∀ k,f k=true->g k=true){x:Lf}(h:x.fr g=true):x.fr f=true:=by
 cases x with
 | own k=>
  have h:(!g k)=true:=h;show (!f k)=true;cases C:f k with
  |false=>rfl
  |true=>rw[hl k C]at h;cases h
 |_=>rfl
def A.uY{K J:qg}(hl:∀ k,K.l k=true->J.l k=true)(I:∀ k,K.p k=true->J.p k=true)(O:∀ r,K.r r=true->J.r r=true){x:A}(h:x.fr J=true):x.fr K=true:=by
 have C:∀r,(!J.r r)=true->(!K.r r)=true:=λr h=>Lf.uY (x:=.own []) (f:=λ_=>K.r r) (λ_=>O r) h
 cases x with
 |lf x=>exact Lf.uY hl h
 |agg cs=>exact cm.2 λc D=>Lf.uY hl (cm.1 h c D)
 |fX xs=>exact cm.2 λq E=>cm.2 λc D=>Lf.uY hl (cm.1 (cm.1 h q E) c D)
 |ptr k=>exact Lf.uY (x:=.own k) I h
 |view k=>exact Lf.uY (x:=.own k) I h
 |aL r=>exact C r h
 |pk r=>exact C r h
 |fn f cap=>exact cm.2 λq E=>C _ (cm.1 h q E)
 |_=>rfl
def Lf.rT(x:Lf)(f g:aa Nat->Bool):(x.cy f).cy g=(x.cy g).cy f:=by
 cases x with
 |own k=>cases C:f k<;>cases D:g k<;>simp[Lf.cy,C,D]
 |_=>rfl
def tY.rT(cs:aa Lf)(f g:aa Nat->Bool):(cs.map (Lf.cy f)).map (Lf.cy g)=(cs.map (Lf.cy g)).map (Lf.cy f):=by
 rw[List.map_map,List.map_map];exact rP λx _=>Lf.rT x f g
def A.rT(x:A)(K J:qg):(x.cy K).cy J=(x.cy J).cy K:=by
 cases x with
 |lf x=>exact bE A.lf (Lf.rT x _ _)
 |agg cs=>exact bE A.agg (tY.rT cs _ _)
 | fX xs=>
  refine bE A.fX ?_;rw[List.map_map,List.map_map];exact rP λq _=>bE (Prod.mk q.1) (tY.rT q.2 _ _)
 |ptr k=>cases C:K.p k<;>cases D:J.p k<;>simp[A.cy,C,D]
 |view k=>cases C:K.p k<;>cases D:J.p k<;>simp[A.cy,C,D]
 |aL r=>cases C:K.r r<;>cases D:J.r r<;>simp[A.cy,C,D]
 |pk r=>cases C:K.r r<;>cases D:J.r r<;>simp[A.cy,C,D]
 |fn f cap=>cases C:(cap.any λp=>K.r p.1)<;>cases D:(cap.any λp=>J.r p.1)<;>simp only[A.cy,C,D,av,ax]
 |_=>rfl
def aU.rT(x:aU)(K J:qg):(x.cy K).cy J=(x.cy J).cy K:=by
 cases x with
 |aD cs=>exact bE aU.aD (tY.rT cs _ _)
 | gh xs=>
  refine bE aU.gh ?_;rw[List.map_map,List.map_map];exact rP λx _=>A.rT x K J
 |_=>rfl
def cV(d:Nat)(k:aa Nat):Bool:=k.getLast?==some d
def zU(d:Nat):qg:=⟨cV d,cV d,λr=>Nat.beq r d⟩
def Lf.drop(d:Nat):Lf->Lf:=Lf.cy (cV d)
def A.drop(d:Nat):A->A:=A.cy (zU d)
def aU.drop(d:Nat):aU->aU:=aU.cy (zU d)
def jX(c:Nat->Bool)(k:aa Nat):Bool:=match k.getLast? with
 |some r=>c r
 |none=>false
structure Tr (w w':World) (af aC:bB) (ρ ρ':Nat->Loc) (t:List Nat->Bool) (c:Nat->Bool):Prop where
 size:w.heap.size<=w'.heap.size
 no:∀b,b<w.heap.size->af b=none->w'.heap[b]?=w.heap[b]?/\aC b=none
 so:∀b k,af b=some k->t k=false->w'.heap[b]?=w.heap[b]?/\aC b=some k
 fY:∀r,c r=false->ρ' r=ρ r
 up:∀j i s x q,t (j::i::s::x::q)=t (x::q)
 ne:∀b,af b=some []->∀k,t k=false
structure qg.OK (K:qg) (t:List Nat->Bool) (c:Nat->Bool):Prop where
 l:∀k,K.l k=false->(k.length=1\/t k=false)/\jX c k=false
 p:∀k,K.p k=false->t k=false/\jX c k=false
 r:∀r,K.r r=false->c r=false
section
variable {t:aa Nat->Bool} {c:Nat->Bool} {K:qg}
def RV.tr(T:Tr w w' af aC ρ ρ' t c){q:aa Nat}{x:V}{v:Value}(h:RV w B af q x v)(D:x.aI=true\/t q=false):RV w' B aC q x v:=
 h.map (Q:=λq C=>q=C/\t q=false) T.size T.no (λb q C _ hl e=>by
  obtain⟨rfl,e⟩:=e;exact⟨(T.so b q hl e).1,(T.so b q hl e).2,λj i s=>⟨rfl,by
   cases q with
   |nil=>exact T.ne b hl _
   |cons x q=>rw[T.up];exact e⟩⟩) (D.imp_right λh=>⟨rfl,h⟩)
def M0(j i s x:Nat)(q:aa Nat):jX c (j::i::s::x::q)=jX c (x::q):=by simp[jX,List.getLast?_cons_cons]
def S1(T:Tr w w' af aC ρ ρ' t c):∀ (k:aa Nat) (ad:Addr),t k=false->jX c k=false->addrAt w af ρ k=some ad->addrAt w' aC ρ' k=some ad
 |[],_,_,_,h=>by simp[addrAt]at h
 |[_],_,_,_,h=>by simp[addrAt]at h
 |[_,_],_,_,_,h=>by simp[addrAt]at h
 |[_,_,_],_,_,_,h=>by simp[addrAt]at h
 | [j,i,s,r],_,C,D,h=>by
  rw[T.up]at C;rw[M0]at D;simp only[addrAt]at h ⊢;rw[T.fY r D];split at h
  ·split at h
   next hl=>rw[aV (T.so _ _ hl C).2];exact h
   ·cases h
  ·cases h
 | j :: i :: s :: x :: y :: q,ad,C,D,h=>by
  rw[T.up]at C;rw[M0]at D;simp only[addrAt]at h ⊢;cases E:addrAt w af ρ (x::y::q)with
  |none=>rw[E]at h;cases h
  | some U=>
   rw[S1 T _ _ C D E];rw[E]at h;cases I:w.cell? U with
   |none=>simp[I]at h
   | some v=>
    obtain⟨Z,i',s',O,hk,Y,_,_⟩:=De _ _ E;have uZ:t O=false:=by
     cases O with
     |nil=>exact T.ne _ Y _
     |cons z O=>rw[<-T.up Z i' s',<-hk];exact C
    have e:w'.cell? U=some v:=(World.cell?_of_block (T.so _ _ Y uZ).1).trans I;simp only[Option.bind_some,I]at h;simp only[Option.bind_some,e];split at h
    ·split at h
     next hl=>rw[aV (T.so _ _ hl C).2];exact h
     ·cases h
    ·cases h
def S2(T:Tr w w' af aC ρ ρ' t c)(k:aa Nat)(u:Value)(C:k.length=1\/t k=false)(D:jX c k=false)(h:de w af ρ k=some u):de w' aC ρ' k=some u:=by
 match k,C,D,h with
 |[],_,_,h=>simp[de,addrAt]at h
 | [r],_,D,h=>
  simp only[de]at h ⊢;rw[T.fY r D];exact h
 | x :: y :: q,C,D,h=>
  have C:t (x::y::q)=false:=C.resolve_left (by simp);simp only[de]at h ⊢;cases E:addrAt w af ρ (x::y::q)with
  |none=>rw[E]at h;cases h
  | some ad=>
   rw[S1 T _ _ C D E];rw[E]at h;have h:w.cell? ad=some u:=h;obtain⟨U,Y,Z,I,hk,O,_,_⟩:=De _ _ E;have uZ:t I=false:=by
    cases I with
    |nil=>exact T.ne _ O _
    |cons z I=>rw[<-T.up U Y Z,<-hk];exact C
   exact(World.cell?_of_block (T.so _ _ O uZ).1).trans h
def eE.tr(T:Tr w w' af aC ρ ρ' t c)(C:K.OK t c){x:Lf}{u:Value}(h:eE w B af ρ x u):eE w' B aC ρ' (x.cy K.l) u:=by
 cases x with
 |v x=>exact⟨h.1,h.2.tr T (.inl h.1)⟩
 |dead=>trivial
 | own k=>
  show eE w' B aC ρ' (bif K.l k then .dead else .own k) u;cases hl:K.l k with
  |true=>trivial
  |false=>exact⟨h.1,S2 T k u (C.l k hl).1 (C.l k hl).2 h.2⟩
def fG.tr(T:Tr w w' af aC ρ ρ' t c)(D:K.OK t c){cs:aa Lf}{us:Array Value}(h:fG w B af ρ cs us):fG w' B aC ρ' (cs.map (Lf.cy K.l)) us:=by
 refine⟨by rw[fN];exact h.1,λj x C=>?_⟩
 rw[fz]at C;obtain⟨y,E,rfl⟩:=Option.map_eq_some_iff.1 C;obtain⟨u,I,r⟩:=h.2 j y E;exact⟨u,I,r.tr T D⟩
def RP.tr(T:Tr w w' af aC ρ ρ' t c)(C:K.OK t c){p:Bool×aa Lf}{u:Value}(h:RP w B af ρ p u):RP w' B aC ρ' (p.1,p.2.map (Lf.cy K.l)) u:=by
 obtain⟨b,cs⟩:=p;cases b with
 |true=>obtain⟨us,e,h⟩:=h;exact⟨us,e,h.tr T C⟩
 |false=>exact fG.tr T C h
def RF.tr(T:Tr w w' af aC ρ ρ' t c){cs:aa V}{u:Value}(h:RF w B af cs u):RF w' B aC cs u:=by
 obtain⟨b,off,e,hb,hl,h⟩:=h;obtain⟨D,E⟩:=T.no b hb hl
 refine⟨b,off,e,Nat.lt_of_lt_of_le hb T.size,E,λj x I=>?_⟩
 obtain⟨C,v,O,U⟩:=h j x I;exact⟨C,v,(World.cell?_of_block (a:=⟨b,_,none⟩) D).trans O,U.tr T (.inl C)⟩
def RA.tr(T:Tr w w' af aC ρ ρ' t c)(C:K.OK t c){x:A}{u:Value}(h:RA w B af ρ x u):RA w' B aC ρ' (x.cy K) u:=by
 cases x with
 |undef=>trivial
 |skip=>exact h
 |lf x=>exact eE.tr T C h
 |agg cs=>exact RP.tr T C (p:=(true,cs)) h
 | fX xs=>
  obtain⟨us,e,E,h⟩:=h
  refine⟨us,e,by rw[fN];exact E,λj p D=>?_⟩
  rw[fz]at D;obtain⟨y,I,rfl⟩:=Option.map_eq_some_iff.1 D;obtain⟨v,O,r⟩:=h j y I;exact⟨v,O,r.tr T C⟩
 | ptr k=>
  simp only[A.cy];cases hl:K.p k with
  |true=>trivial
  |false=>obtain⟨ad,e,h⟩:=h;exact⟨ad,e,S1 T k ad (C.p k hl).1 (C.p k hl).2 h⟩
 | view k s i j=>
  simp only[A.cy];cases hl:K.p k with
  |true=>trivial
  |false=>obtain⟨A,n,c,h,g⟩:=h;exact⟨A,n,c,S2 T k _ (.inr (C.p k hl).1) (C.p k hl).2 h,g⟩
 | pk r n=>
  simp only[A.cy];cases hl:K.r r with
  |true=>trivial
  |false=>obtain⟨b,e,h⟩:=h;exact⟨b,(T.fY r (C.r r hl)).trans e,h⟩
 | aL r j=>
  simp only[A.cy];cases hl:K.r r with
  |true=>trivial
  |false=>obtain⟨b,off,e,h⟩:=h;exact⟨b,off,(T.fY r (C.r r hl)).trans e,h⟩
 |kG cs=>exact RF.tr T h
 |qf f cs=>obtain⟨pv,e,h⟩:=h;exact⟨pv,e,h.tr T⟩
 | fn f cap=>
  simp only[A.cy];cases hl:cap.any (λp=>K.r p.1)with
  |true=>trivial
  | false=>
   obtain⟨U,e,E,h⟩:=h
   refine⟨U,e,E,λj p D=>?_⟩
   obtain⟨b,off,Y,Z⟩:=h j p D;exact⟨b,off,(T.fY _ (C.r _ (by simpa using jV.1 hl p (iR D)))).trans Y,Z⟩
def eV.tr(T:Tr w w' af aC ρ ρ' t c)(Y:K.OK t c){r:Nat}{x:aU}(h:eV w B af ρ r x)(D:t [r]=false)(E:c r=false):eV w' B aC ρ' r (x.cy K):=by
 cases h with
 | aD b off cells e cs us C hl U hs Z=>
  refine .aD b off cells e _ us ((T.fY r E).trans C) (T.so b _ hl D).2 ((T.so b _ hl D).1.trans U) (by rw[fN];exact hs) (λj x I=>?_)
  rw[fz]at I;obtain⟨y,O,rfl⟩:=Option.map_eq_some_iff.1 I;exact⟨(Z j y O).1,(Z j y O).2.tr T Y⟩
 |sl v y C hr=>exact .sl v y ((T.fY r E).trans C) (hr.tr T (.inr D))
 |mp b clock es l C hl U he=>exact .mp b clock es l ((T.fY r E).trans C) (T.so b _ hl D).2 ((T.so b _ hl D).1.trans U) he
 | gh us xs C I=>
  refine .gh us _ ((T.fY r E).trans C) (λj x hj=>?_)
  rw[fz]at hj;obtain⟨y,O,rfl⟩:=Option.map_eq_some_iff.1 hj;exact(I j y O).tr T Y
end
/-! Nothing is forgotten where old memory stays. -/
def M1:qg:=⟨λ_=>false,λ_=>false,λ_=>false⟩
def A.IK(x:A):x.cy M1=x:=by
 have h:∀cs:aa Lf,cs.all (Lf.fr M1.l)=true:=λcs=>cm.2 λc _=>by cases c<;>rfl
 refine A.rS ?_;cases x with
 |lf x=>cases x<;>rfl
 |agg cs=>exact h cs
 |fX xs=>exact cm.2 λq _=>h q.2
 |fn f cap=>exact cm.2 λ_ _=>rfl
 |_=>rfl
def aU.IK(x:aU):x.cy M1=x:=by
 cases x with
 |aD cs=>exact bE aU.aD (A.agg.inj (A.IK (.agg cs)))
 |gh xs=>exact bE aU.gh ((rP λx _=>A.IK x).trans (List.map_id xs))
 |_=>rfl
def S3(k:aa Nat):jX (λ_=>false) k=false:=by unfold jX;split<;>rfl
def aab:M1.OK (λ_=>false) (λ_=>false):=⟨λk _=>⟨.inr rfl,S3 k⟩,λk _=>⟨rfl,S3 k⟩,λ_ _=>rfl⟩
def Tr.kF(E:w.heap.size<=w'.heap.size)(C:∀ b,b<w.heap.size->w'.heap[b]?=w.heap[b]?/\aC b=af b)(D:∀ b k,af b=some k->b<w.heap.size):Tr w w' af aC ρ ρ (λ_=>false) (λ_=>false):=
 ⟨E,λb hb hl=>⟨(C b hb).1,(C b hb).2.trans hl⟩,λb k hl _=>⟨(C b (D b k hl)).1,(C b (D b k hl)).2.trans hl⟩,λ_ _=>rfl,λ_ _ _ _ _=>rfl,λ_ _ _=>rfl⟩
def RA.kF{x:A}{u:Value}(h:RA w B af ρ x u)(C:w.heap.size<=w'.heap.size)(D:∀ b,b<w.heap.size->w'.heap[b]?=w.heap[b]?/\aC b=af b)(E:∀ b k,af b=some k->b<w.heap.size):RA w' B aC ρ x u:=by
 have:=h.tr (.kF C D E) aab
 rwa [A.IK]at this
def eE.kF{x:Lf}{u:Value}(h:eE w B af ρ x u)(C:w.heap.size<=w'.heap.size)(D:∀b,b<w.heap.size->w'.heap[b]?=w.heap[b]?/\aC b=af b)(E:∀b k,af b=some k->b<w.heap.size):eE w' B aC ρ x u:=RA.kF (x:=.lf x) h C D E
def fG.kF{cs:aa Lf}{us:Array Value}(h:fG w B af ρ cs us)(C:w.heap.size<=w'.heap.size)(D:∀ b,b<w.heap.size->w'.heap[b]?=w.heap[b]?/\aC b=af b)(E:∀ b k,af b=some k->b<w.heap.size):fG w' B aC ρ cs us:=
 ⟨h.1,λj x I=>let ⟨u,hu,r⟩:=h.2 j x I;⟨u,hu,r.kF C D E⟩⟩
def eV.kF{r:Nat}{x:aU}(h:eV w B af ρ r x)(C:w.heap.size<=w'.heap.size)(D:∀ b,b<w.heap.size->w'.heap[b]?=w.heap[b]?/\aC b=af b)(E:∀ b k,af b=some k->b<w.heap.size):eV w' B aC ρ r x:=by
 have:=h.tr (.kF C D E) aab rfl rfl
 rwa [aU.IK]at this
/-! A root's name is given anew. -/
def yu{d:Nat}{t:aa Nat->Bool}{c:Nat->Bool}(E:∀ k,cV d k=false->t k=false)(I:∀ r,r≠d->c r=false):(zU d).OK t c:=by
 have h:∀ k,cV d k=false->jX c k=false:=λk C=>by
  unfold jX;split
  next r D=>exact I r (by rintro rfl;simp[cV,D]at C)
  ·rfl
 exact⟨λk C=>⟨.inr (E k C),h k C⟩,λk C=>⟨E k C,h k C⟩,λr D=>I r (by rintro rfl;simp[zU]at D)⟩
def rU{d r:Nat}(h:r≠d):Nat.beq r d=false:=nN.2 λe=>h (c8 e)
def Tr.IL{d:Nat}(C:∀ r,r≠d->ρ' r=ρ r):Tr w w af af ρ ρ' (λ_=>false) (λr=>Nat.beq r d):=
 ⟨dg _,λ_ _ h=>⟨rfl,h⟩,λ_ _ h _=>⟨rfl,h⟩,λr D=>C r (by rintro rfl;simp at D),λ_ _ _ _ _=>rfl,λ_ _ _=>rfl⟩
def RP.fY{d:Nat}(C:∀r,r≠d->ρ' r=ρ r){p:Bool×aa Lf}{u:Value}(h:RP w B af ρ p u):RP w B af ρ' (p.1,p.2.map (Lf.drop d)) u:=h.tr (.IL C) (yu (λ_ _=>rfl) λ_=>rU)
def RA.fY{d:Nat}(C:∀r,r≠d->ρ' r=ρ r){x:A}{u:Value}(h:RA w B af ρ x u):RA w B af ρ' (x.drop d) u:=h.tr (.IL C) (yu (λ_ _=>rfl) λ_=>rU)
def fG.fY{d:Nat}(C:∀r,r≠d->ρ' r=ρ r){cs:aa Lf}{us:Array Value}(h:fG w B af ρ cs us):fG w B af ρ' (cs.map (Lf.drop d)) us:=h.tr (.IL C) (yu (λ_ _=>rfl) λ_=>rU)
def eE.fY{d:Nat}(C:∀r,r≠d->ρ' r=ρ r){x:Lf}{u:Value}(h:eE w B af ρ x u):eE w B af ρ' (x.drop d) u:=h.tr (.IL C) (yu (λ_ _=>rfl) λ_=>rU)
def eV.fY{d r:Nat}(C:∀r,r≠d->ρ' r=ρ r)(D:r≠d){x:aU}(h:eV w B af ρ r x):eV w B af ρ' r (x.drop d):=h.tr (.IL C) (yu (λ_ _=>rfl) λ_=>rU) rfl (rU D)
def bK{α:Type}(f:Nat->α)(d:Nat)(x:α):Nat->α:=λk=>bif Nat.beq k d then x else f k
def bT{α:Type}(f:Nat->α)(d:Nat)(x:α):bK f d x d=x:=by simp[bK]
def cz{α:Type}(f:Nat -> α)(d:Nat)(x:α){k:Nat}(h:k≠d):bK f d x k=f k:=by
 have:Nat.beq k d=false:=by
  cases hb:Nat.beq k d with
  |false=>rfl
  |true=>simp_all
 simp[bK,this,ax]
def S.set(σ:S)(d:Nat)(x:A):S:={ σ with t:=bK σ.t d x }
def S.drop(σ:S)(d:Nat):S:=⟨λk=>(σ.t k).drop d,λr=>bif Nat.beq r d then none else (σ.m r).map (aU.drop d)⟩
def S.root(σ:S)(d:Nat)(x:aU):S:={ σ with m:=bK σ.m d (some x) }
def Rl.set{x:A}{v:Value}{d:Nat}(h:Rl w0 N af ρ σ a w)(E:RA w w0.heap.size af ρ x v)(D:d<N):Rl w0 N af ρ (σ.set d x) (a.put (some d) v) w:=by
 refine⟨h.below,h.dj,h.root,λk=>?_,?_,h.defers,h.fix,h.cT⟩
 ·show RA w _ af ρ (bK σ.t d x k) ((a.tmps.setIfInBounds d v).getD k undef);by_cases C:k=d
  ·subst C;rw[bT,jt,Array.getElem?_setIfInBounds_self];have:k<a.tmps.size:=by rw[h.size];exact D
   simp_all
  ·rw[cz _ _ _ C,jt,Array.getElem?_setIfInBounds_ne (Ne.symm C),<- jt];exact h.tmp k
 ·show (a.tmps.setIfInBounds d v).size=N;rw[Array.size_setIfInBounds];exact h.size
def Rl.grow(h:Rl w0 N af ρ σ a w)(hb:Below w.heap.size w w')(hl:∀ b,b<w.heap.size -> aC b=af b)(I:∀ b k,w.heap.size <= b -> aC b=some k -> b<w'.heap.size/\k≠[]):Rl w0 N aC ρ σ a w':=by
 have D:∀b,b<w.heap.size -> w'.heap[b]?=w.heap[b]?/\aC b=af b:=λb E=>⟨hb.block b E,hl b E⟩
 refine⟨h.below.trans (.of hb h.below.size),λb k C=>?_,λr x O=>(h.root r x O).kF hb.size D (λb k hb=>(h.dj b k hb).2.1),λk=>(h.tmp k).kF hb.size D (λb k hb=>(h.dj b k hb).2.1),h.size,h.defers,h.fix,h.cT⟩
 rcases Nat.lt_or_ge b _ with T|rV
 ·rw[hl b T]at C;have:=h.dj b k C
  grind
 ·have:=I b k rV C;exact⟨.inl (Nat.le_trans h.below.size rV),this.1,this.2⟩
def Rl.new{d:Nat}{x:aU}(h:Rl w0 N af ρ σ a w)(l:Loc)(T:eV w w0.heap.size af (bK ρ d l) d x)(I:w0.F d=none):Rl w0 N af (bK ρ d l) ((σ.drop d).root d x) a w:=by
 have E:∀r,r≠d -> bK ρ d l r=ρ r:=λr D=>cz _ _ _ D
 refine⟨h.below,h.dj,λr y C=>?_,λk=>(h.tmp k).fY E,h.size,h.defers,λr O D=>(E r (by rintro rfl;rw[I]at D;cases D)).trans (h.fix r O D),h.cT⟩
 by_cases D:r=d
 ·subst D;have e:(bK (σ.drop r).m r _) r=some x:=bT _ _ _;have C:(bK (σ.drop r).m r _) r=some y:=C;simp_all
 ·have C:(bK (σ.drop d).m d _) r=some y:=C;rw[cz _ _ _ D]at C;have hb:Nat.beq r d=false:=by
   cases hb:Nat.beq r d with
   |false=>rfl
   |true=>simp_all
  simp only[S.drop,hb,ax]at C;cases hm:σ.m r with
  |none=>simp_all
  | some z=>
   rw[hm]at C;injection C with C;subst C;exact(h.root r z hm).fY E D
end
def splice{α:Type}(l:aa α)(j:Nat)(xs:aa α):aa α:=l.take j++xs++l.drop (j+xs.length)
def wG{α:Type}(l:aa α)(j:Nat)(xs:aa α)(h:j+xs.length<=l.length):(splice l j xs).length=l.length:=by
 simp[splice];omega
def zV{α:Type}(l:aa α)(j:Nat)(xs:aa α)(h:j+xs.length <= l.length)(n:Nat):
  (splice l j xs)[n]?=if n<j then l[n]? else if n<j+xs.length then xs[n-j]? else l[n]?:=by
 unfold splice
 grind
structure yw (w w':World) (bt:Nat):Prop where
 size:w'.heap.size=w.heap.size
 os:w'.os=w.os
 tape:w'.tape=w.tape
 output:w'.output=w.output
 block:∀k,k≠bt->w'.heap[k]?=w.heap[k]?
def M3(w:World)(b o:Nat)(l:aa Value):yw w (w.setCells b o l) b:=by
 have g:=Z2 b l o w;have s:=Z1 b l o w
 refine⟨s,g.os,g.tape,g.output,λk C=>?_⟩
 rcases Nat.lt_or_ge k _ with D|rV
 ·exact g.block k D (by intro e;injection e with e;exact C e)
 ·simp_all
section
variable {w w':World} {w0:Wd} {B N:Nat} {af:bB} {ρ:Nat->Loc} {m m':Nat->ah aU} {σ:S} {a:Act} {bt:Nat} {kt:aa Nat}
def tZ(w w':World)(af:bB)(ρ:Nat->Loc):Prop:=∀k ad v,addrAt w af ρ k=some ad->w.cell? ad=some v->oI v=true->w'.cell? ad=some v
def S4(D:tZ w w' af ρ):∀ (k:aa Nat) (ad:Addr),addrAt w af ρ k=some ad -> addrAt w' af ρ k=some ad
 |[],_,h=>h
 |[_],_,h=>h
 |[_,_],_,h=>h
 |[j,i,s,r],_,h=>by simp only[addrAt]at h ⊢;exact h
 | j :: i :: s :: x :: y :: q,ad,h=>by
  simp only[addrAt]at h ⊢;cases C:addrAt w af ρ (x::y::q)with
  |none=>simp_all
  | some I=>
   rw[S4 D _ _ C];rw[C]at h;cases E:w.cell? I with
   |none=>simp_all
   | some v=>
    simp only[Option.bind_some,E]at h;have O:oI v=true:=by
     split at h
     next e=>injection e with e;subst e;rfl
     ·cases h
    simp only[Option.bind_some,D _ _ _ C E O];exact h
def aac(D:tZ w w' af ρ)(k:aa Nat)(u:Value)(E:oI u=true)(h:de w af ρ k=some u):de w' af ρ k=some u:=by
 match k,h with
 |[r],h=>exact h
 | x :: y :: q,h=>
  simp[de]at h ⊢;cases C:addrAt w af ρ _ with
  |none=>rw[C]at h;cases h
  | some ad=>
   rw[S4 D _ _ C];rw[C]at h;exact D _ _ _ C h E
def eE.wrote{x:Lf}{u:Value}(h:eE w B af ρ x u)(C:yw w w' bt)(hl:af bt=some kt)(D:tZ w w' af ρ):eE w' B af ρ x u:=by
 cases x with
 |v x=>exact⟨h.1,h.2.apart hl (.inr h.1) (Nat.le_of_eq C.size.symm) C.block⟩
 |own k=>exact⟨h.1,aac D k u h.1 h.2⟩
 |dead=>trivial
def fG.wrote{cs:aa Lf}{us:Array Value}(h:fG w B af ρ cs us)(C:yw w w' bt)(hl:af bt=some kt)(D:tZ w w' af ρ):fG w' B af ρ cs us:=
 ⟨h.1,λj x E=>let ⟨u,hu,r⟩:=h.2 j x E;⟨u,hu,r.wrote C hl D⟩⟩
def RP.wrote{p:Bool×aa Lf}{u:Value}(h:RP w B af ρ p u)(C:yw w w' bt)(hl:af bt=some kt)(D:tZ w w' af ρ):RP w' B af ρ p u:=by
 obtain⟨b,cs⟩:=p;cases b with
 |true=>obtain⟨us,e,h⟩:=h;exact⟨us,e,h.wrote C hl D⟩
 |false=>exact fG.wrote h C hl D
def RF.wrote{cs:aa V}{u:Value}(h:RF w B af cs u)(C:yw w w' bt)(hl:af bt=some kt):RF w' B af cs u:=by
 obtain⟨b,off,e,hb,D,h⟩:=h;have I:b≠bt:=by rintro rfl;rw[hl]at D;cases D
 refine⟨b,off,e,by rw[C.size];exact hb,D,λj x O=>?_⟩
 obtain⟨E,v,T,U⟩:=h j x O;exact⟨E,v,(World.cell?_of_block (C.block b I)).trans T,U.apart hl (.inr E) (Nat.le_of_eq C.size.symm) C.block⟩
def RA.wrote{x:A}{u:Value}(h:RA w B af ρ x u)(C:yw w w' bt)(hl:af bt=some kt)(D:tZ w w' af ρ):RA w' B af ρ x u:=by
 cases x with
 |undef=>trivial
 |skip=>exact h
 |lf x=>exact eE.wrote h C hl D
 |agg cs=>exact RP.wrote (p:=(true,cs)) h C hl D
 |fX xs=>obtain⟨us,e,E,h⟩:=h;exact⟨us,e,E,λj p I=>let ⟨v,O,r⟩:=h j p I;⟨v,O,r.wrote C hl D⟩⟩
 |ptr k=>obtain⟨ad,e,h⟩:=h;exact⟨ad,e,S4 D _ _ h⟩
 |view k s i j=>obtain⟨A,n,c,h,g⟩:=h;exact⟨A,n,c,aac D k _ rfl h,g⟩
 |pk r n=>exact h
 |aL r j=>exact h
 |kG cs=>exact RF.wrote h C hl
 |qf f cs=>obtain⟨pv,e,h⟩:=h;exact⟨pv,e,h.wrote C hl⟩
 |fn f cap=>exact h
def eV.wrote{r:Nat}{x:aU}(h:eV w B af ρ r x)(E:yw w w' bt)(hl:af bt=some kt)(Y:tZ w w' af ρ)(O:¬ [r] <:+ kt):eV w' B af ρ r x:=by
 cases h with
 | aD b off cells e cs us D C T hs Z=>
  have U:b≠bt:=by rintro rfl;rw[hl]at C;injection C with C;subst C;exact O (List.suffix_refl _)
  exact .aD b off cells e cs us D C ((E.block b U).trans T) hs (λj x I=>⟨(Z j x I).1,(Z j x I).2.wrote E hl Y⟩)
 |sl v y D fP=>exact .sl v y D (fP.apart hl (.inl O) (Nat.le_of_eq E.size.symm) E.block)
 | mp b c es l D C T he=>
  have U:b≠bt:=by rintro rfl;rw[hl]at C;injection C with C;subst C;exact O (List.suffix_refl _)
  exact .mp b c es l D C ((E.block b U).trans T) he
 |gh us xs D I=>exact .gh us xs D λj x hj=>(I j x hj).wrote E hl Y
def Rl.wrote(h:Rl w0 N af ρ σ a w)(C:yw w w' bt)(hl:af bt=some kt)(I:tZ w w' af ρ)(O:∀ r x,m' r=some x -> eV w' w0.heap.size af ρ r x):Rl w0 N af ρ ⟨σ.t,m'⟩ a w':=by
 have hb:=(h.dj bt kt hl).1;have T:∀ k,k<w0.heap.size -> w0.L k=none -> k≠bt:=by
  grind
 refine⟨⟨C.os.trans h.below.os,C.tape.trans h.below.tape,C.output.trans h.below.output,by rw[C.size];exact h.below.size,λk D E=>(C.block k (T k D E)).trans (h.below.block k D E)⟩,λb k U=>?_,O,λk=>(h.tmp k).wrote C hl I,h.size,h.defers,h.fix,h.cT⟩
 rw[C.size];exact h.dj b k U
def aad{r r':Nat}(h:r'≠r):¬ [r'] <:+ [r]:=by
 intro C;have:=C.eq_of_length rfl;simp_all
def Rl.IM{r j:Nat}{cs xs:aa Lf}{us:Array Value}(h:Rl w0 N af ρ σ a w)(hm:σ.m r=some (.aD cs))(hx:fG w w0.heap.size af ρ xs us)(hj:j+xs.length <= cs.length):
  ∃b off,ρ r = .aD b off/\w.there b (off+j) us.size/\Rl w0 N af ρ ⟨σ.t,bK σ.m r (some (.aD (splice cs j xs)))⟩ a (w.setCells b (off+j) us.toList):=by
 have T:=h.root r _ hm;generalize D:aU.aD cs=x at T;cases T with
 |sl=>cases D
 |mp=>cases D
 |gh=>cases D
 | aD b off cells e fW u cv hl Y hs hc=>
  injection D with D;subst D;have hlen:us.size=xs.length:=hx.1;have oJ:off+j+us.toList.length <= cells.size:=by rw[nO,hlen];omega
  have E:=M3 w b (off+j) us.toList;obtain⟨U,iu,qQ⟩:=IC b e us.toList (off+j) w cells Y oJ;have O:tZ w (w.setCells b (off+j) us.toList) af ρ:=by
   intro k ad v ha Z gX;obtain⟨j',i',s',q,rfl,hq,_,_,hh'⟩:=De k ad ha;have bQ:ad.block≠b:=by
    intro e
    grind
   exact(World.cell?_of_block (E.block _ bQ)).trans Z
  refine⟨b,off,cv,λn hn=>⟨?_,frozen_of_row w b _ cells e Y⟩,h.wrote E hl O λr' y I=>?_⟩
  ·rw[cell_of_row w b _ cells e _ Y];simp;omega
  ·by_cases qh:r'=r
   ·subst qh;rw[bT]at I;injection I with I;subst I
    refine .aD b off U e _ (λn=>if n<j then u n else if n<j+xs.length then us.getD (n-j) undef else u n) cv hl iu ?_ λn x C=>?_
    ·rw[wG _ _ _ hj,<- nO,qQ]
     grind
    ·have e2:U[off+n]?=(splice cells.toList (off+j) us.toList)[off+n]?:=by
      rw[show U[off+n]?=U.toList[off+n]? by simp,qQ];rfl
     rw[e2,zV _ _ _ (by simpa using oJ)];rw[zV _ _ _ hj]at C;by_cases h1:n<j
     ·rw[aV];simp only[h1]at C ⊢;refine⟨?_,(hc n x C).2.wrote E hl O⟩;simp_all
     ·by_cases h2:n<j+xs.length
      ·rw[aX,aV (by rw[nO,hlen];omega)];simp only[h1,h2,if_true,if_false]at C ⊢;obtain⟨v,Z,T⟩:=hx.2 (n-j) x C;have hg:us.getD (n-j) undef=v:=by rw[jt,Z];rfl
       rw[hg];refine⟨?_,T.wrote E hl O⟩
       grind
      ·rw[aX,aX (by rw[nO];omega)];simp only[h1,h2]at C ⊢;refine⟨?_,(hc n x C).2.wrote E hl O⟩
       grind
   ·rw[cz _ _ _ qh]at I;exact(h.root r' y I).wrote E hl O (aad qh)
inductive Bn (m:Nat->Option aU):List Nat->V->(Nat->Option aU)->Prop
 |root (r:Nat) (y0 y:V) (h:m r=some (.sl y0)):Bn m [r] y (bK m r (some (.sl y)))
 | elem (j i:Nat) (q:List Nat) (t:TC) (o:Nat) (qn:Bool) (l:List (T t)) (y:V) (e:T t) (m':Nat->Option aU) (h:zS m q (.sl t (o+2) qn l)) (hi:i<l.length) (hj:j<aF t)
   (hd:dec t o (splice (enc t o l[i]) j [y])=some e) (hp:Bn m q (.sl t (o+2) qn (l.set i e)) m'):Bn m (j::i::aF t::q) y m'
def S5{α:Type}{a b c:aa α}(D:a <:+ c)(hb:b <:+ c)(h:a.length=b.length):a=b:=by
 obtain⟨x,E⟩:=D;obtain⟨y,C⟩:=hb;rw[<-E]at C;exact((List.append_inj' C h.symm).2).symm
def RV.M4{q:aa Nat}{t:TC}{o:Nat}{Y:Bool}{l:aa (T t)}{i j:Nat}{xs:aa V}{e:T t}{b cap:Nat}{cs fW:Array Value}{u us:Nat -> Nat -> Value}
  (hl:af b=some q) (hh:w'.heap[b]?=some (.cells fW (tid t) (0,0))) (hs:fW.size=cap*aF t) (hn:l.length <= cap) (hm:cap <= maxLen/\(Y=true -> cap=l.length)) (hi:i<l.length) (hj:j+xs.length <= aF t)
  (hd:dec t o (splice (enc t o l[i]) j xs)=some e)
  (hc:∀D (h:D<l.length) (C:Nat) x,(enc t o l[D])[C]?=some x -> ¬ (D=i/\j <= C/\C<j+xs.length) -> fW[D*aF t+C]?=some (u D C)/\RV w' B af (C::D::aF t::q) x (u D C))
  (hx:∀(n:Nat) x,xs[n]?=some x -> fW[i*aF t+(j+n)]?=some (us i (j+n))/\RV w' B af ((j+n)::i::aF t::q) x (us i (j+n))):
  RV w' B af q (.sl t (o+2) Y (l.set i e)) (.slice (some ⟨b,0,none⟩) l.length cap):=by
 have hlen:(l.set i e).length=l.length:=jg;have key:∀ D (h:D<(l.set i e).length) (C:Nat) x,(enc t o (l.set i e)[D])[C]?=some x ->
   ∃v,fW[D*aF t+C]?=some v/\RV w' B af (C::D::aF t::q) x v:=by
  intro D h C x I;rw[List.getElem_set]at I;by_cases hii:i=D
  ·subst hii;rw[aV rfl]at I;have hk:=nY t o _ e hd;have va:C<(enc t o e).length:=(dW.1 I).1;rw[<- hk.1]at va;have E:=bL va;generalize (splice (enc t o l[i]) j xs)[C]=y at E;have Z:=hk.2 C y x E I;rw[zV _ _ _ (by rw[mz];exact hj)]at E;by_cases h1:C<j
   ·rw[aV h1]at E;obtain⟨O,U⟩:=hc i hi C y E (by omega);exact⟨_,O,U.wk Z⟩
   ·by_cases h2:C<j+xs.length
    ·rw[aX h1,aV h2]at E;obtain⟨O,U⟩:=hx _ y E;rw[show j+(C-j)=C by omega]at O U;exact⟨_,O,U.wk Z⟩
    ·rw[aX h1,aX h2]at E;obtain⟨O,U⟩:=hc i hi C y E (by omega);exact⟨_,O,U.wk Z⟩
  ·grind
 rw[<- hlen]
 refine .own q t o Y (l.set i e) b cap fW (λD C=>(fW[D*aF t+C]?).getD undef) hl hh hs (by rw[hlen];exact hn) ⟨hm.1,λh=>by rw[hlen];exact hm.2 h⟩ (λD h C x I=>?_) (λD h C x I=>?_)
 ·grind
 ·obtain⟨v,hv,hr⟩:=key D h C x I;simp_all
def aae{r:Nat}{q:aa Nat}(h:[r] <:+ q){r':Nat}(C:[r'] <:+ q):r'=r:=by
 have:=S5 C h rfl;injection this
def Bn.ok{q:aa Nat}{y:V}(h:Bn m q y m')(Z:∀ r x,m r=some x -> eV w B af ρ r x)(T:yw w w' bt)(hl:af bt=some kt)(U:q <:+ kt)(hC:tZ w w' af ρ){I:Value}(D:de w af ρ q=some I)(hy:RV w' B af q y I):
  ∀r x,m' r=some x -> eV w' B af ρ r x:=by
 induction h generalizing I with
 | root r y0 y h=>
  intro r' x C;by_cases O:r'=r
  ·subst O;rw[bT]at C;injection C with C;subst C;simp only[de]at D;cases cv:ρ r' with
   |aD b off=>grind
   |bJ us=>grind
   | dP v=>
    rw[cv]at D;injection D with D;subst D;exact .sl v y cv hy
  ·rw[cz _ _ _ O]at C;exact(Z r' x C).wrote T hl hC (λY=>O (aae U Y))
 | elem j i q t o qn l y e m' h hi hj hd hp ih=>
  obtain⟨wJ,Df,fP⟩:=h.ok Z;have hqk:q <:+ kt:=List.IsSuffix.trans ⟨[j,i,aF t],rfl⟩ U;cases fP with
  |fC=>simp at hi
  |gF=>simp at hi
  |gO=>simp at hi
  |aI _ _ _ _ _ _ _ _ _ ho=>omega
  | own _ _ _ _ _ b cap cs us E hh Y hn vb hc O=>
   have bQ:b≠bt:=by
    rintro rfl;rw[hl]at E;injection E with E;subst E;have:=U.length_le
    grind
   have hz:=Nat.le_of_eq T.size.symm
   refine ih hqk Df (RV.M4 (us:=λ_ _=>I) (u:=us) (cs:=cs) (xs:=[y]) E ((T.block b bQ).trans hh) Y hn vb hi (show j+1 <= aF t from hj) hd (λi' h' j' x C FA=>⟨hc i' h' j' x C,(O i' h' j' x C).apart hl (.inl λrW=>FA ?_) hz T.block⟩) (λn x C=>?_))
   ·have:=S5 rW U rfl
    grind
   ·cases n with
    |succ n=>simp at C
    | zero=>
     simp at C;subst C;refine⟨?_,hy⟩;rw[MZ,Dd j i _ Df E]at D;have D:w.cell? ⟨b,i*aF t+j,none⟩=some I:=D;rw[cell_of_row w b _ cs _ _ hh]at D;exact D
def RV.aaf{q:aa Nat}{x:V}{v:Value}(h:RV w B af q x v)(C:x.plain=true):oI v=false:=by
 cases h<;>first|rfl|cases C
def RV.wK{q C:aa Nat}{x:V}{v:Value}{B':Nat}{aC:bB}(h:RV w B af q x v)(D:x.plain=true):RV w' B' aC C x v:=by
 cases h<;>first|exact .int _ _ _|exact .bool _ _|exact .str _ _|cases D
def Rl.aj6{j i:Nat}{q:aa Nat}{t:TC}{o:Nat}{qn:Bool}{l:aa (T t)}{xs:aa V}{us:Array Value}{e:T t}(h:Rl w0 N af ρ σ a w)(hg:zS σ.m q (.sl t (o+2) qn l))(hi:i<l.length)(hj:j+xs.length <= aF t)
  (hd:dec t o (splice (enc t o l[i]) j xs)=some e) (hold:∀(n:Nat) x,n<xs.length -> (enc t o l[i])[j+n]?=some x -> x.plain=true) (hxp:∀x∈xs,x.plain=true) (oK:us.size=xs.length) (hx:∀(n:Nat) x,xs[n]?=some x -> ∃u,us[n]?=some u/\RV w w0.heap.size af [] x u)
  (hp:Bn σ.m q (.sl t (o+2) qn (l.set i e)) m'):
  ∃b,addrAt w af ρ (j::i::aF t::q)=some ⟨b,i*aF t+j,none⟩/\w.there b (i*aF t+j) us.size/\Rl w0 N af ρ ⟨σ.t,m'⟩ a (w.setCells b (i*aF t+j) us.toList):=by
 obtain⟨wJ,Df,fP⟩:=hg.ok h.root;cases fP with
 |fC=>simp at hi
 |gF=>simp at hi
 |gO=>simp at hi
 |aI _ _ _ _ _ _ _ _ _ ho=>omega
 | own _ _ _ _ _ b cap cs u U hh hs hn vb hc hr=>
  have zW:i*aF t+aF t <= cap*aF t:=by
   have:(i+1)*aF t <= cap*aF t:=ju _ (by omega);rw[jv]at this;exact this
  have oJ:i*aF t+j+us.toList.length <= cs.size:=by rw[nO,oK,hs];omega
  have Y:=M3 w b (i*aF t+j) us.toList;obtain⟨O,iu,qQ⟩:=IC b (tid t) us.toList (i*aF t+j) w cs hh oJ;have wL:∀ n,O[n]?=if n<i*aF t+j then cs[n]? else if n<i*aF t+j+xs.length then us[n-(i*aF t+j)]? else cs[n]?:=by
   intro n;have e2:O[n]?=(splice cs.toList (i*aF t+j) us.toList)[n]?:=by
    rw[show O[n]?=O.toList[n]? by simp,qQ];rfl
   rw[e2,zV _ _ _ (by simpa using oJ),nO,oK];simp
  have IN:O.size=cs.size:=by
   rw[<- nO,qQ];have:=wG cs.toList _ us.toList (by simpa using oJ)
   grind
  have hC:tZ w (w.setCells b (i*aF t+j) us.toList) af ρ:=by
   intro k ad v ha D gX;by_cases bQ:ad.block=b
   ·obtain⟨I,C,s',q',rfl,uZ,aj7,yx,_⟩:=De k ad ha;have oL:ad=⟨b,ad.off,none⟩:=by cases ad;simp_all
    rw[oL,cell_of_row w b _ cs _ _ hh]at D;rw[oL,cell_of_row _ b _ O _ _ iu,wL];by_cases h1:ad.off<i*aF t+j
    ·rw[aV h1];exact D
    ·by_cases h2:ad.off<i*aF t+j+xs.length
     ·exfalso;have hjs:ad.off-(i*aF t+j)<xs.length:=by omega
      have wM:j+(ad.off-(i*aF t+j))<(enc t o l[i]).length:=by rw[mz];omega
      have hy:=bL wM;generalize (enc t o l[i])[j+(ad.off-(i*aF t+j))]=y at hy;have Bo:=hold _ y hjs hy;have Z:=hc i hi _ y hy;rw[show i*aF t+(j+(ad.off-(i*aF t+j)))=ad.off by omega]at Z;rw[D]at Z;injection Z with Z;have:=(hr i hi _ y hy).aaf Bo;rw[<- Z,gX]at this;cases this
     ·rw[aX h1,aX h2];exact D
   ·exact(World.cell?_of_block (Y.block _ bQ)).trans D
  refine⟨b,Dd j i (aF t) Df U,λn yz=>⟨?_,frozen_of_row w b _ cs _ hh⟩,h.wrote Y U hC (hp.ok h.root Y U (List.suffix_refl _) hC Df ?_)⟩
  ·rw[cell_of_row w b _ cs _ _ hh];simp;omega
  ·refine RV.M4 (u:=u) (us:=λ_ n=>us.getD (n-j) undef) (cs:=cs) (xs:=xs) U iu (IN.trans hs) hn vb hi hj hd (λC h' I x E FA=>?_) (λn x E=>?_)
   ·have va:I<aF t:=by have:=(dW.1 E).1;rwa [mz]at this
    refine⟨?_,(hr C h' I x E).apart U (.inl λrW=>?_) (Nat.le_of_eq Y.size.symm) Y.block⟩
    ·rw[wL];have Dg:¬ (¬ C*aF t+I<i*aF t+j/\C*aF t+I<i*aF t+j+xs.length):=by
      rintro⟨h1,h2⟩;rcases Nat.lt_trichotomy C i with dA|heq|FB
      ·have:(C+1)*aF t <= i*aF t:=ju _ dA;rw[jv]at this;omega
      ·subst heq
       grind
      ·have:(i+1)*aF t <= C*aF t:=ju _ FB;rw[jv]at this;omega
     split
     ·exact hc C h' I x E
     ·rw[aX];exact hc C h' I x E
    ·have:=rW.length_le;simp at this;omega
   ·obtain⟨v,D,ua⟩:=hx n x E;have yz:n<xs.length:=(dW.1 E).1;have FC:us.getD (j+n-j) undef=v:=by rw[show j+n-j=n by omega,jt,D];rfl
    rw[FC,wL,aX,aV];refine⟨?_,ua.wK (hxp x (iR E))⟩;rw[show i*aF t+(j+n)-(i*aF t+j)=n by omega];exact D
end
def S6:Value->A
 |.bool b=>.lf (.v (.bool b))
 |.int k n=>.lf (.v (.int k n))
 |.string s=>.lf (.v (.str s))
 |.slice none 0 0=>.lf (.v .nil)
 |_=>.undef
def aJ(σ:S):Operand->A
 |.tmp t=>σ.t t
 |.const v=>S6 v
 |.func f=>.fn f []
 |.global _=>.undef
def jm{X:Type}(N:Nat)(σ:S)(C:ah Tmp)(x:A)(k:S->ah X):ah X:=
 match C with
 |none=>k σ
 |some d=>bif Nat.blt d N then k (σ.set d x)else none
def nc(P:Program)(w0:Wd)(N:Nat)(o:Oper)(σ D:S):Prop:=
 ∀a w K Q,R w0 N σ a w->(∀C w',R w0 N D C w'->K C w')->o.wp P a w K Q
section
variable {P:Program} {w:World} {w0:Wd} {B N:Nat} {af:bB} {ρ:Nat->Loc} {σ:S} {a:Act} {X:Type} {r:X} {k:S->ah X} {o:Oper}
def aj8(v:Value):RA w B af ρ (S6 v) v:=by
 unfold S6;split
 ·exact⟨rfl,.bool _ _⟩
 ·exact⟨rfl,.int _ _ _⟩
 ·exact⟨rfl,.str _ _⟩
 ·exact⟨rfl,.nil _⟩
 ·trivial
def Rl.aJ(h:Rl w0 N af ρ σ a w)(x:Operand):RA w w0.heap.size af ρ (aJ σ x) (a.eval x):=by
 cases x with
 |tmp t=>exact h.tmp t
 |const v=>exact aj8 v
 |func f=>exact⟨#[],rfl,rfl,by simp⟩
 |global g=>trivial
def nc.val{x:A}(C:jm N σ o.dst x k=some r)(h:∀ af ρ a w,Rl w0 N af ρ σ a w -> ∃ v,(execOp a.eval o).run P w = .ok (.value v) w/\RA w w0.heap.size af ρ x v):∃ O,k O=some r/\nc P w0 N o σ O:=by
 unfold jm at C;split at C
 ·rename_i D
  refine⟨σ,C,λa w K Q hR E=>?_⟩
  obtain⟨af,ρ,hl⟩:=hR;obtain⟨v,I,T⟩:=h af ρ a w hl;unfold Oper.wp;rw[I,Oper.upon_value,D];exact E _ _ ⟨af,ρ,hl⟩
 ·rename_i d D;cases U:Nat.blt d N with
  |false=>simp_all
  | true=>
   rw[U]at C
   refine⟨_,C,λa w K Q hR E=>?_⟩
   obtain⟨af,ρ,hl⟩:=hR;obtain⟨v,I,T⟩:=h af ρ a w hl;unfold Oper.wp;rw[I,Oper.upon_value,D];exact E _ _ ⟨af,ρ,hl.set T (by have:=cH U;omega)⟩
/-! What does the same whatever comes behind. -/
def oM{α:Type}(f:(X:Type)->(α->ah X)->ah X)(y:α):Prop:=∀(X:Type) (k:α->ah X),f X k=k y
def oM.at_{α:Type}{f:(X:Type)->(α->ah X)->ah X}{y:α}(h:oM f y){X:Type}(k:α->ah X):f X k=k y:=h X k
def cE{α:Type}(f:(X:Type)->(α->ah X)->ah X):Prop:=∀(X Y:Type) (k:α->ah X) (g:X->ah Y),(f X k).bind g=f Y λy=>(k y).bind g
def cE.nZ{α:Type}{f:(X:Type)->(α->ah X)->ah X}(n:cE f){X:Type}{k:α->ah X}{r:X}(h:f X k=some r):∃ y,k y=some r/\oM f y:=by
 have e:∀(Y:Type) (k:α->ah Y),f Y k=(f α some).bind k:=λY k=>(n α Y some k).symm
 rw[e]at h;cases C:f α some with
 |none=>rw[C]at h;cases h
 |some y=>rw[C]at h;exact⟨y,h,λX k=>by rw[e,C];rfl⟩
def cE.comp{α β:Type}{f:(X:Type)->(α->ah X)->ah X}{b:(X:Type)->(β->ah X)->α->ah X}(n:cE f)(m:∀y,cE λX k=>b X k y):cE λX k=>f X (b X k):=λX Y k g=>(n X Y _ g).trans (bE _ (funext λy=>m y X Y k g))
def dB{X Y:Type}{b:Bool}{x y:ah X}{C D:ah Y}{g:X->ah Y}(E:x.bind g=C)(I:y.bind g=D):(bif b then x else y).bind g=bif b then C else D:=by
 cases b
 ·exact I
 ·exact E
/-! Contents of leaves. -/
def kI{X:Type}(m:Nat->ah aU):aa Nat->(V->ah X)->ah X
 | [r],k=>match m r with
  |some (.sl y)=>k y
  |_=>none
 | j :: i :: s :: q,k=>kI m q λy=>match y with
  |.sl t (o+2) _ l=>if s=aF t then (if h:i<l.length then (match (enc t o l[i])[j]? with|some z=>k z|none=>none)else none)else none
  |_=>none
 |_,_=>none
def vc{m:Nat -> ah aU}:∀ (q:aa Nat) (k:V -> ah X),kI m q k=some r -> ∃ y,zS m q y/\k y=some r
 |[],_,h=>by simp[kI]at h
 | [x],k,h=>by
  simp only[kI]at h;split at h
  next y D=>exact⟨y,.root x y D,h⟩
  ·cases h
 | j :: i :: s :: q,k,h=>by
  obtain⟨y,D,C⟩:=vc q _ h;clear h;split at C
  ·split at C
   ·rename_i E;subst E;split at C
    ·rename_i hi;split at C
     next z I=>exact⟨z,.elem j i q _ _ _ _ z D hi I,C⟩
     ·cases C
    ·cases C
   ·cases C
  ·cases C
def rX{X:Type}(σ:S)(x:Lf)(k:V->ah X):ah X:=
 match x with
 |.v y=>k y
 |.own q=>kI σ.m q k
 |.dead=>none
def RV.part{q:aa Nat}{tc:TC}{g:Nat}{U:Bool}{xs:aa (T tc)}{A:ah Addr}{n c a h:Nat}(I:RV w B af q (.sl tc g U xs) (.slice A n c))(E:g<2)(h1:a <= h)(C:h <= xs.length):RV w B af q (.sl tc g false ((xs.take h).drop a)) (sliced A a h c (aF tc))/\n=xs.length/\xs.length <= c:=by
 have hlen:((xs.take h).drop a).length=h-a:=by simp;omega
 cases I with
 | fC=>
  have:a=0:=by simp at C;omega
  have:h=0:=by simpa using C
  subst_vars
  exact⟨.fC _ _ _,rfl,dg _⟩
 | gF=>
  have:h=0:=by simpa using C
  subst this;have:a=0:=by omega
  subst this;exact⟨by unfold sliced;split<;>exact .gF _ _ _ _ _ E,rfl,Nat.zero_le _⟩
 | gO=>
  have:h=0:=by simpa using C
  subst this;have:a=0:=by omega
  subst this;exact⟨by unfold sliced;split<;>exact .gF _ _ _ _ _ E,rfl,Nat.zero_le _⟩
 |own=>omega
 | aI _ _ _ _ _ b off cap u Y hl hb hB Z hc I=>
  refine⟨?_,rfl,Z⟩;by_cases he:a=h
  ·subst he;have e0:=uS (by rw[hlen];omega);rw[e0];unfold sliced;rw[Nat.sub_self];split<;>exact .gF _ _ _ _ _ E
  ·unfold sliced;rw[aX,<- hlen];have MU:(some (⟨b,off,none⟩:Addr)).map (·.add (a*aF tc))=some ⟨b,off+a*aF tc,none⟩:=by
    simp;unfold Addr.add;simp_all
   rw[MU];have O:∀ i (hi:i<((xs.take h).drop a).length),((xs.take h).drop a)[i]=xs[a+i]'(by omega):=by
    intro i hi;simp_all
   refine .aI _ _ _ _ _ b (off+a*aF tc) (c-a) (λi j=>u (a+i) j) Y hl hb hB (by omega) (λi hi j x D=>?_) (λi hi j x D=>?_)
   ·rw[O]at D;have:=hc _ _ j x D
    grind
   ·rw[O i]at D
    grind
def aag(s i j:Nat):V->ah V
 |.sl t _ _ l=>bif Nat.beq s (aF t)then some (.sl t 0 false ((l.take j).drop i))else none
 |_=>none
def yA{X:Type}(σ:S)(q:aa Nat)(s i j:Nat)(k:V->ah X):ah X:=
 kI σ.m q λy=>match aag s i j y with
  |some z=>k z
  |none=>none
def ve{X:Type}(σ:S)(y:A)(k:V->ah X):ah X:=
 match y with
 |.lf l=>rX σ l k
 |.view q s i j=>yA σ q s i j k
 |_=>none
def aah{q:aa Nat}{s i j:Nat}{k:V -> ah X}(h:yA σ q s i j k=some r):∃ z,k z=some r/\z.aI=true /\ ∀ w0 N af ρ a w,Rl w0 N af ρ σ a w -> ∀ u,RA w w0.heap.size af ρ (.view q s i j) u -> ∀ B',RV w B' (λ_=>none) [] z u:=by
 obtain⟨y,T,E⟩:=vc q _ h;clear h;split at E
 ·rename_i z C;unfold aag at C;split at C
  ·rename_i t g U l;cases I:Nat.beq s (aF t)with
   |false=>simp_all
   | true=>
    rw[I,av]at C;obtain rfl:=c8 I;injection C with C;subst C
    refine⟨_,E,rfl,λw0 N af ρ a w hR u Y B'=>?_⟩
    obtain⟨A,n,c,Z,h1,h3,rfl⟩:=Y;obtain⟨v,D,hr⟩:=T.ok hR.root;rw[Z]at D;injection D with D;subst D;have O:RV w B' (λ_=>none) [] (.sl t 0 U l) (.slice A n c):=hr.ir;have hn:n=l.length:=by cases O<;>rfl
    exact(O.part (by omega) h1 (by omega)).1
  ·cases C
 ·cases E
def vK{X:Type}(x:A)(k:V->ah X):ah X:=
 match x with
 |.lf (.v y)=>k y
 |_=>none
def S7{x:A}{k:V -> ah X}(h:vK x k=some r):∃ y,x = .lf (.v y)/\k y=some r:=by
 unfold vK at h
 grind
def RV.iS{q:aa Nat}{k:IntKind}{n:Int}{u:Value}(h:RV w B af q (.int k n) u):u = .int k n:=by cases h;rfl
def RV.Bp{q:aa Nat}{n:Bool}{u:Value}(h:RV w B af q (.bool n) u):u = .bool n:=by cases h;rfl
def RV.zX{q:aa Nat}{n:ByteArray}{u:Value}(h:RV w B af q (.str n) u):u = .string n:=by cases h;rfl
/-! Arithmetic and comparison. -/
def cB(n:Nat):Bool:=decide (n<1073741824)
def IP{X:Type}(P:Program)(ty:TypeId)(op:BinOp)(x y:V)(k:V->ah X):ah X:=
 match x,y with
 | .int C a,.int D b=>match op with
  |.shl=>if b<0 then none else k (.int C (C.wrap (a*2 ^ (min b.toNat C.bits))))
  |.shr=>if b<0 then none else k (.int C (a.fdiv (2 ^ (min b.toNat C.bits))))
  | op=>if C=D then (match op with
   |.add=>k (.int C (C.wrap (a+b)))
   |.sub=>k (.int C (C.wrap (a-b)))
   |.mul=>k (.int C (C.wrap (a*b)))
   |.quo=>if b=0 then none else k (.int C (C.wrap (a.tdiv b)))
   |.rem=>if b=0 then none else k (.int C (a.tmod b))
   |.and=>k (.int C (bits .and C a b))
   |.or=>k (.int C (bits .or C a b))
   |.xor=>k (.int C (bits .xor C a b))
   |.andNot=>k (.int C (bits .andNot C a b))
   |.eql=>k (.bool (a==b))
   |.neq=>k (.bool (a != b))
   |.lss=>k (.bool (decide (a<b)))
   |.leq=>k (.bool (decide (a<=b)))
   |.gtr=>k (.bool (decide (a > b)))
   |.geq=>k (.bool (decide (a >= b)))
   |_=>none)else none
 | .bool a,.bool b=>match P.underlying ty with
  | some .bool=>(match op with
   |.eql=>k (.bool (a==b))
   |.neq=>k (.bool (!(a==b)))
   |_=>none)
  |_=>none
 | .str a,.str b=>match op with
  |.add=>bif cB (a.size+b.size)then k (.str (a++b))else none
  |.eql=>k (.bool (a.toList==b.toList))
  |.neq=>k (.bool (!(a.toList==b.toList)))
  |_=>none
 |_,_=>none
def aj9{ty:TypeId}{T:BinOp}{x y:V}{k:V -> ah X}(h:IP P ty T x y k=some r):∃ z,k z=some r/\z.plain=true /\ ∀ (w:World) (B:Nat) (af:bB) (E I:Operand) (q O:aa Nat) (u v:Value),RV w B af q x u -> RV w B af O y v ->
  ∃t,(do eqGuard T ty E I u v;binOp T ty u v:Sem Value).run P w = .ok t w/\RV w B af [] z t:=by
 unfold IP at h;split at h
 ·rename_i kx a ky b;split at h
  ·split at h
   ·cases h
   ·rename_i hb
    refine⟨_,h,rfl,λw B af E I q O u v C D=>?_⟩
    obtain rfl:=C.iS;obtain rfl:=D.iS;exact⟨_,by simp[eqGuard,binOp,Op.shift,hb],.int _ _ _⟩
  ·split at h
   ·cases h
   ·rename_i hb
    refine⟨_,h,rfl,λw B af E I q O u v C D=>?_⟩
    obtain rfl:=C.iS;obtain rfl:=D.iS;exact⟨_,by simp[eqGuard,binOp,Op.shift,hb],.int _ _ _⟩
  ·rename_i Z h2;split at h
   ·rename_i hk;subst hk;cases T
    case shl=>exact absurd rfl Z
    case shr=>exact absurd rfl h2
    case quo=>
     by_cases hb:b=0
     ·simp only[hb,if_true]at h;cases h
     ·simp[hb]at h
      refine⟨_,h,rfl,λw B af E I q O u v C D=>?_⟩
      obtain rfl:=C.iS;obtain rfl:=D.iS;exact⟨_,by simp[eqGuard,binOp,Op.intDiv,hb],.int _ _ _⟩
    case rem=>
     by_cases hb:b=0
     ·simp only[hb,if_true]at h;cases h
     ·simp[hb]at h
      refine⟨_,h,rfl,λw B af E I q O u v C D=>?_⟩
      obtain rfl:=C.iS;obtain rfl:=D.iS;exact⟨_,by simp[eqGuard,binOp,Op.intDiv,hb],.int _ _ _⟩
    all_goals first
     | (refine⟨_,h,rfl,λw B af E I q O u v C D=>?_⟩
        obtain rfl:=C.iS;obtain rfl:=D.iS
        first
         |(refine⟨_,?_,.int _ _ _⟩;simp[eqGuard,binOp,Op.intArith];done)
         |(refine⟨_,?_,.int _ _ _⟩;simp[eqGuard,binOp,intBits_and,intBits_or,intBits_xor,intBits_andNot];done)
         |(refine⟨_,?_,.bool _ _⟩;simp[eqGuard,binOp,Op.intCmp];done))
     |cases h
   ·cases h
 ·rename_i a b;split at h
  ·rename_i Y;split at h
   ·refine⟨_,h,rfl,λw B af E I q O u v C D=>?_⟩
    obtain rfl:=C.Bp;obtain rfl:=D.Bp;have e:binOp .eql ty (.bool a) (.bool b)=(do pure (.bool (<- Op.equal ty (.bool a) (.bool b)))):=rfl;have g:eqGuard .eql ty E I (.bool a) (.bool b)=pure ():=rfl;exact⟨_,by rw[e,g,gW,Sem.run_pure,nQ,gW,run_equal_bool _ _ _ _ Y];rfl,.bool _ _⟩
   ·refine⟨_,h,rfl,λw B af E I q O u v C D=>?_⟩
    obtain rfl:=C.Bp;obtain rfl:=D.Bp;have e:binOp .neq ty (.bool a) (.bool b)=(do pure (.bool (!(<- Op.equal ty (.bool a) (.bool b))))):=rfl;have g:eqGuard .neq ty E I (.bool a) (.bool b)=pure ():=rfl;exact⟨_,by rw[e,g,gW,Sem.run_pure,nQ,gW,run_equal_bool _ _ _ _ Y];rfl,.bool _ _⟩
   ·cases h
  ·cases h
 ·rename_i a b;split at h
  ·cases U:cB (a.size+b.size)with
   |false=>rw[U]at h;cases h
   | true=>
    rw[U]at h
    refine⟨_,h,rfl,λw B af E I q O u v C D=>?_⟩
    obtain rfl:=C.zX;obtain rfl:=D.zX;have hL':a.size+b.size<1073741824:=by simpa [cB]using U
    refine⟨_,?_,.str _ _⟩;have h9:IntKind.i64.max=9223372036854775807:=rfl;simp only[eqGuard,binOp,Op.stringOp,h9];simp;omega
  ·refine⟨_,h,rfl,λw B af E I q O u v C D=>?_⟩
   obtain rfl:=C.zX;obtain rfl:=D.zX;exact⟨_,by simp[eqGuard,binOp,Op.stringOp],.bool _ _⟩
  ·refine⟨_,h,rfl,λw B af E I q O u v C D=>?_⟩
   obtain rfl:=C.zX;obtain rfl:=D.zX;exact⟨_,by simp[eqGuard,binOp,Op.stringOp],.bool _ _⟩
  ·cases h
 ·cases h
def IQ{X:Type}(D:UnOp)(x:V)(k:V->ah X):ah X:=
 match D,x with
 |.not,.bool b=>k (.bool (!b))
 |.neg,.int C n=>k (.int C (C.wrap (0-n)))
 |_,_=>none
def aka{D:UnOp}{x:V}{k:V->ah X}(h:IQ D x k=some r):∃ z,k z=some r/\z.plain=true/\∀ (w:World) (B:Nat) (af:bB) (q:aa Nat) (u:Value),RV w B af q x u->∃ t,(Op.unary D u).run P w = .ok t w/\RV w B af [] z t:=by
 unfold IQ at h;split at h
 ·refine⟨_,h,rfl,λw B af q u C=>?_⟩
  obtain rfl:=C.Bp;exact⟨_,by simp[Op.unary],.bool _ _⟩
 ·refine⟨_,h,rfl,λw B af q u C=>?_⟩
  obtain rfl:=C.iS;exact⟨_,by simp[Op.unary,Op.intArith],.int _ _ _⟩
 ·cases h
def V.IS{x:V}(h:x.plain=true):x.aI=true:=by cases x<;>first|rfl|cases h
end
def kO(P:Program)(t:TypeId):ah Nat:=(P.info? t).map (·.size)
def FD(P:Program)(t:TypeId):ah Bool:=
 match P.underlying t with
 |some (.struct _)|some (.array _ _)=>some true
 |some _=>some false
 |none=>none
def sY(P:Program)(t:TypeId):ah TypeId:=
 match P.underlying t with
 |some (.slice e)=>some e
 |_=>none
def IT(P:Program)(s:TypeId)(f:Nat):ah Field:=
 match P.underlying s with
 |some (.struct fs)=>fs[f]?
 |_=>none
def zY{X:Type}(P:Program)(t:TypeId)(cs:aa Lf)(k:A->ah X):ah X:=
 match kO P t with
 | some n=>if cs.length=n then (match FD P t with
  |some true=>k (.agg cs)
  | some false=>(match cs with
   |[y]=>k (.lf y)
   |_=>none)
  |none=>none)else none
 |none=>none
def leaves(key:Nat->aa Nat):Nat->aa V->aa Lf
 |_,[]=>[]
 |j,z::C=>(bif z.aI then .v z else .own (key j))::leaves key (j+1) C
def qR{X:Type}(P:Program)(σ:S)(t:TypeId)(x:A)(k:A->ah X):ah X:=
 match kO P t with
 |none=>none
 | some n=>match x with
  | .aL r j=>(match σ.m r with
   |some (.aD cs)=>zY P t ((cs.drop j).take n) k
   |_=>none)
  |.kG cs=>zY P t ((cs.take n).map .v) k
  | .ptr (j :: i :: s :: q)=>kI σ.m q λy=>(match y with
   |.sl C (o+2) _ l=>if s=aF C then (if h:i<l.length then zY P t (leaves (λD=>D::i::s::q) j (((enc C o l[i]).drop j).take n)) k else none)else none
   |_=>none)
  |_=>none
section
variable {P:Program} {w:World} {w0:Wd} {B N:Nat} {af:bB} {ρ:Nat->Loc} {σ:S} {a:Act} {X:Type} {r:X} {o:Oper}
def aai(key:Nat -> aa Nat):∀ (j:Nat) (C:aa V) (n:Nat),(leaves key j C)[n]?=(C[n]?).map λz=>bif z.aI then .v z else .own (key (j+n))
 |_,[],n=>by simp[leaves]
 |j,z::C,0=>by simp[leaves]
 | j,z :: C,n+1=>by
  simp[leaves,List.getElem?_cons_succ,aai]
  grind
def S8{t:TypeId}{cs:aa Lf}{k:A -> ah X}(h:zY P t cs k=some r):∃ x,k x=some r /\ ∀ (w:World) (B:Nat) (af:bB) (ρ:Nat -> Loc) (b o:Nat) (D:aa Value),fG w B af ρ cs D.toArray -> w.rangeAt b o D ->
  ∃v,(Instr.loadAt t (.pointer (some ⟨b,o,none⟩))).run P w = .ok v w/\RA w B af ρ x v:=by
 unfold zY at h;split at h
 ·rename_i n T;split at h
  ·rename_i hlen;split at h
   ·rename_i C
    refine⟨_,h,λw B af ρ b o D hl I=>?_⟩
    have O:D.length=n:=by have:=hl.1;simpa [hlen]using this
    unfold FD at C;split at C
    next fs E=>exact⟨_,run_loadAt_mid w b o t D _ I E rfl (by rw[O];exact T),_,rfl,hl⟩
    next c e E=>exact⟨_,run_loadAt_mid w b o t D _ I E rfl (by rw[O];exact T),_,rfl,hl⟩
    ·cases C
    ·cases C
   ·rename_i C;split at h
    ·rename_i y
     refine⟨_,h,λw B af ρ b o D hl I=>?_⟩
     have O:D.length=1:=by have:=hl.1;simpa using this
     obtain⟨v,rfl⟩:=List.length_eq_one_iff.1 O;have U:w.cell? ⟨b,o,none⟩=some v:=I 0 v rfl;obtain⟨u,E,hR⟩:=hl.2 0 y rfl;have:v=u:=by simpa using E
     subst this;refine⟨v,?_,hR⟩;unfold FD at C;split at C
     ·cases C
     ·cases C
     ·rename_i d Z ha E;have Y:(isAgg t).run P w = .ok false w:=by
       unfold isAgg;rw[gW,iY E];simp_all
      simp[Instr.loadAt,Instr.sureAddr,loadVar,gW,Y,load,Sem.run,U]
     ·cases C
    ·cases h
   ·cases h
  ·cases h
 ·cases h
def M5{α:Type}(l:aa α)(j n i:Nat)(x:α)(h:((l.drop j).take n)[i]?=some x):i<n/\l[j+i]?=some x:=by grind
def aaj{t:TypeId}{x:A}{k:A -> ah X}(h:qR P σ t x k=some r):∃ y,k y=some r /\ ∀ af ρ a w,Rl w0 N af ρ σ a w -> ∀ u,RA w w0.heap.size af ρ x u ->
  ∃v,(Instr.loadAt t u).run P w = .ok v w/\RA w w0.heap.size af ρ y v:=by
 unfold qR at h;split at h
 ·cases h
 ·rename_i n hn;split at h
  ·rename_i r' j;split at h
   ·rename_i cs jn;obtain⟨y,Y,Z⟩:=S8 h
    refine⟨y,Y,λaf ρ a w hR u hu=>?_⟩
    obtain⟨b,off,cv,rfl⟩:=hu;have O:=hR.root r' _ jn;generalize U:aU.aD cs=x at O;cases O with
    |sl=>cases U
    |mp=>cases U
    |gh=>cases U
    | aD b' Dh cells e fW us jY hl hh hs hc=>
     injection U with U;subst U;rw[cv]at jY;injection jY with e1 e2;subst e1 e2
     refine Z w _ af ρ b (off+j) (((cs.drop j).take n).mapIdx λi _=>us (j+i)) ⟨by simp,λi x C=>?_⟩ (λi v D=>?_)
     ·obtain⟨hi,n5⟩:=M5 _ _ _ _ _ C;simp_all
     ·rw[List.getElem?_mapIdx]at D;cases C:((cs.drop j).take n)[i]? with
      |none=>rw[C]at D;cases D
      | some x=>
       rw[C]at D;injection D with D;subst D;obtain⟨hi,n5⟩:=M5 _ _ _ _ _ C;rw[cell_of_row w b _ cells _ _ hh,Nat.add_assoc];simp_all
   ·cases h
  ·rename_i cs;obtain⟨y,Y,Z⟩:=S8 h
   refine⟨y,Y,λaf ρ a w hR u hu=>?_⟩
   obtain⟨b,off,rfl,hb,hl,hc⟩:=hu;have qi:∀ (i:Nat) (x:Lf),((cs.take n).map Lf.v)[i]?=some x -> ∃ z v,x = .v z/\z.aI=true/\w.cell? ⟨b,off+i,none⟩=some v/\RV w w0.heap.size af [] z v:=by
    intro i x C;rw[fz]at C;cases I:(cs.take n)[i]? with
    |none=>rw[I]at C;cases C
    | some z=>
     rw[I]at C;injection C with C;rw[List.getElem?_take]at I;split at I
     ·obtain⟨vf,v,D,O⟩:=hc i z I
      grind
     ·cases I
   refine Z w _ af ρ b off (((cs.take n).map Lf.v).mapIdx λi _=>(w.cell? ⟨b,off+i,none⟩).getD undef) ⟨by simp,λi x C=>?_⟩ (λi v D=>?_)
   ·obtain⟨z,v,rfl,vf,D,O⟩:=qi i x C;refine⟨v,?_,vf,O⟩;simp_all
   ·rw[List.getElem?_mapIdx]at D;cases C:((cs.take n).map Lf.v)[i]? with
    |none=>rw[C]at D;cases D
    |some x =>grind
  ·rename_i j i s q;obtain⟨y0,hg,T⟩:=vc _ _ h;clear h;split at T
   ·rename_i E o' qn l;split at T
    ·rename_i hs;subst hs;split at T
     ·rename_i hi;obtain⟨y,Y,Z⟩:=S8 T
      refine⟨y,Y,λaf ρ a w hR u hu=>?_⟩
      obtain⟨ad,rfl,oL⟩:=hu;obtain⟨D,ng,lR⟩:=hg.ok hR.root;cases lR with
      |fC=>simp at hi
      |gF=>simp at hi
      |gO=>simp at hi
      |aI _ _ _ _ _ _ _ _ _ ho=>omega
      | own _ _ _ _ _ b cap cs us rY hh hs hn vb hc O=>
       rw[Dd j i (aF E) ng rY]at oL;injection oL with oL;subst oL;have qi:∀ (m:Nat) (x:Lf),(leaves (λj'=>j' :: i :: aF E :: q) j (((enc E o' l[i]).drop j).take n))[m]?=some x -> cs[i*aF E+(j+m)]?=some (us i (j+m))/\eE w w0.heap.size af ρ x (us i (j+m)):=by
        intro m x C;rw[aai]at C;cases I:(((enc E o' l[i]).drop j).take n)[m]? with
        |none=>rw[I]at C;cases C
        | some z=>
         rw[I]at C;injection C with C;have C:(bif z.aI then Lf.v z else Lf.own ((j+m)::i::aF E::q))=x:=C;obtain⟨_,FE⟩:=M5 _ _ _ _ _ I;have h3:=hc i hi _ z FE;have h4:=O i hi _ z FE;refine⟨h3,?_⟩;cases FF:z.aI with
         | true=>
          rw[FF]at C;subst C;exact⟨FF,h4.key FF⟩
         | false=>
          rw[FF]at C;have C:Lf.own ((j+m)::i::aF E::q)=x:=C;subst C;refine⟨?_,?_⟩
          ·exact h4.SY FF
          ·rw[MZ,Dd _ i _ ng rY];show w.cell? _=_;rw[cell_of_row w b _ cs _ _ hh];exact h3
       refine Z w _ af ρ b (i*aF E+j) ((leaves (λj'=>j'::i::aF E::q) j (((enc E o' l[i]).drop j).take n)).mapIdx λm _=>us i (j+m)) ⟨by simp,λm x C=>?_⟩ (λm v D=>?_)
       ·simp[*]
       ·rw[List.getElem?_mapIdx]at D;cases C:(leaves (λj'=>j' :: i :: aF E :: q) j (((enc E o' l[i]).drop j).take n))[m]? with
        |none=>rw[C]at D;cases D
        | some x=>
         rw[C]at D;injection D with D;subst D;rw[cell_of_row w b _ cs _ _ hh,Nat.add_assoc];simp_all
     ·cases T
    ·cases T
   ·cases T
  ·cases h
end
def A.Br:A->ah (aa Lf)
 |.lf x=>some [x]
 |.agg xs=>some xs
 |_=>none
def Lf.live:Lf->Bool
 |.dead=>false
 |_=>true
def Lf.pl:Lf->ah V
 |.v x=>bif x.plain then some x else none
 |_=>none
def uc:aa Lf->ah (aa V)
 |[]=>some []
 | x :: xs=>match x.pl,uc xs with
  |some y,some ys=>some (y::ys)
  |_,_=>none
def zZ{X:Type}(m:Nat->ah aU):aa Nat->V->((Nat->ah aU)->ah X)->ah X
 | [r],y,k=>match m r with
  |some (.sl _)=>k (bK m r (some (.sl y)))
  |_=>none
 | j :: i :: s :: q,y,k=>kI m q λz=>match z with
  | .sl t (o+2) C l=>if s=aF t then (if h:i<l.length then (if j<aF t then (match dec t o (splice (enc t o l[i]) j [y])with
   |some e=>zZ m q (.sl t (o+2) C (l.set i e)) k
   |none=>none)else none)else none)else none
  |_=>none
 |_,_,_=>none
def sZ{X:Type}(P:Program)(σ:S)(t:TypeId)(x y:A)(k:S->ah X):ah X:=
 match kO P t,y.Br with
 | some n,some xs=>if xs.length=n then (match x with
  | .aL r j=>(match σ.m r with
   |some (.aD cs)=>if j+n<=cs.length then (bif xs.all Lf.live then k ⟨σ.t,bK σ.m r (some (.aD (splice cs j xs)))⟩else none)else none
   |_=>none)
  | .ptr (j :: i :: s :: q)=>(match uc xs with
   |none=>none
   | some D=>kI σ.m q λy=>(match y with
    | .sl C (o+2) E l=>if s=aF C then (if h:i<l.length then (if j+D.length<=aF C then (bif (((enc C o l[i]).drop j).take D.length).all V.plain then (match dec C o (splice (enc C o l[i]) j D)with
     |some e=>zZ σ.m q (.sl C (o+2) E (l.set i e)) λm=>k ⟨σ.t,m⟩
     |none=>none)else none)else none)else none)else none
    |_=>none))
  |_=>none)else none
 |_,_=>none
section
variable {P:Program} {w:World} {w0:Wd} {B N:Nat} {af:bB} {ρ:Nat->Loc} {σ:S} {a:Act} {X:Type} {r:X} {o:Oper}
def aak{m:Nat -> ah aU}:∀ (q:aa Nat) (y:V) (k:(Nat -> ah aU) -> ah X),zZ m q y k=some r -> ∃ m',Bn m q y m'/\k m'=some r
 |[],_,_,h=>by simp[zZ]at h
 | [x],y,k,h=>by
  simp only[zZ]at h;split at h
  next D E=>exact⟨_,.root x D y E,h⟩
  ·cases h
 | j :: i :: s :: q,y,k,h=>by
  simp only[zZ]at h;obtain⟨z,I,C⟩:=vc q _ h;clear h;split at C
  ·split at C
   ·rename_i O;subst O;split at C
    ·rename_i hi;split at C
     ·rename_i T;split at C
      next e U=>obtain⟨m',Y,Z⟩:=aak q _ k C;exact⟨m',.elem j i q _ _ _ _ y e m' I hi T U Y,Z⟩
      ·cases C
     ·cases C
    ·cases C
   ·cases C
  ·cases C
def M6:∀ (xs:aa Lf) (C:aa V),uc xs=some C -> xs=C.map .v /\ ∀ v∈C,v.plain=true
 | [],C,h=>by
  simp[uc]at h;subst h;exact⟨rfl,by simp⟩
 | x :: xs,C,h=>by
  unfold uc at h;split at h
  ·rename_i y ys D E;injection h with h;subst h;obtain⟨I,O⟩:=M6 xs ys E;have:x = .v y/\y.plain=true:=by
    cases x with
    | v z=>
     unfold Lf.pl at D
     grind
    |own q=>cases D
    |dead=>cases D
   simp_all
  ·cases h
def akb{u:Value}(h:u.oneCell'=true):u.cells = #[u]:=by cases u<;>first|rfl|cases h
def eE.one{x:Lf}{u:Value}(h:eE w B af ρ x u)(C:x.live=true):u.oneCell'=true:=by
 cases x with
 |v z=>exact h.2.one
 | own k=>
  have:=h.1;cases u<;>first|rfl|cases this
 |dead=>cases C
def IU{y:A}{xs:aa Lf}(h:y.Br=some xs)(D:xs.all Lf.live=true){u:Value}(C:RA w B af ρ y u):fG w B af ρ xs u.cells/\u.cells.all (·.oneCell')=true:=by
 have key:∀ us:Array Value,fG w B af ρ xs us -> us.all (·.oneCell')=true:=by
  intro us E;rw[Array.all_eq_true];intro i hi;have O:=bL (by rw[<- E.1];exact hi);obtain⟨v,I,T⟩:=E.2 i _ O;have:us[i]=v:=by rw[Array.getElem?_eq_getElem hi]at I;injection I
  rw[this];exact T.one (cm.1 D _ (cX _))
 cases y with
 | lf x=>
  injection h with h;subst h;have C:eE w B af ρ x u:=C;have U:=C.one (by simpa using D);have:fG w B af ρ [x] u.cells:=by
   rw[akb U]
   refine⟨rfl,λj y Y=>?_⟩
   grind
  simp_all
 | agg Z=>
  injection h with h;subst h;obtain⟨us,rfl,h⟩:=C;exact⟨h,key _ h⟩
 |_=>cases h
def S9(w:World)(b o:Nat)(ty:TypeId)(v:Value)(D:w.there b o v.cells.size)(hi:(P.info? ty).map (·.size)=some v.cells.size)(I:v.cells.all (·.oneCell')=true):
  (Instr.storeAt ty (.pointer (some ⟨b,o,none⟩)) v).run P w = .ok () (w.setCells b o v.cells.toList):=by
 have:=run_storeCells_cells (P:=P) b o v.cells.toList 0 w (λj C=>by simpa using (D j (by simpa using C)).1) (λj C=>by simpa using (D j (by simpa using C)).2)
  (λv O=>(Array.all_eq_true_iff_forall_mem.1 I) v (by simpa using O))
 cases E:P.info? ty with
 |none=>simp_all
 | some i=>
  have T:v.cells.size=i.size:=by simp[E]at hi;omega
  simp[Instr.storeAt,Instr.sureAddr,storeVar,sizeOf,typeInfo,E,T,this]
def aal{t:TypeId}{x y:A}{k:S -> ah X}(h:sZ P σ t x y k=some r):∃ di,k di=some r /\ ∀ af ρ a w,Rl w0 N af ρ σ a w -> ∀ u v,RA w w0.heap.size af ρ x u -> RA w w0.heap.size af ρ y v ->
  ∃w',(Instr.storeAt t u v).run P w = .ok () w'/\Rl w0 N af ρ di a w':=by
 unfold sZ at h;split at h
 ·rename_i n xs hn rZ;split at h
  ·rename_i hlen;split at h
   ·rename_i r' j;split at h
    ·rename_i cs jn;split at h
     ·rename_i T;cases E:xs.all Lf.live with
      |false=>grind
      | true=>
       rw[E]at h
       refine⟨_,h,λaf ρ a w hR u v U Y=>?_⟩
       obtain⟨b,off,cv,rfl⟩:=U;obtain⟨hl,Z⟩:=IU rZ E Y;obtain⟨b',Dh,jY,IV,dK⟩:=hR.IM jn hl (by rw[hlen];exact T);rw[cv]at jY;injection jY with e1 e2;subst e1 e2;exact⟨_,S9 w b (off+j) t v IV (by rw[hl.1,hlen];exact hn) Z,dK⟩
     ·cases h
    ·cases h
   ·rename_i j i s q;split at h
    ·cases h
    ·rename_i D lS;obtain⟨y0,hg,C⟩:=vc _ _ h;clear h;split at C
     ·rename_i t' o' qn l;split at C
      ·rename_i hs;subst hs;split at C
       ·rename_i hi;split at C
        ·rename_i T;cases hold:(((enc t' o' l[i]).drop j).take D.length).all V.plain with
         |false=>grind
         | true=>
          rw[hold,av]at C;split at C
          ·rename_i e he;obtain⟨m',s7,h3⟩:=aak q _ _ C
           refine⟨_,h3,λaf ρ a w hR u v U Y=>?_⟩
           obtain⟨ad,rfl,oL⟩:=U;obtain⟨I,M7⟩:=M6 xs D lS;have E:xs.all Lf.live=true:=by rw[I];simp[Lf.live]
           obtain⟨hl,Z⟩:=IU rZ E Y;have z0:D.length=n:=by rw[<- hlen,I,fN]
           have q1:∀ (n':Nat) x,n'<D.length -> (enc t' o' l[i])[j+n']?=some x -> x.plain=true:=by
            intro n' x yz hx;refine cm.1 hold x (iR (i:=n') ?_);simp_all
           have q2:∀ (n':Nat) x,D[n']?=some x -> ∃ O,v.cells[n']?=some O/\RV w w0.heap.size af [] x O:=by
            intro n' x hx;obtain⟨O,yB,fP⟩:=hl.2 n' (.v x) (by rw[I,fz,hx];rfl);exact⟨O,yB,fP.2⟩
           obtain⟨b,hb,IV,dK⟩:=hR.aj6 (xs:=D) (us:=v.cells) hg hi T he q1 M7 (by rw[hl.1,I,fN]) q2 s7;rw[oL]at hb;injection hb with hb;subst hb;exact⟨_,S9 w b _ t v IV (by rw[hl.1,hlen];exact hn) Z,dK⟩
          ·cases C
        ·cases C
       ·cases C
      ·cases C
     ·cases C
   ·cases h
  ·cases h
 ·cases h
end
def FG{X:Type}(P:Program)(s:TypeId)(x:A)(f:Nat)(k:A->ah X):ah X:=
 match IT P s f with
 |none=>none
 | some fd=>match kO P fd.type with
  | some (_+1)=>(match x with
   |.aL r j=>k (.aL r (j+fd.offset))
   |.kG cs=>k (.kG (cs.drop fd.offset))
   |.ptr (j::i::s::q)=>k (.ptr ((j+fd.offset)::i::s::q))
   |_=>none)
  |_=>none
def Bt{X:Type}(P:Program)(σ:S)(t:TypeId)(x i:A)(k:A->ah X):ah X:=
 match sY P t with
 |none=>none
 | some e=>match kO P e,i with
  | some n,.lf (.v (.int _ iv))=>(match x with
   |.lf (.v (.sl C g _ l))=>if n=aF C then (bif Nat.blt g 2 then (if h:0<=iv/\iv.toNat<l.length then k (.kG (enc C g (l[iv.toNat]'h.2)))else none)else none)else none
   | .lf (.own q)=>kI σ.m q λy=>(match y with
    |.sl C g _ l=>if n=aF C then (if h:0<=iv/\iv.toNat<l.length then (bif Nat.blt g 2 then k (.kG (enc C g (l[iv.toNat]'h.2)))else k (.ptr (0::iv.toNat::aF C::q)))else none)else none
    |_=>none)
   |_=>none)
  |_,_=>none
def Di{X:Type}(P:Program)(σ:S)(t:TypeId)(x:A)(k:A->ah X):ah X:=
 match x with
 | .lf y=>rX σ y λz=>(match z with
  |.sl _ _ _ l=>(match P.underlying t with|some (.slice _)=>k (.lf (.v (.int .i64 (l.length:Int))))|_=>none)
  |.nil=>(match P.underlying t with|some (.slice _)=>k (.lf (.v (.int .i64 0)))|_=>none)
  |.str s=>(match P.underlying t with|some .string=>k (.lf (.v (.int .i64 (s.size:Int))))|_=>none)
  |_=>none)
 |.view _ _ i j=>(match P.underlying t with|some (.slice _)=>k (.lf (.v (.int .i64 ((j-i:Nat):Int))))|_=>none)
 |_=>none
def Bu:Bool×aa Lf->ah A
 |(true,cs)=>some (.agg cs)
 |(false,[y])=>some (.lf y)
 |_=>none
def Dj{X:Type}(x:A)(i:Nat)(k:A->ah X):ah X:=
 match x with
 | .fX xs=>match (xs[i]?).bind Bu with
  |some y=>k y
  |none=>none
 |_=>none
section
variable {P:Program} {w:World} {w0:Wd} {B N:Nat} {af:bB} {ρ:Nat->Loc} {σ:S} {a:Act} {X:Type} {r:X} {o:Oper} {w':World} {aC:bB} {ρ':Nat->Loc} {d:Nat}
def akc(n:Nat){j i s:Nat}{q:aa Nat}{ad:Addr}(h:addrAt w af ρ (j :: i :: s :: q)=some ad):addrAt w af ρ ((j+n) :: i :: s :: q)=some ⟨ad.block,ad.off+n,none⟩:=by
 match q,h with
 | [r],h=>
  simp[addrAt]at h ⊢;split at h
  ·grind
  ·cases h
 | x :: y :: q,h=>
  simp[addrAt]at h ⊢;split at h
  ·grind
  ·cases h
def Ta(w:World)(s:TypeId)(f:Nat)(fd:Field)(n b off:Nat)(C:IT P s f=some fd)(D:kO P fd.type=some (n+1)):
  (Instr.fieldAt s (.pointer (some ⟨b,off,none⟩)) f).run P w = .ok (.pointer (some ⟨b,off+fd.offset,none⟩)) w:=by
 unfold IT at C;split at C
 ·rename_i fs I;unfold kO at D;cases E:P.info? fd.type with
  |none=>simp_all
  | some i=>
   have hi:i.size=n+1:=by simpa [E]using D
   simp[Instr.fieldAt,iY I,C,Instr.sureAddr,fieldPlace,sizeOf,typeInfo,E,hi,Addr.add_mid]
 ·cases C
def akd{s:TypeId}{x:A}{f:Nat}{k:A -> ah X}(h:FG P s x f k=some r):∃ y,k y=some r /\ ∀ (w:World) (B:Nat) (af:bB) (ρ:Nat -> Loc) (u:Value),RA w B af ρ x u ->
  ∃v,(Instr.fieldAt s u f).run P w = .ok v w/\RA w B af ρ y v:=by
 unfold FG at h;split at h
 ·cases h
 ·rename_i fd D;split at h
  ·rename_i n E;split at h
   ·rename_i r' j
    refine⟨_,h,λw B af ρ u C=>?_⟩
    obtain⟨b,off,T,rfl⟩:=C;exact⟨_,Ta w s f fd n b _ D E,b,off,T,by rw[Nat.add_assoc]⟩
   ·rename_i cs
    refine⟨_,h,λw B af ρ u C=>?_⟩
    obtain⟨b,off,rfl,hb,hl,Y⟩:=C
    refine⟨_,Ta w s f fd n b _ D E,b,_,rfl,hb,hl,λj x Z=>?_⟩
    grind
   ·rename_i j i s' q
    refine⟨_,h,λw B af ρ u C=>?_⟩
    obtain⟨ad,rfl,I⟩:=C;have U:=akc fd.offset I;obtain⟨_,_,_,_,_,_,_,O,_⟩:=De _ _ I;obtain⟨b,off,sp⟩:=ad;simp only at O;subst O;exact⟨_,Ta w s f fd n b off D E,_,rfl,U⟩
   ·cases h
  ·cases h
def Tc(w:World)(t e:TypeId)(n b off len cap:Nat)(I:IntKind)(iv:Int)(C:sY P t=some e)(D:kO P e=some n)(O:0 <= iv)(Z:iv.toNat<len):
  (Instr.indexAt t (.slice (some ⟨b,off,none⟩) len cap) (.int I iv)).run P w = .ok (.pointer (some ⟨b,off+iv.toNat*n,none⟩)) w:=by
 unfold sY at C;split at C
 ·rename_i T U;injection C with C;subst C;unfold kO at D;cases E:P.info? T with
  |none=>simp_all
  | some i=>
   have hi:i.size=n:=by simpa [E]using D
   have Y:iv<len:=by omega
   simp[Instr.indexAt,iY U,asIntOf,O,Y,sizeOf,typeInfo,E,hi,Addr.add_mid]
 ·cases C
def ake{t:TypeId}{x i:A}{k:A -> ah X}(h:Bt P σ t x i k=some r):∃ y,k y=some r /\ ∀ af ρ a w,Rl w0 N af ρ σ a w -> ∀ u v,RA w w0.heap.size af ρ x u -> RA w w0.heap.size af ρ i v ->
  ∃p,(Instr.indexAt t u v).run P w = .ok p w/\RA w w0.heap.size af ρ y p:=by
 unfold Bt at h;split at h
 ·cases h
 ·rename_i e Z;split at h
  ·rename_i n kk iv hn;split at h
   ·rename_i t' g qn l;split at h
    ·rename_i Dk;subst Dk;cases D:Nat.blt g 2 with
     |false=>grind
     | true=>
      rw[D,av]at h;split at h
      ·rename_i hb
       refine⟨_,h,λaf ρ a w hR u v E I=>?_⟩
       obtain rfl:=I.2.iS;have wN:g<2:=by have:=cH D;omega
       cases E.2 with
       |fC=>simp at hb
       |gF=>simp at hb
       |gO=>simp at hb
       |own=>grind
       | aI _ _ _ _ _ b off cap us ho hl M8 h1 lQ hc Y=>
        refine⟨_,Tc w t e _ b off _ cap kk iv Z hn hb.1 hb.2,b,_,rfl,M8,hl,λj x O=>⟨sX t' g _ wN j x O,us _ j,?_,Y _ hb.2 j x O⟩⟩
        grind
      ·cases h
    ·cases h
   ·rename_i q;obtain⟨y0,D,C⟩:=vc _ _ h;clear h;split at C
    ·rename_i t' T qn l;split at C
     ·rename_i Dk;subst Dk;split at C
      ·rename_i hb;cases U:Nat.blt T 2 with
       | true=>
        rw[U,av]at C;have ho2:T<2:=cH U
        refine⟨_,C,λaf ρ a w hR u v E I=>?_⟩
        obtain rfl:=I.2.iS;obtain⟨wJ,ng,lR⟩:=D.ok hR.root;have:wJ=u:=by
         have h3:=E.2;simp_all
        subst this;cases lR with
        |fC=>simp at hb
        |gF=>simp at hb
        |gO=>simp at hb
        |own=>grind
        | aI _ _ _ _ _ b off cap us ho hl M8 h1 lQ hc Y=>
         refine⟨_,Tc w t e _ b off _ cap kk iv Z hn hb.1 hb.2,b,_,rfl,M8,hl,λj x O=>⟨sX t' T _ ho2 j x O,us _ j,?_,Y _ hb.2 j x O⟩⟩
         grind
       | false=>
        rw[U,ax]at C;have ho2:¬ T<2:=λdA=>by have h9:Nat.blt T 2=true:=jI dA;rw[h9]at U;cases U
        refine⟨_,C,λaf ρ a w hR u v E I=>?_⟩
        obtain rfl:=I.2.iS;obtain⟨wJ,ng,lR⟩:=D.ok hR.root;have:wJ=u:=by
         have h3:=E.2;simp_all
        subst this;cases lR with
        |fC=>simp at hb
        |gF=>simp at hb
        |gO=>simp at hb
        |aI _ _ _ _ _ _ _ _ _ ho=>omega
        | own _ _ _ _ _ b cap cs us rY hh hs yz vb hc Y=>
         refine⟨_,Tc w t e _ b 0 _ cap kk iv Z hn hb.1 hb.2,_,rfl,?_⟩;rw[Dd 0 _ _ ng rY];simp
      ·cases C
     ·cases C
    ·cases C
   ·cases h
  ·cases h
def akf{t ty:TypeId}{x:A}{k:A->ah X}(h:Di P σ t x k=some r):∃ y,k y=some r/\∀ af ρ a w,Rl w0 N af ρ σ a w->∀ u,RA w w0.heap.size af ρ x u->
  ∃v,(Builtin.len_ #[t] ty #[u]).run P w = .ok v w/\RA w w0.heap.size af ρ y v:=by
 unfold Di at h;split at h
 ·rename_i y;have key:∃ z,(∀ af ρ a w,Rl w0 N af ρ σ a w->∀ u,eE w w0.heap.size af ρ y u->∃ q,RV w w0.heap.size af q z u)/\(match z with
    |.sl _ _ _ l=>(match P.underlying t with|some (.slice _)=>k (.lf (.v (.int .i64 (l.length:Int))))|_=>none)
    |.nil=>(match P.underlying t with|some (.slice _)=>k (.lf (.v (.int .i64 0)))|_=>none)
    |.str s=>(match P.underlying t with|some .string=>k (.lf (.v (.int .i64 (s.size:Int))))|_=>none)
    |_=>none)=some r:=by
   cases y with
   |v z=>exact⟨z,λaf ρ a w _ u D=>⟨[],D.2⟩,h⟩
   |dead=>cases h
   | own q=>
    obtain⟨z,O,h⟩:=vc q _ h
    refine⟨z,λaf ρ a w hR u D=>?_,h⟩
    obtain⟨v,U,I⟩:=O.ok hR.root;have T:=D.2;rw[U]at T;injection T with T;subst T;exact⟨q,I⟩
  obtain⟨z,O,C⟩:=key;clear h;split at C
  ·rename_i Y g Z l;split at C
   ·rename_i e E
    refine⟨_,C,λaf ρ a w hR u D=>?_⟩
    obtain⟨q,I⟩:=O af ρ a w hR u D;cases I with
    |fC=>exact⟨_,by simp[Builtin.len_,iY E,goInt],rfl,.int _ _ _⟩
    |gF=>exact⟨_,by simp[Builtin.len_,iY E,goInt],rfl,.int _ _ _⟩
    |gO=>exact⟨_,by simp[Builtin.len_,iY E,goInt],rfl,.int _ _ _⟩
    |aI=>exact⟨_,by simp[Builtin.len_,iY E,goInt],rfl,.int _ _ _⟩
    |own=>exact⟨_,by simp[Builtin.len_,iY E,goInt],rfl,.int _ _ _⟩
   ·cases C
  ·split at C
   ·rename_i e E
    refine⟨_,C,λaf ρ a w hR u D=>?_⟩
    obtain⟨q,I⟩:=O af ρ a w hR u D;cases I;exact⟨_,by simp[Builtin.len_,iY E,goInt],rfl,.int _ _ _⟩
   ·cases C
  ·split at C
   ·rename_i E
    refine⟨_,C,λaf ρ a w hR u D=>?_⟩
    obtain⟨q,I⟩:=O af ρ a w hR u D;obtain rfl:=I.zX;exact⟨_,by simp[Builtin.len_,iY E,goInt],rfl,.int _ _ _⟩
   ·cases C
  ·cases C
 ·split at h
  ·rename_i e E
   refine⟨_,h,λaf ρ a w hR u D=>?_⟩
   obtain⟨A,n,c,U,h1,C,rfl⟩:=D;exact⟨_,by cases A<;>simp[sliced,Builtin.len_,iY E,goInt],rfl,.int _ _ _⟩
  ·cases h
 ·cases h
def Td{p:Bool×aa Lf}{y:A}(h:Bu p=some y){u:Value}(C:RP w B af ρ p u):RA w B af ρ y u:=by
 unfold Bu at h;split at h
 ·injection h with h;subst h;exact C
 ·rename_i z;injection h with h;subst h;obtain⟨D,E,I⟩:=C.2 0 z rfl;have:u=D:=by simpa using E
  subst this;exact I
 ·cases h
def akg{x:A}{i:Nat}{k:A -> ah X}(h:Dj x i k=some r):∃ y,k y=some r /\ ∀ (w:World) (B:Nat) (af:bB) (ρ:Nat -> Loc) (u:Value),RA w B af ρ x u ->
  ∃v,(Instr.extract u i).run P w = .ok v w/\RA w B af ρ y v:=by
 unfold Dj at h;split at h
 ·rename_i xs;split at h
  ·rename_i y C
   refine⟨y,h,λw B af ρ u E=>?_⟩
   obtain⟨us,rfl,U,I⟩:=E;cases D:xs[i]? with
   |none=>simp_all
   | some p=>
    rw[D]at C;obtain⟨v,O,T⟩:=I i p D;exact⟨v,by simp[Instr.extract,O],Td C T⟩
  ·cases h
 ·cases h
def aam{k:aa Nat}(h:cV d k=true):[d] <:+ k:=by
 have h:k.getLast?=some d:=by simpa [cV]using h
 obtain⟨y,C⟩:=List.getLast?_eq_some_iff.1 h;simp_all
def M9{j i s:Nat}{q:aa Nat}(C:q≠[]):cV d (j :: i :: s :: q)=cV d q:=by
 cases q with
 |nil=>simp_all
 |cons x q=>simp[cV]
structure FH (w w':World) (af aC:bB) (d:Nat):Prop where
 size:w.heap.size<=w'.heap.size
 block:∀b,b<w.heap.size->af b≠some [d]->w'.heap[b]?=w.heap[b]?
 Te:∀b,b<w.heap.size->aC b=af b
 ne:∀b,af b≠some []
def FH.tr(C:FH w w' af aC d)(D:∀ b k,af b=some k->b<w.heap.size)(E:∀ r,r≠d->ρ' r=ρ r):Tr w w' af aC ρ ρ' (cV d) (λr=>Nat.beq r d):=by
 refine⟨C.size,λb hb hl=>⟨C.block b hb (by rw[hl];simp),(C.Te b hb).trans hl⟩,λb k hl I=>⟨C.block b (D b k hl) ?_,(C.Te b (D b k hl)).trans hl⟩,λr O=>E r (by rintro rfl;simp at O),λj i s x q=>M9 (by simp),λb hb=>absurd hb (C.ne b)⟩
 rw[hl];intro e;injection e with e;subst e;simp[cV]at I
def RA.Tf{x:A}{u:Value}(h:RA w B af ρ x u)(C:FH w w' af aC d)(D:∀b k,af b=some k->b<w.heap.size)(E:∀r,r≠d->ρ' r=ρ r):RA w' B aC ρ' (x.drop d) u:=h.tr (C.tr D E) (yu (λ_ h=>h) λ_=>rU)
def eV.Tf{r:Nat}(C:r≠d){x:aU}(h:eV w B af ρ r x)(D:FH w w' af aC d)(E:∀b k,af b=some k->b<w.heap.size)(I:∀r,r≠d->ρ' r=ρ r):eV w' B aC ρ' r (x.drop d):=h.tr (D.tr E I) (yu (λ_ h=>h) λ_=>rU) (by simpa [cV]using C) (rU C)
def Rl.Bv{x:aU}(h:Rl w0 N af ρ σ a w)(U:w0.F d=none)(hb:kH w0 w w')(E:FH w w' af aC d)(Y:∀ b k,w.heap.size <= b -> aC b=some k -> b<w'.heap.size/\k≠[])(I:∀ r,r≠d -> ρ' r=ρ r)(hx:eV w' w0.heap.size aC ρ' d x):
  Rl w0 N aC ρ' ((σ.drop d).root d x) a w':=by
 have T:=λb k hb=>(h.dj b k hb).2.1
 refine⟨h.below.trans hb,λb k O=>?_,λr y C=>?_,λk=>(h.tmp k).Tf E T I,h.size,h.defers,λr Z D=>(I r (by rintro rfl;rw[U]at D;cases D)).trans (h.fix r Z D),h.cT⟩
 ·rcases Nat.lt_or_ge b w.heap.size with dA | rV
  ·rw[E.Te b dA]at O;have:=h.dj b k O;exact⟨this.1,Nat.lt_of_lt_of_le this.2.1 E.size,this.2.2⟩
  ·have:=Y b k rV O;exact⟨.inl (Nat.le_trans h.below.size rV),this.1,this.2⟩
 ·by_cases D:r=d
  ·subst D;have C:(bK (σ.drop r).m r _) r=some y:=C;rw[bT]at C;simp_all
  ·have C:(bK (σ.drop d).m d (some x)) r=some y:=C;rw[cz _ _ _ D]at C;have hb:Nat.beq r d=false:=by
    cases hb:Nat.beq r d with
    |false=>rfl
    |true=>simp_all
   simp only[S.drop,hb,ax]at C;cases hm:σ.m r with
   |none=>simp_all
   | some z=>
    rw[hm]at C;injection C with C;subst C;exact(h.root r z hm).Tf D E T I
end
def jb(q:Nat)(nk k:aa Nat):aa Nat:=bif cV q k then k.dropLast++nk else k
def bB.jb(af:bB)(q:Nat)(nk:aa Nat):bB:=λb=>(af b).map (Proofs.YthmgjjfedieljaaGreat.jb q nk)
section
variable {P:Program} {w w':World} {w0:Wd} {B N:Nat} {af aC:bB} {ρ ρ':Nat->Loc} {σ:S} {a:Act} {X:Type} {d q:Nat} {nk:aa Nat}
def aan:jb q nk [q]=nk:=by simp[jb,cV]
def akh{k:aa Nat}(h:cV q k=false):jb q nk k=k:=by simp[jb,h]
def aki{j i s:Nat}{k:aa Nat}(C:k≠[]):jb q nk (j :: i :: s :: k)=j :: i :: s :: jb q nk k:=by
 unfold jb;rw[M9 C];cases cV q k with
 |false=>rfl
 | true=>
  cases k with
  |nil=>simp_all
  |cons x k=>simp
def aao{k:aa Nat}(C:nk≠[])(D:k≠[]):jb q nk k≠[]:=by
 unfold jb;cases cV q k with
 |false=>simp_all
 |true=>simp[C]
def bB.Tg{b:Nat}(h:af b=none):af.jb q nk b=none:=by simp[bB.jb,h]
def bB.aap{b:Nat}{k:aa Nat}(h:af b=some k):af.jb q nk b=some (Proofs.YthmgjjfedieljaaGreat.jb q nk k):=by simp[bB.jb,h]
def bB.aaq{b:Nat}{k:aa Nat}(h:af b=some k)(C:cV q k=false):af.jb q nk b=some k:=by rw[bB.aap h,akh C]
def RV.jb{k:aa Nat}{x:V}{v:Value}(h:RV w B af k x v)(D:∀ b,af b≠some []):RV w B (af.jb q nk) (Proofs.YthmgjjfedieljaaGreat.jb q nk k) x v:=
 h.map (Q:=λk C=>C=Proofs.YthmgjjfedieljaaGreat.jb q nk k) (dg _) (λb _ h=>⟨rfl,bB.Tg h⟩) (λb k C _ hl e=>by
  subst e;exact⟨rfl,bB.aap hl,λj i s=>(aki λe=>D b (e ▸ hl)).symm⟩) (.inr rfl)
structure Rel (q:Nat) (af aC:bB):Prop where
 ne:∀b,af b≠some []
 none:∀b,af b=none->aC b=Option.none
 kF:∀b k,af b=some k->cV q k=false->aC b=some k
def IW(C:∀b,af b≠some []):Rel q af (af.jb q nk):=⟨C,λ_ h=>bB.Tg h,λ_ _ h D=>bB.aaq h D⟩
def Rel.tr(C:Rel q af aC):Tr w w af aC ρ ρ (cV q) (λ_=>false):=
 ⟨dg _,λb _ hl=>⟨rfl,C.none b hl⟩,λb k hl D=>⟨rfl,C.kF b k hl D⟩,λ_ _=>rfl,λj i s x q=>M9 (by simp),λb hb=>absurd hb (C.ne b)⟩
def RV.rel(C:Rel q af aC){k:aa Nat}{x:V}{v:Value}(h:RV w B af k x v)(D:cV q k=false\/x.aI=true):RV w B aC k x v:=h.tr (ρ:=λ_=>.dP undef) C.tr D.symm
def akj(C:Rel q af aC)(k:aa Nat)(u:Value)(D:cV q k=false)(h:de w af ρ k=some u):de w aC ρ k=some u:=S2 C.tr k u (.inr D) (S3 k) h
def fG.rel(C:Rel q af aC){cs:aa Lf}{us:Array Value}(h:fG w B af ρ cs us):fG w B aC ρ (cs.map (Lf.drop q)) us:=h.tr C.tr (yu (λ_ h=>h) λ_ _=>rfl)
def RA.rel(C:Rel q af aC){x:A}{u:Value}(h:RA w B af ρ x u):RA w B aC ρ (x.drop q) u:=h.tr C.tr (yu (λ_ h=>h) λ_ _=>rfl)
def eV.rel(C:Rel q af aC){r:Nat}(D:r≠q){x:aU}(h:eV w B af ρ r x):eV w B aC ρ r (x.drop q):=h.tr C.tr (yu (λ_ h=>h) λ_ _=>rfl) (by simpa [cV]using D) rfl
def Rl.Aa(h:Rl w0 N af ρ σ a w):∀b,af b≠some []:=λb hb=>(h.dj b [] hb).2.2 rfl
def Rl.rel(h:Rl w0 N af ρ σ a w)(E:Rel q af aC)(O:∀ b k,aC b=some k -> (∃ D,af b=some D)/\k≠[]):Rl w0 N aC ρ (σ.drop q) a w:=by
 refine⟨h.below,λb k T=>?_,λr x C=>?_,λk=>(h.tmp k).rel E,h.size,h.defers,h.fix,h.cT⟩
 ·obtain⟨⟨D,hl⟩,Y⟩:=O b k T;have:=h.dj b D hl;simp_all
 ·have C:(bif Nat.beq r q then none else (σ.m r).map _)=some x:=C;cases hb:Nat.beq r q with
  |true=>simp_all
  | false=>
   rw[hb]at C;have U:r≠q:=by rintro rfl;simp at hb
   cases I:σ.m r with
   |none=>simp_all
   | some y=>
    rw[I]at C;injection C with C;subst C;exact(h.root r y I).rel E U
def Rl.akk{z:V}(h:Rl w0 N af ρ σ a w)(O:σ.m q=some (.sl z))(T:nk≠[]):∃ u,ρ q = .dP u/\Rl w0 N (af.jb q nk) ρ (σ.drop q) a w/\RV w w0.heap.size (af.jb q nk) nk z u:=by
 have E:=h.Aa;have I:=h.root q _ O;generalize C:aU.sl z=x at I;cases I with
 |aD=>cases C
 |mp=>cases C
 |gh=>cases C
 | sl u y U Y=>
  injection C with C;subst C
  refine⟨u,U,h.rel (IW E) λb k D=>?_,?_⟩
  ·unfold bB.jb at D;cases hl:af b with
   |none=>simp_all
   | some Z=>
    rw[hl]at D;injection D with D;subst D;exact⟨⟨Z,rfl⟩,aao T (λe=>E b (by rw[hl,e]))⟩
  ·have:=Y.jb (q:=q) (nk:=nk) E
   rwa [aan]at this
def jo(r:Nat)(key:Nat->aa Nat):Nat->Nat->aa Lf->S->ah (aa V×S)
 |_,_,[],σ=>some ([],σ)
 |f+1,j,.v x::xs,σ=>(jo r key f (j+1) xs σ).map λp=>(x::p.1,p.2)
 | f+1,j,.own [q] :: xs,σ=>match σ.m q with
  |some (.sl z)=>bif Nat.beq q r then none else (jo r key f (j+1) (xs.map (Lf.drop q)) (σ.drop q)).map λp=>(z::p.1,p.2)
  |_=>none
 |_,_,_,_=>none
def Na{r:Nat}{key:Nat->aa Nat}(Y:∀ j,cV r (key j)=true):∀ (f j:Nat) (xs:aa Lf) (σ E:S) (I:aa V),jo r key f j xs σ=some (I,E)->∀ af ρ a w,Rl w0 N af ρ σ a w->∀ us:aa Value,fG w w0.heap.size af ρ xs us.toArray->
  ∃ aC,Rl w0 N aC ρ E a w/\I.length=xs.length/\(∀ (n:Nat) x,I[n]?=some x->∃ u,us[n]?=some u/\RV w w0.heap.size aC (key (j+n)) x u)/\(∀ k x v,cV r k=true->RV w w0.heap.size af k x v->RV w w0.heap.size aC k x v)/\
   (∀x,σ.m r=some (.sl x)->E.m r=some (.sl x))/\(∀k u,cV r k=true->de w af ρ k=some u->de w aC ρ k=some u)/\(∀b,af b=some [r]->aC b=some [r])/\(∀b,af b=none->aC b=none)
 | 0,j,[],σ,E,I,h,af,ρ,a,w,hR,us,O=>by
  simp only[jo,jJ,Prod.mk.injEq]at h;obtain⟨rfl,rfl⟩:=h;exact⟨af,hR,rfl,by simp,λ_ _ _ _ h=>h,λ_ h=>h,λ_ _ _ h=>h,λ_ h=>h,λ_ h=>h⟩
 | f+1,j,[],σ,E,I,h,af,ρ,a,w,hR,us,O=>by
  simp only[jo,jJ,Prod.mk.injEq]at h;obtain⟨rfl,rfl⟩:=h;exact⟨af,hR,rfl,by simp,λ_ _ _ _ h=>h,λ_ h=>h,λ_ _ _ h=>h,λ_ h=>h,λ_ h=>h⟩
 |0,j,x::xs,σ,E,I,h,af,ρ,a,w,hR,us,O=>by simp[jo]at h
 | f+1,j,x :: xs,σ,E,I,h,af,ρ,a,w,hR,us,O=>by
  obtain⟨U,us,rfl⟩:∃ U Nb,us=U :: Nb:=by
   cases us with
   |nil=>have:=O.1;simp at this
   |cons U us=>exact⟨_,_,rfl⟩
  have Z:eE w w0.heap.size af ρ x U:=by
   obtain⟨u,e,h⟩:=O.2 0 x rfl;simp at e;subst e;exact h
  have oK:fG w w0.heap.size af ρ xs us.toArray:=⟨by have:=O.1;simpa using this,λn y C=>by
   obtain⟨u,e,h⟩:=O.2 (n+1) y C;exact⟨u,by simpa using e,h⟩⟩
  cases x with
  | v x=>
   simp only[jo,Option.map_eq_some_iff]at h;obtain⟨⟨Th,vg⟩,h,e⟩:=h;simp only[Prod.mk.injEq]at e;obtain⟨rfl,rfl⟩:=e;obtain⟨aC,h1,h2,h3,D,h5⟩:=Na Y f (j+1) xs σ vg Th h af ρ a w hR us oK
   refine⟨aC,h1,by simp[h2],λn y C=>?_,D,h5⟩
   cases n with
   | zero=>
    simp at C;subst C;refine⟨U,rfl,D _ _ _ (Y _) (Z.2.key Z.1)⟩
   | succ n=>
    obtain⟨u,e,h⟩:=h3 n y (by simpa using C);exact⟨u,by simpa using e,by rw[show j+(n+1)=j+1+n by omega];exact h⟩
  |dead=>simp[jo]at h
  | own k=>
   match k,Z,h with
   |[],_,h=>simp[jo]at h
   |_::_::_,_,h=>simp[jo]at h
   | [q],Z,h=>
    simp only[jo]at h;split at h
    ·rename_i z hz;cases Ti:Nat.beq q r with
     |true=>rw[Ti]at h;cases h
     | false=>
      rw[Ti,ax,Option.map_eq_some_iff]at h;obtain⟨⟨Th,vg⟩,akl,e⟩:=h;simp only[Prod.mk.injEq]at e;obtain⟨rfl,rfl⟩:=e;have bQ:q≠r:=by rintro rfl;simp at Ti
      have hkj:key j≠[]:=by intro e;have:=Y j;rw[e]at this;simp[cV]at this
      obtain⟨u,cv,dK,lR⟩:=hR.akk hz hkj;have IX:u=U:=by
       have D:=Z.2;simp only[de,cv]at D;injection D
      subst IX;have qS:∀ k,cV r k=true->cV q k=false:=by
       intro k T;cases hq:cV q k with
       |false=>rfl
       | true=>
        exfalso;have h1:=aam T;have h2:=aam hq;exact bQ (aae h1 h2)
      obtain⟨aC,h1,h2,h3,D,h5,h6,h7,h8⟩:=Na Y f (j+1) (xs.map (Lf.drop q)) (σ.drop q) vg Th akl _ ρ a w dK us (oK.rel (IW hR.Aa))
      refine⟨aC,h1,by simp[h2],λn y C=>?_,λk x v T hv=>D _ _ _ T (hv.rel (IW hR.Aa) (.inl (qS k T))),λx hx=>h5 x ?_,λk v T hv=>h6 k v T (akj (IW hR.Aa) k v (qS k T) hv),λb hb=>h7 b (bB.aaq hb (by simpa [cV]using λe=>bQ e.symm)),λb hb=>h8 b (bB.Tg hb)⟩
      ·cases n with
       | zero=>
        simp at C;subst C;exact⟨u,rfl,D _ _ _ (Y _) lR⟩
       | succ n=>
        obtain⟨u,e,h⟩:=h3 n y (by simpa using C);exact⟨u,by simpa using e,by rw[show j+(n+1)=j+1+n by omega];exact h⟩
      ·have hb:Nat.beq r q=false:=by
        cases hb:Nat.beq r q with
        |false=>rfl
        |true=>exact absurd (c8 hb).symm bQ
       show (bif Nat.beq r q then none else (σ.m r).map (aU.drop q))=_;rw[hb,hx];rfl
    ·cases h
end
def qT:Value->Lf
 |.int k n=>.v (.int k n)
 |.bool b=>.v (.bool b)
 |.string s=>.v (.str s)
 |.slice none 0 0=>.v .nil
 |_=>.dead
def zeroV:Value->ah V
 |.int k n=>some (.int k n)
 |.bool b=>some (.bool b)
 |.string s=>some (.str s)
 |.slice none 0 0=>some .nil
 |_=>none
def IY:aa Value->ah (aa V)
 |[]=>some []
 | v :: C=>match zeroV v,IY C with
  |some x,some xs=>some (x::xs)
  |_,_=>none
def zeroOf(P:Program)(e:TypeId):ah Value:=(P.info? e).bind (·.zero)
def bytesOf(P:Program)(e:TypeId):ah Nat:=(P.info? e).map (·.bytes)
def iU{X:Type}(N:Nat)(σ:S)(d:Nat)(x:aU)(y:A)(k:S->ah X):ah X:=
 bif Nat.blt d N then k (((σ.drop d).root d x).set d y)else none
def ud{X:Type}(P:Program)(N:Nat)(σ:S)(d:Nat)(e:TypeId)(k:S->ah X):ah X:=
 match zeroOf P e with
 |some z=>iU N σ d (.aD (z.cells.toList.map qT)) (.aL d 0) k
 |none=>none
def yC(P:Program)(t:TypeId):ah (TypeId×TC):=
 match sY P t with
 |none=>none
 | some e=>match Z8 e,kO P e,bytesOf P e with
  |some tc,some n,some b=>bif Nat.beq n (aF tc)&&Nat.ble b 65536 then some (e,tc)else none
  |_,_,_=>none
def Nc(P:Program)(e:TypeId)(tc:TC):ah (T tc):=
 match zeroOf P e with
 |none=>none
 | some z=>match IY z.cells.toList with
  |none=>none
  |some C=>dec tc (full tc) C
def Bw{X:Type}(P:Program)(N:Nat)(σ:S)(d:Nat)(t:TypeId)(l c:A)(k:S->ah X):ah X:=
 match yC P t,l,c with
 | some (e,tc),.lf (.v (.int _ n)),.lf (.v (.int _ c))=>match Nc P e tc with
  |none=>none
  |some z=>if 0<=n/\n<=c/\c<1073741824 then iU N σ d (.sl (.sl tc (full tc+2) false (List.replicate n.toNat z))) (.lf (.own [d])) k else none
 |_,_,_=>none
def V.Nd(t:TC):V->ah (aa (T t))
 |.sl C _ _ l=>if h:C=t then some (h ▸ l)else none
 |.nil=>some []
 |_=>none
def wO{X:Type}(P:Program)(N:Nat)(σ:S)(d:Nat)(t:TypeId)(x y:A)(k:S->ah X):ah X:=
 match yC P t with
 | some (e,tc)=>bif Nat.beq (full tc) 0&&(zeroOf P e).any (λz=>Nat.beq z.cells.size (aF tc))then ve σ y λC=>(match C.Nd tc with
  |none=>none
  | some l2=>match x with
   |.lf (.v .nil)=>bif cB l2.length then iU N σ d (.sl (.sl tc 2 false l2)) (.lf (.own [d])) k else none
   | .lf (.own [r])=>(match σ.m r with
    |some (.sl (.sl D (o+2) q l))=>if h:D=tc then (bif Nat.blt d N&&(Nat.blt r N ||Nat.ble 60000 r)&&cB (l.length+l2.length)then k (((σ.drop r).root r (.sl (.sl tc (o+2) false ((h ▸ l)++l2)))).set d (.lf (.own [r])))else none)else none
    |_=>none)
   |_=>none)else none
 |none=>none
section
variable {P:Program} {w w':World} {w0:Wd} {B N:Nat} {af aC:bB} {ρ ρ':Nat->Loc} {σ:S} {a:Act} {X:Type} {d:Nat} {r:X} {q:Nat} {o:Oper}
def Nf(v:Value):eE w B af ρ (qT v) v:=by
 unfold qT;split
 ·exact⟨rfl,.int _ _ _⟩
 ·exact⟨rfl,.bool _ _⟩
 ·exact⟨rfl,.str _ _⟩
 ·exact⟨rfl,.nil _⟩
 ·trivial
def aar{v:Value}{x:V}(h:zeroV v=some x)(q:aa Nat):RV w B af q x v:=by
 unfold zeroV at h;split at h<;>first|(injection h with h;subst h;first|exact .int _ _ _|exact .bool _ _|exact .str _ _|exact .nil _)|cases h
def Tj:∀ (C:aa Value) (xs:aa V),IY C=some xs -> xs.length=C.length /\ ∀ (j:Nat) x,xs[j]?=some x -> ∃ v,C[j]?=some v/\zeroV v=some x
 | [],xs,h=>by
  simp[IY]at h;simp_all
 | v :: C,xs,h=>by
  unfold IY at h;split at h
  ·rename_i y ys E D;injection h with h;subst h;obtain⟨I,O⟩:=Tj C ys D
   grind
  ·cases h
def kH.aas(w0:Wd)(w:World)(o:Obj)(h:w0.heap.size<=w.heap.size):kH w0 w (w.alloc o):=.of ((Below.refl w0.heap.size w).alloc h o) (dg _)
def Rl.Dl{c:Array Value}{e:TypeId}{x:aU}{ρ':Nat -> Loc}(h:Rl w0 N af ρ σ a w)(D:w0.F d=none)(E:∀ r,r≠d -> ρ' r=ρ r)
  (I:eV (w.alloc (.cells c e)) w0.heap.size (bK af w.heap.size (some [d])) ρ' d x):Rl w0 N (bK af w.heap.size (some [d])) ρ' ((σ.drop d).root d x) a (w.alloc (.cells c e)):=by
 refine h.Bv D (kH.aas w0 w _ h.below.size) ⟨by simp,λb hb _=>Below.heap_alloc w _ b hb,λb hb=>cz _ _ _ (by omega),λb hb=>(h.dj b [] hb).2.2 rfl⟩ (λb k hb C=>?_) E I
 by_cases e:b=w.heap.size
 ·subst e;rw[bT]at C;injection C with C;subst C;simp_all
 ·rw[cz _ _ _ e]at C;have:=(h.dj b k C).2.1;omega
def qj{x:aU}{y:A}{k:S -> ah X}(h:iU N σ d x y k=some r):d<N/\k (((σ.drop d).root d x).set d y)=some r:=by
 unfold iU at h;cases C:Nat.blt d N with
 |false=>simp_all
 |true=>simp_all
def akm{e:TypeId}{k:S -> ah X}(h:ud P N σ d e k=some r):∃ E,k E=some r /\ ∀ af ρ a w,Rl w0 N af ρ σ a w -> ∃ w' aC ρ' v,(Instr.alloc e true (.tuple #[])).run P w = .ok v w'/\Rl w0 N aC ρ' E (a.put (some d) v) w':=by
 unfold ud at h;split at h
 ·rename_i z D;obtain⟨I,h⟩:=qj h
  refine⟨_,h,λaf ρ a w hR=>?_⟩
  have U:(Instr.alloc e true (.tuple #[])).run P w = .ok (.pointer (some ⟨w.heap.size,0,none⟩)) (w.alloc (.cells z.cells e)):=by
   unfold zeroOf at D;cases hi:P.info? e with
   |none=>simp_all
   | some i=>
    have D:i.zero=some z:=by simpa [hi]using D
    simp[Instr.alloc,zeroValue,typeInfo,hi,D,newVar,newRow]
  refine⟨_,bK af w.heap.size (some [d]),bK ρ d (.aD w.heap.size 0),_,U,(hR.Dl (hR.cT d (.inl I)) (λr Y=>cz _ _ _ Y) ?_).set ⟨w.heap.size,0,bT _ _ _,rfl⟩ I⟩
  refine .aD w.heap.size 0 z.cells e _ (λj=>z.cells.getD j undef) (bT _ _ _) (bT _ _ _) (heap_alloc_new w _) (by simp) λj x C=>?_
  rw[fz]at C;cases O:z.cells.toList[j]? with
  |none=>simp_all
  | some v=>
   rw[O]at C;injection C with C;subst C;have T:z.cells[j]?=some v:=by simpa using O
   have Z:z.cells.getD j undef=v:=by rw[jt,T];rfl
   rw[Z,gy];exact⟨T,Nf v⟩
 ·cases h
def By{t e:TypeId}{tc:TC}(h:yC P t=some (e,tc)):P.underlying t=some (.slice e)/\tid tc=e /\ ∃ i,P.info? e=some i/\i.size=aF tc/\i.bytes <= 65536:=by
 unfold yC at h;split at h
 ·cases h
 ·rename_i E C;split at h
  ·rename_i I n b O T hb;cases D:(Nat.beq n (aF I)&&Nat.ble b 65536)with
   |false=>simp_all
   | true=>
    rw[D,av]at h;injection h with h;injection h with U Y;subst U Y;rw[aH]at D;refine⟨?_,aj0 O,?_⟩
    ·unfold sY at C;split at C
     ·simp_all
     ·cases C
    ·unfold kO at T;unfold bytesOf at hb;cases hi:P.info? E with
     |none=>simp_all
     |some i =>simp_all
  ·cases h
def aat(z:Array Value)(n i j:Nat)(C:j<z.size)(h:i*z.size+j<n):(madeCells z n)[i*z.size+j]?=some z[j]:=by
 have D:(i*z.size+j) % z.size=j:=by rw[Nat.add_comm,Nat.add_mul_mod_self_right,Nat.mod_eq_of_lt C]
 simp[madeCells,Array.getElem?_map,Array.getElem?_range,h,if_true,Option.map_some,D];simp[C]
def akn{t:TypeId}{l c:A}{k:S -> ah X}(h:Bw P N σ d t l c k=some r):∃ di,k di=some r /\ ∀ af ρ a w,Rl w0 N af ρ σ a w -> ∀ u v,RA w w0.heap.size af ρ l u -> RA w w0.heap.size af ρ c v ->
  ∃w' aC ρ' x,(Instr.makeSlice t u v).run P w = .ok x w'/\Rl w0 N aC ρ' di (a.put (some d) x) w':=by
 unfold Bw at h;split at h
 ·rename_i e tc kl n kc c r3;split at h
  ·cases h
  ·rename_i z D;split at h
   ·rename_i hb;obtain⟨hd,h⟩:=qj h
    refine⟨_,h,λaf ρ a w hR u v hu T=>?_⟩
    obtain rfl:=hu.2.iS;obtain rfl:=T.2.iS;obtain⟨iN,ht,i,hi,iI,kD⟩:=By r3;unfold Nc at D;split at D
    ·cases D
    ·rename_i C FI;split at D
     ·cases D
     ·rename_i vs lS;have r4:i.zero=some C:=by unfold zeroOf at FI;simpa [hi]using FI
      obtain⟨yD,lT⟩:=Tj _ _ lS;have U:=nY tc (full tc) vs z D;have O:C.cells.size=aF tc:=by rw[<- mz tc (full tc) z,<- U.1,yD];simp
      have SL:(i.bytes:Int)*c <= 281474976710656:=by
       have h1:(i.bytes:Int) <= 65536:=by omega
       have h2:i.bytes*c <= 65536*c:=Int.mul_le_mul_of_nonneg_right h1 (by omega);omega
      have fJ:=run_make (P:=P) w t e i C iN hi r4 kl kc n c hb.1 hb.2.1 SL (by omega);rw[iI,<- O]at fJ
      refine⟨_,bK af w.heap.size (some [d]),bK ρ d (.dP (.slice (some ⟨w.heap.size,0,none⟩) n.toNat c.toNat)),_,fJ,(hR.Dl (hR.cT d (.inl hd)) (λr hr=>cz _ _ _ hr) ?_).set ⟨rfl,?_⟩ hd⟩
      ·refine .sl _ _ (bT _ _ _) ?_;have hlen:(List.replicate n.toNat z).length=n.toNat:=by simp
       have:=RV.own (w:=w.alloc (.cells (madeCells C.cells (c.toNat*C.cells.size)) e)) (B:=w0.heap.size) (af:=bK af w.heap.size (some [d])) [d] tc (full tc) false (List.replicate n.toNat z) w.heap.size c.toNat (madeCells C.cells (c.toNat*C.cells.size)) (λ_ j=>C.cells.getD j undef)
        (bT _ _ _) (by rw[ht];exact heap_alloc_new w _) (by rw[size_madeCells,O]) (by rw[hlen];omega) ⟨by unfold maxLen;omega,λh=>by cases h⟩ (λY h' j x E=>?_) (λY h' j x E=>?_)
       ·rw[hlen]at this;exact this
       ·rw[List.getElem_replicate]at E;have I:j<aF tc:=by have:=(dW.1 E).1;rwa [mz]at this
        rw[hlen]at h';rw[<- O]at I;rw[<- O,aat C.cells _ Y j I (by
         have:(Y+1)*C.cells.size <= c.toNat*C.cells.size:=ju _ (by omega);rw[jv]at this;omega)]
        simp[jt,I]
       ·rw[List.getElem_replicate]at E;have I:j<(enc tc (full tc) z).length:=(dW.1 E).1;rw[<- U.1]at I;have Z:=bL I;generalize vs[j]=y at Z;obtain⟨v,T,Tl⟩:=lT j y Z;have wJ:C.cells[j]?=some v:=by simpa using T
        have hg:C.cells.getD j undef=v:=by rw[jt,wJ];rfl
        rw[hg];exact(aar Tl _).wk (U.2 j y x Z E)
      ·simp[de,bT]
   ·cases h
 ·cases h
def FJ(t:TC)(h:full t=0)(o C:Nat)(x:T t):enc t o x=enc t C x:=by
 have key:∀ o,enc t o x=enc t 0 x:=by
  intro o;rw[Z9 t o x];have:=Bl t o x h
  conv=>lhs;rw[<- List.map_id (enc t o x)]
  apply rP;intro y D;have E:=this y D;cases y<;>first|rfl|cases E
 simp_all
def Ab(u:Nat->Nat->Value)(n s:Nat):aa Value:=(List.range (n*s)).map λk=>u (k / s) (k % s)
def aau(u:Nat -> Nat -> Value)(n s i j:Nat)(hi:i<n)(C:j<s):(Ab u n s)[i*s+j]?=some (u i j):=by
 have D:i*s+j<n*s:=by
  have:(i+1)*s <= n*s:=ju _ hi
  grind
 have E:(i*s+j) / s=i:=by rw[Nat.add_comm,Nat.add_mul_div_right _ _ (by omega),Nat.div_eq_of_lt C,gy]
 have I:(i*s+j) % s=j:=by rw[Nat.add_comm,Nat.add_mul_mod_self_right,Nat.mod_eq_of_lt C]
 simp[Ab,D,E,I]
def Ng(u:Nat -> Nat -> Value)(n s k:Nat)(v:Value)(D:0<s)(h:(Ab u n s)[k]?=some v):∃ i j,k=i*s+j/\i<n/\j<s/\v=u i j:=by
 have C:k<n*s:=by
  have:=(dW.1 h).1
  simpa [Ab]using this
 refine⟨k / s,k % s,by rw[Nat.mul_comm];exact(Nat.div_add_mod k s).symm,Nat.div_lt_of_lt_mul (by rw[Nat.mul_comm];exact C),Nat.mod_lt _ D,?_⟩;simp[Ab,fz,List.getElem?_range C,Option.map_some,jJ]at h;simp_all
def Dm(t:TC)(o:Nat)(x:T t)(j:Nat)(C:j<aF t):∃y,(enc t o x)[j]?=some y:=⟨_,bL (by rw[mz];exact C)⟩
def Ac(t:TC)(l:aa (T t))(C:aa Value):Prop:=
 ∀i (hi:i<l.length) (o j:Nat) x,(enc t o l[i])[j]?=some x->∃v,C[i*aF t+j]?=some v/\v.oneCell'=true/\∀(w':World) (B':Nat) (aC:bB) (D:aa Nat),RV w' B' aC D x v
def RV.reads{q:aa Nat}{t:TC}{g:Nat}{qn:Bool}{l:aa (T t)}{u:Value}(h:RV w B af q (.sl t g qn l) u)(Y:full t=0):
  ∃A c news,u = .slice A l.length c/\Reads w w.heap.size (aF t) A l.length news/\(∀v∈news,v.oneCell'=true)/\Ac t l news:=by
 cases h with
 |fC=>exact⟨none,0,[],rfl,Reads.none_,by simp,λi hi=>by simp at hi⟩
 |gF=>exact⟨_,_,[],rfl,⟨by simp,λh=>by simp at h⟩,by simp,λi hi=>by simp at hi⟩
 |gO=>exact⟨_,_,[],rfl,⟨by simp,λh=>by simp at h⟩,by simp,λi hi=>by simp at hi⟩
 | aI _ _ _ _ _ b off cap us ho hl hb h1 lQ hc O=>
  have U:∀ i (hi:i<l.length) j,j<aF t -> (us i j).oneCell'=true:=by
   intro i hi j C;obtain⟨y,I⟩:=Dm t g l[i] j C;exact(O i hi j y I).one
  refine⟨_,cap,Ab us l.length (aF t),rfl,⟨by simp[Ab],λhn=>⟨b,off,rfl,hb,λk v E=>?_⟩⟩,λv E=>?_,λi hi o j x D=>?_⟩
  ·obtain⟨i,j,rfl,hi,C,rfl⟩:=Ng us _ _ k v (qP t) E;obtain⟨y,I⟩:=Dm t g l[i] j C;exact hc i hi j y I
  ·obtain⟨k,Z⟩:=List.mem_iff_getElem?.1 E;obtain⟨i,j,rfl,hi,C,rfl⟩:=Ng us _ _ k v (qP t) Z;exact U i hi j C
  ·have C:j<aF t:=by have:=(dW.1 D).1;rwa [mz]at this
   rw[FJ t Y o g]at D
   refine⟨us i j,aau us _ _ i j hi C,U i hi j C,λw' B' aC q'=>(O i hi j x D).wK (Bl t g l[i] Y x (iR D))⟩
 | own _ _ o _ _ b cap cs us hl hh hs hn hm hc O=>
  have U:∀ i (hi:i<l.length) j,j<aF t -> (us i j).oneCell'=true:=by
   intro i hi j C;obtain⟨y,I⟩:=Dm t o l[i] j C;exact(O i hi j y I).one
  refine⟨_,cap,Ab us l.length (aF t),rfl,⟨by simp[Ab],λhn=>⟨b,0,rfl,(jH.1 hh).1,λk v E=>?_⟩⟩,λv E=>?_,λi hi o' j x D=>?_⟩
  ·obtain⟨i,j,rfl,hi,C,rfl⟩:=Ng us _ _ k v (qP t) E;obtain⟨y,I⟩:=Dm t o l[i] j C;rw[gy,cell_of_row w b _ cs _ _ hh];simp_all
  ·obtain⟨k,Z⟩:=List.mem_iff_getElem?.1 E;obtain⟨i,j,rfl,hi,C,rfl⟩:=Ng us _ _ k v (qP t) Z;exact U i hi j C
  ·have C:j<aF t:=by have:=(dW.1 D).1;rwa [mz]at this
   rw[FJ t Y o' o]at D
   refine⟨us i j,aau us _ _ i j hi C,U i hi j C,λw' B' aC q'=>(O i hi j x D).wK (Bl t o l[i] Y x (iR D))⟩
def RV.aav{q:aa Nat}{t:TC}{o:Nat}{D:Bool}{l:aa (T t)}{u:Value}(h:RV w B af q (.sl t (o+2) D l) u)(E:full t=0){B':Nat}(hB:∀ b,af b=some q -> B' <= b):
  ∃xs,w.ownsRow B' (tid t) (aF t) u l.length xs/\(∀b,u.ownBlock=some b -> af b=some q)/\(D=true -> u.ownBlock≠none)/\Ac t l xs:=by
 cases h with
 |gF=>omega
 |gO=>omega
 |fC=>exact⟨[],⟨by simp,.inl ⟨rfl,rfl⟩⟩,by simp[Value.ownBlock],by simp,λi hi=>by simp at hi⟩
 |aI _ _ _ _ _ _ _ _ _ ho=>omega
 | own _ _ _ _ _ b cap cs us hl O U Y Z hc I=>
  refine⟨cs.toList.take _,⟨?_,.inr ⟨b,cap,cs,rfl,hB b hl,O,Y,Z.1,U,rfl⟩⟩,λb' s8=>?_,λ_=>by simp[Value.ownBlock],λi hi o' j x C=>?_⟩
  ·simp_all
  ·have:b=b':=by simpa [Value.ownBlock]using s8
   simp_all
  ·have hj:j<aF t:=by have:=(dW.1 C).1;rwa [mz]at this
   have dA:i*aF t+j<l.length*aF t:=by
    have:(i+1)*aF t <= l.length*aF t:=ju _ hi;rw[jv]at this;omega
   rw[FJ t E o' o]at C
   refine⟨us i j,?_,(I i hi j x C).one,λw' B' aC q'=>(I i hi j x C).wK (Bl t o l[i] E x (iR C))⟩
   grind
def Ac.append{t:TC}{l l2:aa (T t)}{xs ys:aa Value}(h:Ac t l xs)(E:Ac t l2 ys)(hl:xs.length=l.length*aF t):Ac t (l++l2) (xs++ys):=by
 intro i hi o j x C;by_cases D:i<l.length
 ·rw[List.getElem_append_left D]at C;obtain⟨v,I,r⟩:=h i D o j x C
  grind
 ·rw[List.getElem_append_right (by omega)]at C;have O:i-l.length<l2.length:=by rw[jh]at hi;omega
  obtain⟨v,I,r⟩:=E _ O o j x C;refine⟨v,?_,r⟩;have e:i*aF t+j=xs.length+((i-l.length)*aF t+j):=by
   rw[hl,Nat.sub_mul];have:l.length*aF t <= i*aF t:=ju _ (by omega);omega
  grind
def Tn{q:aa Nat}{t:TC}{o:Nat}{l:aa (T t)}{u:Value}{xs:aa Value}{B':Nat}(h:w.ownsRow B' (tid t) (aF t) u l.length xs)(D:Ac t l xs)(hl:∀ b,u.ownBlock=some b -> af b=some q):
  RV w B af q (.sl t (o+2) false l) u:=by
 rcases h.2 with ⟨rfl,E⟩|⟨b,cap,cs,rfl,hB,I,O,U,Y,ht⟩
 ·have:=uS E;subst this;exact .fC _ _ _
 ·have qi:∀ i _ j x,(enc t o l[i])[j]?=some x -> ∃ v,cs[i*aF t+j]?=some v /\ ∀ w' B' aC Z,RV w' B' aC Z x v:=by
   intro i hi j x C;obtain⟨v,hv,_,r⟩:=D i hi o j x C
   grind
  refine .own q t o false l b cap cs (λi j=>(cs[i*aF t+j]?).getD undef) (hl b rfl) I Y O ⟨U,λh=>by cases h⟩ (λi hi j x C=>?_) (λi hi j x C=>?_)
  ·grind
  ·grind
def Rl.append{t e ty:TypeId}{tc:TC}{i:TypeInfo}{z:Value}{rr o g:Nat}{q qn:Bool}{l l2:aa (T tc)}{u v:Value}{q':aa Nat}{Bx:Nat}{To:bB}(h:Rl w0 N af ρ σ a w)(hF:w0.F rr=none)(iN:P.underlying t=some (.slice e))(ht:tid tc=e)(hi:P.info? e=some i)(hz:i.zero=some z)
  (iI:i.size=aF tc) (kD:i.bytes <= 65536) (qa:z.cells.size=aF tc) (hf:full tc=0) (hd:RV w w0.heap.size af [rr] (.sl tc (o+2) q l) u) (hs:RV w Bx To q' (.sl tc g qn l2) v) (hlen:l.length+l2.length<1073741824):
  ∃C w' aC,(Builtin.append_ #[t,t] ty #[u,v]).run P w = .ok C w'/\Rl w0 N aC (bK ρ rr (.dP C)) ((σ.drop rr).root rr (.sl (.sl tc (o+2) false (l++l2)))) a w'/\oI C=true:=by
 subst ht;obtain⟨xs,Bz,U,IZ,jq⟩:=hd.aav hf (B':=0) (λb _=>Nat.zero_le b);obtain⟨A,c,news,rfl,oO,r5,I0⟩:=hs.reads hf;have iu:(l.length+l2.length)*i.bytes <= 140737488355328:=by
  have h1:(l.length+l2.length)*i.bytes <= 1073741824*65536:=Nat.mul_le_mul (by omega) kD;omega
 obtain⟨C,w',fJ,I,E,iw⟩:=SK (P:=P) w 0 t ty (tid tc) i z (aF tc) i.bytes iN hi hz iI rfl qa (qP tc) u l.length xs Bz _ A l2.length c news oO r5 (by unfold maxLen;omega) iu (Nat.zero_le _);have I1:(l++l2).length=l.length+l2.length:=jh;rw[<- I1]at I;have Dp:=jq.append I0 Bz.1;have gX:oI C=true:=by rcases I.2 with ⟨rfl,_⟩|⟨_,_,_,rfl,_⟩<;>rfl
 have Y:Below 0 w w':=(Below.refl 0 w).grown E (Nat.zero_le _) (λ_ _=>Nat.zero_le _);have vh:kH w0 w w':=⟨Y.os,Y.tape,Y.output,Y.size,λk D hL=>E.block k (Nat.lt_of_lt_of_le D h.below.size) (λO=>by
  rcases(h.dj k _ (U k O.symm)).1 with h1|h1
  ·exact absurd D (Nat.not_lt.2 h1)
  ·exact h1 hL)⟩
 by_cases Z:C.ownBlock=some w.heap.size
 ·have dA:w.heap.size<w'.heap.size:=by
   rcases I.2 with ⟨rfl,_⟩|⟨b,cap,cs,rfl,_,hh,_⟩
   ·cases Z
   ·have:b=w.heap.size:=by simpa [Value.ownBlock]using Z
    grind
  refine⟨C,w',bK af w.heap.size (some [rr]),fJ,h.Bv hF vh ⟨E.size,λb hb bQ=>E.block b hb (λO=>bQ (U b O.symm)),λb hb=>cz _ _ _ (by omega),λb hb=>(h.dj b [] hb).2.2 rfl⟩ (λb k hb D=>?_) (λr hr=>cz _ _ _ hr) (.sl C _ (bT _ _ _) (Tn I Dp (λb hb=>?_))),gX⟩
  ·by_cases e:b=w.heap.size
   ·subst e;rw[bT]at D
    grind
   ·rw[cz _ _ _ e]at D;have:=(h.dj b k D).2.1;omega
  ·rw[Z]at hb;injection hb with hb;subst hb;exact bT _ _ _
 ·have I2:C.ownBlock=u.ownBlock:=by
   rcases iw with iw|iw
   ·exact iw
   ·exact absurd iw Z
  refine⟨C,w',af,fJ,h.Bv hF vh ⟨E.size,λb hb bQ=>E.block b hb (λO=>bQ (U b O.symm)),λ_ _=>rfl,λb hb=>(h.dj b [] hb).2.2 rfl⟩ (λb k hb D=>?_) (λr hr=>cz _ _ _ hr) (.sl C _ (bT _ _ _) (Tn I Dp (λb hb=>U b (by rw[<- I2];exact hb)))),gX⟩
  have:=(h.dj b k D).2.1;omega
def Tp{t:TC}{x:V}{l:aa (T t)}(h:x.Nd t=some l){q:aa Nat}{u:Value}(C:RV w B af q x u):∃ g D,RV w B af q (.sl t g D l) u:=by
 unfold V.Nd at h;split at h
 ·grind
 ·injection h with h;subst h;cases C;exact⟨0,false,.fC _ _ _⟩
 ·cases h
def Ts{x:Lf}{k:V -> ah X}(h:rX σ x k=some r):∃ y,(∀ af ρ a w,Rl w0 N af ρ σ a w -> ∀ u,eE w w0.heap.size af ρ x u -> ∃ q,RV w w0.heap.size af q y u)/\k y=some r:=by
 cases x with
 |v z=>exact⟨z,λaf ρ a w _ u C=>⟨[],C.2⟩,h⟩
 |dead=>cases h
 | own q=>
  obtain⟨z,D,h⟩:=vc q _ h
  refine⟨z,λaf ρ a w hR u C=>?_,h⟩
  obtain⟨v,E,I⟩:=D.ok hR.root;have O:=C.2
  grind
def aaw{y:A}{k:V -> ah X}(h:ve σ y k=some r):∃ z,(∀ af ρ a w,Rl w0 N af ρ σ a w -> ∀ u,RA w w0.heap.size af ρ y u -> ∃ q B' aC,RV w B' aC q z u)/\k z=some r:=by
 unfold ve at h;split at h
 ·obtain⟨z,C,D⟩:=Ts h;exact⟨z,λaf ρ a w hR u E=>let ⟨q,I⟩:=C af ρ a w hR u E;⟨q,_,_,I⟩,D⟩
 ·obtain⟨z,D,_,C⟩:=aah h;exact⟨z,λaf ρ a w hR u E=>⟨[],0,_,C _ _ _ _ _ _ hR u E 0⟩,D⟩
 ·cases h
def ako{t ty:TypeId}{x y:A}{k:S -> ah X}(h:wO P N σ d t x y k=some r):∃ di,k di=some r /\ ∀ af ρ a w,Rl w0 N af ρ σ a w -> ∀ u v,RA w w0.heap.size af ρ x u -> RA w w0.heap.size af ρ y v ->
  ∃w' aC ρ' z,(Builtin.append_ #[t,t] ty #[u,v]).run P w = .ok z w'/\Rl w0 N aC ρ' di (a.put (some d) z) w':=by
 unfold wO at h;split at h
 ·rename_i e tc r3;obtain⟨iN,ht,i,hi,iI,kD⟩:=By r3;cases T:(Nat.beq (full tc) 0&&(zeroOf P e).any (λz=>Nat.beq z.cells.size (aF tc)))with
  |false=>grind
  | true=>
   rw[T,av]at h;rw[aH]at T;have hf:=c8 T.1;obtain⟨z,hz,U⟩:=(Option.any_eq_true _ _).1 T.2;have U:=c8 U;have r4:i.zero=some z:=by unfold zeroOf at hz;simpa [hi]using hz
   obtain⟨yv,Nh,C⟩:=aaw (w0:=w0) (N:=N) h;clear h;split at C
   ·cases C
   ·rename_i l2 lT;split at C
    ·cases D:cB l2.length with
     |false=>grind
     | true=>
      rw[D,av]at C;have D:l2.length<1073741824:=by simpa [cB]using D
      obtain⟨Y,h3⟩:=qj C
      refine⟨_,h3,λaf ρ a w hR u v O Z=>?_⟩
      have O:u = .slice none 0 0:=by cases O.2;rfl
      subst O;obtain⟨q',_,_,E⟩:=Nh af ρ a w hR v Z;obtain⟨g,qn,E⟩:=Tp lT E;obtain⟨v',w',aC,fJ,dK,gX⟩:=hR.append (ty:=ty) (rr:=d) (o:=0) (q:=false) (l:=[]) (hR.cT d (.inl Y)) iN ht hi r4 iI kD U hf (.fC _ _ _) E (by simpa using D);exact⟨w',aC,_,v',fJ,dK.set ⟨gX,by simp[de,bT]⟩ Y⟩
    ·rename_i rr;split at C
     ·rename_i t' o q l hm;split at C
      ·rename_i qk;subst qk;cases D:(Nat.blt d N&&(Nat.blt rr N || Nat.ble 60000 rr)&&cB (l.length+l2.length))with
       |false=>grind
       | true=>
        rw[D,av]at C;rw[aH,aH,eZ]at D;have I3:l.length+l2.length<1073741824:=by simpa [cB]using D.2
        have Y:d<N:=by have:=cH D.1.1;omega
        have qh:rr<N \/ 60000 <= rr:=D.1.2.imp (λh=>by have:=cH h;omega) (λh=>cH h)
        refine⟨_,C,λaf ρ a w hR u v O Z=>?_⟩
        obtain⟨q',_,_,E⟩:=Nh af ρ a w hR v Z;obtain⟨g,qn,E⟩:=Tp lT E;have fk:=hR.root rr _ hm;generalize I:aU.sl (.sl t' (o+2) q l)=x at fk;cases fk with
        |aD=>cases I
        |mp=>cases I
        |gh=>cases I
        | sl uu y cv hr=>
         injection I with I;subst I;have IX:uu=u:=by
          have h4:=O.2;simp only[de,cv]at h4;simp_all
         subst IX;obtain⟨v',w',aC,fJ,dK,gX⟩:=hR.append (ty:=ty) (hR.cT rr qh) iN ht hi r4 iI kD U hf hr E I3;exact⟨w',aC,_,v',fJ,dK.set ⟨gX,by simp[de,bT]⟩ Y⟩
      ·cases C
     ·cases C
    ·cases C
 ·cases h
def Rl.aax{t:TC}{g p:Nat}{qn:Bool}{l ys:aa (T t)}{news:aa Value}(h:Rl w0 N af ρ σ a w)(hm:σ.m q=some (.sl (.sl t (g+2) qn l)))(hf:full t=0)(hp:p+ys.length <= l.length)(qS:0<l.length)(jq:Ac t ys news)(vj:news.length=ys.length*aF t):
  ∃ b cap,ρ q = .dP (.slice (some ⟨b,0,none⟩) l.length cap)/\l.length <= cap/\(∀ n,n<news.length -> (w.cell? ⟨b,p*aF t+n,none⟩).isSome=true/\w.frozen? ⟨b,p*aF t+n,none⟩=false) /\
   Rl w0 N af ρ ⟨σ.t,bK σ.m q (some (.sl (.sl t (g+2) qn (splice l p ys))))⟩ a (w.setCells b (p*aF t) news):=by
 have fk:=h.root q _ hm;generalize U:aU.sl (.sl t (g+2) qn l)=x at fk;cases fk with
 |aD=>cases U
 |mp=>cases U
 |gh=>cases U
 | sl v y cv jw=>
  injection U with U;subst U;cases jw with
  |fC=>exact absurd qS (Nat.lt_irrefl 0)
  |gF=>exact absurd qS (Nat.lt_irrefl 0)
  |gO=>exact absurd qS (Nat.lt_irrefl 0)
  |aI _ _ _ _ _ _ _ _ _ ho=>omega
  | own _ _ _ _ _ b cap cs u rY hh hs hn vb hc hr=>
   have zW:(p+ys.length)*aF t <= cap*aF t:=ju _ (by omega);rw[Nat.add_mul]at zW;have oJ:p*aF t+news.length <= cs.size:=by rw[vj,hs];exact zW
   have hW:=M3 w b (p*aF t) news;obtain⟨I,iu,qQ⟩:=IC b (tid t) news (p*aF t) w cs hh oJ;have wL:∀ n,I[n]?=if n<p*aF t then cs[n]? else if n<p*aF t+news.length then news[n-p*aF t]? else cs[n]?:=by
    intro n;have e2:I[n]?=(splice cs.toList (p*aF t) news)[n]?:=by
     rw[show I[n]?=I.toList[n]? by simp,qQ];rfl
    rw[e2,zV _ _ _ (by simpa using oJ)];simp
   have IN:I.size=cs.size:=by
    rw[<- nO,qQ];have:=wG cs.toList (p*aF t) news (by simpa using oJ);simp only[splice]at this;simp_all
   have r6:=qP t;have hC:tZ w (w.setCells b (p*aF t) news) af ρ:=by
    intro k ad v ha E gX;by_cases bQ:ad.block=b
    ·obtain⟨D,C,s',q',rfl,uZ,aj7,yx,_⟩:=De k ad ha;have oL:ad=⟨b,ad.off,none⟩:=by cases ad;simp_all
     rw[oL,cell_of_row w b _ cs _ _ hh]at E;rw[oL,cell_of_row _ b _ I _ _ iu,wL];by_cases Y:ad.off<p*aF t
     ·rw[aV Y];exact E
     ·by_cases h2:ad.off<p*aF t+news.length
      ·exfalso;have hk:ad.off=(ad.off / aF t)*aF t+ad.off % aF t:=by rw[Nat.mul_comm];exact(Nat.div_add_mod _ _).symm
       have dA:ad.off<l.length*aF t:=by
        have:(p+ys.length)*aF t <= l.length*aF t:=ju _ hp;rw[Nat.add_mul]at this;omega
       have hi:ad.off / aF t<l.length:=Nat.div_lt_of_lt_mul (by rw[Nat.mul_comm];exact dA);obtain⟨y,hy⟩:=Dm t g l[ad.off / aF t] (ad.off % aF t) (Nat.mod_lt _ r6);have h3:=hc _ hi _ y hy;rw[<- hk,E]at h3;injection h3 with h3;have:=(hr _ hi _ y hy).aaf (Bl t g _ hf y (iR hy));rw[<- h3,gX]at this;cases this
      ·rw[aX Y,aX h2];exact E
    ·exact(World.cell?_of_block (hW.block _ bQ)).trans E
   have Df:de w af ρ [q]=some (.slice (some ⟨b,0,none⟩) l.length cap):=by simp only[de,cv]
   refine⟨b,cap,cv,hn,λn yz=>⟨?_,frozen_of_row w b _ cs _ hh⟩,h.wrote hW rY hC ((Bn.root q _ _ hm).ok h.root hW rY (List.suffix_refl _) hC Df ?_)⟩
   ·rw[cell_of_row w b _ cs _ _ hh];simp;omega
   ·have hlen:(splice l p ys).length=l.length:=wG l p ys hp;have key:∀ C (h:C<(splice l p ys).length) (D:Nat) x,(enc t g (splice l p ys)[C])[D]?=some x -> ∃ v,I[C*aF t+D]?=some v/\RV (w.setCells b (p*aF t) news) w0.heap.size af (D :: C :: aF t :: [q]) x v:=by
     intro C h' D x Z;have va:D<aF t:=by have:=(dW.1 Z).1;rwa [mz]at this
     have O:=bL h';generalize (splice l p ys)[C]=e at O Z;rw[zV l p ys hp]at O;have Bo:=Bl t g e hf x (iR Z);have old:l[C]?=some e -> ∃ v,cs[C*aF t+D]?=some v/\RV (w.setCells b (p*aF t) news) w0.heap.size af (D :: C :: aF t :: [q]) x v:=λhle=>by
      obtain⟨hi,rfl⟩:=dW.1 hle;exact⟨_,hc C hi D x Z,(hr C hi D x Z).wK Bo⟩
     by_cases Y:C<p
     ·rw[aV Y]at O;have dA:(C+1)*aF t <= p*aF t:=ju _ Y;rw[jv]at dA;rw[wL,aV];exact old O
     ·rw[aX Y]at O;by_cases h2:C<p+ys.length
      ·rw[aV h2]at O;obtain⟨hi,rfl⟩:=dW.1 O;obtain⟨v,E,_,lR⟩:=jq (C-p) hi g D x Z;have Tt:(C-p)*aF t=C*aF t-p*aF t:=Nat.sub_mul _ _ _;have hle:p*aF t <= C*aF t:=ju _ (by omega);have dA:=(dW.1 E).1;refine⟨v,?_,lR _ _ _ _⟩;rw[wL,aX,aV,<- E];congr 1;omega
      ·rw[aX h2]at O;have rV:(p+ys.length)*aF t <= C*aF t:=ju _ (by omega);rw[Nat.add_mul]at rV;rw[wL,aX,aX (by rw[vj];omega)];exact old O
    rw[<- hlen]
    refine .own [q] t g qn (splice l p ys) b cap I (λC D=>(I[C*aF t+D]?).getD undef) rY iu (IN.trans hs) (by rw[hlen];exact hn) ⟨vb.1,λh=>by rw[hlen];exact vb.2 h⟩ (λC h D x n5=>?_) (λC h D x n5=>?_)
    ·obtain⟨v,E,_⟩:=key C h D x n5;rw[E];rfl
    ·obtain⟨v,E,hr⟩:=key C h D x n5;rw[E];exact hr
def aay(b i c s:Nat):sliced (some ⟨b,0,none⟩) 0 i c s = .slice (some ⟨b,0,none⟩) i c:=by
 unfold sliced;split
 ·rfl
 ·rw[Option.map_some,Addr.add_lit];simp
def I4{X:Type}(P:Program)(N:Nat)(σ:S)(d:Nat)(t:TypeId)(x y:A)(k:S->ah X):ah X:=
 match x,y with
 | .view [q] s 0 i,.view [D] E j m=>(match yC P t with
  | some (e,tc)=>bif Nat.beq D q&&Nat.beq s (aF tc)&&Nat.beq E (aF tc)&&Nat.beq (full tc) 0&&Nat.blt d N then (match σ.m q with
   |some (.sl (.sl C (o+2) I l))=>bif Nat.beq (full C) 0&&Nat.beq (aF C) (aF tc)then (if i<=j/\j<=m/\m<=l.length/\0<l.length then k ((σ.root q (.sl (.sl C (o+2) I (splice l i ((l.take m).drop j))))).set d (.view [q] s 0 (i+(m-j))))else none)else none
   |_=>none)else none
  |none=>none)
 |_,_=>none
def akp{t ty:TypeId}{x y:A}{k:S -> ah X}(h:I4 P N σ d t x y k=some r):∃ di,k di=some r /\ ∀ af ρ a w,Rl w0 N af ρ σ a w -> ∀ u v,RA w w0.heap.size af ρ x u -> RA w w0.heap.size af ρ y v ->
  ∃w' aC ρ' z,(Builtin.append_ #[t,t] ty #[u,v]).run P w = .ok z w'/\Rl w0 N aC ρ' di (a.put (some d) z) w':=by
 unfold I4 at h;split at h
 ·rename_i q s i q' s' j m;split at h
  ·rename_i e tc r3;obtain⟨iN,ht,inf,hi,I,kD⟩:=By r3;cases hc:(Nat.beq q' q&&Nat.beq s (aF tc)&&Nat.beq s' (aF tc)&&Nat.beq (full tc) 0&&Nat.blt d N)with
   |false=>grind
   | true=>
    rw[hc,av]at h;simp only[aH]at hc;obtain⟨⟨⟨⟨c1,c2⟩,c3⟩,c4⟩,c5⟩:=hc;obtain rfl:=c8 c1;obtain rfl:=c8 c2;obtain rfl:=c8 c3;have hd:d<N:=by have:=cH c5;omega
    split at h
    ·rename_i O g qn l hm;cases T:(Nat.beq (full O) 0&&Nat.beq (aF O) (aF tc))with
     |false=>grind
     | true=>
      rw[T,av]at h;rw[aH]at T;have hf:=c8 T.1;have U:=c8 T.2;split at h
      ·rename_i hb;obtain⟨b1,b2,b3,b4⟩:=hb
       refine⟨_,h,λaf ρ a w hR u v hu hv=>?_⟩
       obtain⟨A,n,c,hva,a1,a2,rfl⟩:=hu;obtain⟨A',n',c',Y,a1',a2',rfl⟩:=hv;rw[hva]at Y;injection Y with Y;injection Y with C e2 e3;subst C e2 e3
       -- what is moved
       have fk:=hR.root q' _ hm;generalize D:aU.sl (.sl O (g+2) qn l)=x at fk;cases fk with
       |aD=>cases D
       |mp=>cases D
       |gh=>cases D
       | sl Ad y cv jw=>
        injection D with D;subst D;have Ni:Ad = .slice A n c:=by
         simp only[de,cv]at hva;simp_all
        subst Ni;have Nj:RV w 0 (λ_=>none) [] (.sl O 0 qn l) (.slice A n c):=jw.ir;have hn:n=l.length:=by cases Nj<;>rfl
        obtain⟨hp,FK,wQ⟩:=Nj.part (a:=j) (h:=m) (by omega) b2 (by omega);obtain⟨A2,c2,news,gX,oO,r5,jq⟩:=hp.reads hf;have hlen:((l.take m).drop j).length=m-j:=by rw[List.length_drop,jK];omega
        obtain⟨b,cap,Z,lQ,qm,dK⟩:=hR.aax hm hf (p:=i) (ys:=(l.take m).drop j) (news:=news) (by rw[hlen];omega) b4 jq (by rw[hlen];exact hlen ▸ oO.1);rw[cv]at Z;injection Z with Z;injection Z with C e2 e3;subst C e2 e3;rw[hlen]at gX;have r7:sliced (some ⟨b,0,none⟩) 0 i c (aF tc) = .slice (some ⟨b,0,none⟩) i c:=aay b i c _;obtain⟨ad,Ad⟩:∃ ad,sliced (some ⟨b,0,none⟩) j m c (aF tc) = .slice (some ad) (m-j) (c-j):=by
         unfold sliced;by_cases Dq:c=j
         ·grind
         ·grind
        have Tu:A2=some ad:=by
         grind
        subst Tu;have vj:news.length=(m-j)*inf.size:=by rw[oO.1,hlen,I,U]
        have fJ:=run_append_room_cells (P:=P) w t ty e inf iN hi b 0 i c ad (m-j) (c-j) news vj (λk u E=>by
         have oP:=(dW.1 E).1;have r6:0<((l.take m).drop j).length:=by
          rcases Nat.eq_zero_or_pos ((l.take m).drop j).length with h0|h0
          ·grind
          ·exact h0
         obtain⟨b',Dh,C,_,Ae⟩:=oO.2 r6;injection C with C;subst C;rw[Addr.add_lit];exact Ae k u E) r5 (by omega) (λk E=>by rw[gy,I,<- U];exact(qm k E).1) (λk E=>by rw[gy,I,<- U];exact(qm k E).2)
        refine⟨_,af,ρ,_,by rw[r7,Ad];exact fJ,?_⟩;rw[gy,I,<- U];exact dK.set ⟨some ⟨b,0,none⟩,l.length,c,by simp only[de,cv],Nat.zero_le _,by omega,(aay b _ c _).symm⟩ hd
      ·cases h
    ·cases h
  ·cases h
 ·cases h
def akq{t:TypeId}{x y:A}:cE λX k=>I4 (X:=X) P N σ d t x y k:=λX Y k g=>by
 unfold I4
 repeat' first|rfl|refine dB ?_ ?_|split
def I5{X:Type}(P:Program)(σ:S)(t:TypeId)(x:A)(k:S->ah X):ah X:=
 match x with
 | .view [q] s i j=>(match yC P t with
  | some (e,tc)=>(match Nc P e tc with
   | some z=>(match σ.m q with
    |some (.sl (.sl C (o+2) D l))=>if h:tc=C then (bif Nat.beq s (aF tc)&&Nat.beq (full tc) 0 then (if i<=j/\j<=l.length then k (σ.root q (.sl (.sl C (o+2) D (splice l i (List.replicate (j-i) (h ▸ z))))))else none)else none)else none
    |_=>none)
   |none=>none)
  |none=>none)
 |_=>none
def akr{t ty:TypeId}{x:A}{k:S->ah X}(h:I5 P σ t x k=some r):∃ di,k di=some r/\∀ af ρ a w,Rl w0 N af ρ σ a w->∀ u,RA w w0.heap.size af ρ x u->
  ∃w',(Builtin.clear_ #[t] ty #[u]).run P w = .ok (.tuple #[]) w'/\Rl w0 N af ρ di a w':=by
 unfold I5 at h;split at h
 ·rename_i q s i j;split at h
  ·rename_i e tc r3;obtain⟨iN,ht,inf,hi,iI,kD⟩:=By r3;split at h
   ·rename_i z T;split at h
    ·rename_i t' g qn l hm;split at h
     ·rename_i qk;subst qk;cases U:(Nat.beq s (aF tc)&&Nat.beq (full tc) 0)with
      |false=>rw[U]at h;cases h
      | true=>
       rw[U,av]at h;rw[aH]at U;obtain rfl:=c8 U.1;have hf:=c8 U.2;split at h
       ·rename_i hb
        refine⟨_,h,λaf ρ a w hR u hu=>?_⟩
        obtain⟨A,n,c,Y,a1,a2,rfl⟩:=hu;unfold Nc at T;split at T
        ·cases T
        ·rename_i C FI;split at T
         ·cases T
         ·rename_i vs lS;have r4:inf.zero=some C:=by unfold zeroOf at FI;simpa [hi]using FI
          obtain⟨yD,lT⟩:=Tj _ _ lS;have D:=nY tc (full tc) vs z T;have qa:C.cells.size=aF tc:=by rw[<-mz tc (full tc) z,<-D.1,yD];simp
          have hzr:∀w:World,(zeroValue e).run P w = .ok C w:=λw=>by simp[zeroValue,typeInfo,hi,r4]
          rcases Nat.eq_zero_or_pos (j-i)with h0|h0
          ·have yx:splice l i (List.replicate (j-i) z)=l:=by rw[h0];simp[splice]
           refine⟨w,?_,?_⟩
           ·unfold sliced;rw[h0];cases (if c=i then A else A.map (·.add (i*aF tc)))<;>simp[Builtin.clear_,iY iN]
           ·show Rl w0 N af ρ (σ.root q (.sl (.sl tc (g+2) qn (splice l i (List.replicate (j-i) z))))) a w;rw[yx];have:σ.root q (.sl (.sl tc (g+2) qn l))=σ:=by
             unfold S.root;have:bK σ.m q (some (.sl (.sl tc (g+2) qn l)))=σ.m:=by
              funext k;by_cases D:k=q
              ·subst D;rw[bT,hm]
              ·rw[cz _ _ _ D]
             rw[this]
            rw[this];exact hR
          ·have qU:(Builtin.zeroCells C.cells (j-i))=madeCells C.cells ((j-i)*C.cells.size):=rfl;have jq:Ac tc (List.replicate (j-i) z) (Builtin.zeroCells C.cells (j-i)).toList:=by
            intro i' h' o' E x I;rw[List.getElem_replicate]at I;have hj:E<aF tc:=by have:=(dW.1 I).1;rwa [mz]at this
            rw[oF]at h';have va:=hj;rw[<-qa]at va;have Z:(Builtin.zeroCells C.cells (j-i)).toList[i'*aF tc+E]?=some C.cells[E]:=by
             rw[qU,Array.getElem?_toList,<-qa];exact aat C.cells _ i' E va (by
              have:(i'+1)*C.cells.size<=(j-i)*C.cells.size:=ju _ (by omega);rw[jv]at this;omega)
            rw[FJ tc hf o' (full tc)]at I;have I6:E<(enc tc (full tc) z).length:=(dW.1 I).1;rw[<-D.1]at I6;have hy:=bL I6;generalize vs[E]=y at hy;obtain⟨v,hv,Tl⟩:=lT E y hy;have O:C.cells[E]=v:=by
             have e1:C.cells.toList[E]?=some C.cells[E]:=by simp[va]
             rw[e1]at hv;injection hv
            have lR:∀(w':World) (B':Nat) (aC:bB) (q':aa Nat),RV w' B' aC q' x v:=λw' B' aC q'=>(aar Tl _).wk (D.2 E y x hy I)
            exact⟨_,Z,by rw[O];exact(lR w 0 (λ_=>none) []).one,λw' B' aC q'=>by rw[O];exact lR _ _ _ _⟩
           have vj:(Builtin.zeroCells C.cells (j-i)).toList.length=(List.replicate (j-i) z).length*aF tc:=by rw[qU,oF,nO,size_madeCells,qa]
           obtain⟨b,cap,cv,lQ,Z,dK⟩:=hR.aax hm hf (p:=i) (ys:=List.replicate (j-i) z) (by rw[oF];omega) (by omega) jq vj;simp only[de,cv]at Y;injection Y with Y;injection Y with e1 e2 e3;subst e1 e2 e3;refine⟨_,?_,dK⟩;have gX:sliced (some ⟨b,0,none⟩) i j cap (aF tc) = .slice (some ⟨b,i*aF tc,none⟩) (j-i) (cap-i):=by
            unfold sliced;rw[aX,Option.map_some,Addr.add_lit,gy]
           have iK:=run_storeCells_cells (P:=P) b (i*aF tc) (Builtin.zeroCells C.cells (j-i)).toList 0 w (λk D=>(Z k D).1) (λk D=>(Z k D).2) (λv hv=>by
            obtain⟨k,D⟩:=List.mem_iff_getElem?.1 hv;have oP:=(dW.1 D).1;rw[vj,oF]at oP;have r6:=qP tc;obtain⟨x,I⟩:=Dm tc 0 z (k % aF tc) (Nat.mod_lt _ r6);have dA:k / aF tc<(List.replicate (j-i) z).length:=by rw[oF];exact Nat.div_lt_of_lt_mul (by rw[Nat.mul_comm];exact oP)
            obtain⟨v',O,r5,_⟩:=jq (k / aF tc) dA 0 (k % aF tc) x (by rw[List.getElem_replicate];exact I);rw[Nat.mul_comm,Nat.div_add_mod,D]at O;injection O with O;rw[O];exact r5)
           simp only[Nat.add_zero]at iK;rw[gX];obtain⟨n',yz⟩:∃n',j-i=n'+1:=⟨j-i-1,by omega⟩
           rw[yz]at iK ⊢;simp[Builtin.clear_,iY iN,hzr,iK]
       ·cases h
     ·cases h
    ·cases h
   ·cases h
  ·cases h
 ·cases h
def aks{t:TypeId}{x:A}:cE λX k=>I5 (X:=X) P σ t x k:=λX Y k g=>by
 unfold I5
 repeat' first|rfl|refine dB ?_ ?_|split
end
def BA(place:Nat->ah (Nat×Nat))(cells:aa Lf):aa (Nat×A)->ah (aa Lf)
 |[]=>some cells
 | (i,x) :: rest=>match place i,x.Br with
  |some (off,n),some xs=>if xs.length=n/\off+n<=cells.length then (bif xs.all Lf.live then BA place (splice cells off xs) rest else none)else none
  |_,_=>none
def aaz(P:Program)(t:TypeId):ah (Nat->ah (Nat×Nat)):=
 match P.underlying t with
 |some (.array _ e)=>(P.info? e).map λC=>λi=>some (i*C.size,C.size)
 |some (.struct fields)=>(fields.toList.mapM (λf=>(P.info? f.type).map λi=>(f.offset,i.size))).map λps=>(ps.toArray[·]?)
 |_=>none
def FL{X:Type}(P:Program)(σ:S)(t:TypeId)(parts:aa (Nat×Operand))(k:A->ah X):ah X:=
 match zeroOf P t,aaz P t with
 | some z,some pl=>match BA pl (z.cells.toList.map qT) (parts.map λp=>(p.1,aJ σ p.2))with
  |some cs=>k (.agg cs)
  |none=>none
 |_,_=>none
def Lf.asV:Lf->ah V
 |.v x=>some x
 |_=>none
def wR:aa Lf->ah (aa V)
 |[]=>some []
 | x :: xs=>match x.asV,wR xs with
  |some y,some ys=>some (y::ys)
  |_,_=>none
def Ds(t:TC)(g:Nat):Nat->aa V->ah (aa (T t))
 |0,[]=>some []
 |0,_=>none
 | n+1,C=>match dec t g (C.take (aF t)),Ds t g n (C.drop (aF t))with
  |some x,some xs=>some (x::xs)
  |_,_=>none
def BB{X:Type}(P:Program)(N:Nat)(σ:S)(d:Nat)(t:TypeId)(len:Nat)(parts:aa (Nat×Operand))(k:S->ah X):ah X:=
 match yC P t with
 | some (e,tc)=>match zeroOf P e with
  | some z=>bif Nat.beq (full tc) 0&&Nat.beq z.cells.size (aF tc)&&Nat.blt (len*aF tc) 16777217 then (match BA (λi=>some (i*aF tc,aF tc)) (List.replicate len (z.cells.toList.map qT)).flatten (parts.map λp=>(p.1,aJ σ p.2))with
   | some cs=>(match wR cs with
    | some C=>(match Ds tc 0 len C with
     |some l=>iU N σ d (.sl (.sl tc 2 true l)) (.lf (.own [d])) k
     |none=>none)
    |none=>none)
   |none=>none)else none
  |none=>none
 |none=>none
section
variable {P:Program} {w w':World} {w0:Wd} {B N:Nat} {af aC:bB} {ρ ρ':Nat->Loc} {σ:S} {a:Act} {X:Type} {d:Nat} {r:X}
def aaA(off:Nat):∀ (l:aa Value) (n:Nat) (cs:Array Value),off+n+l.length <= cs.size ->
  ((l.zipIdx n).foldl (λ(cs:Array Value) (p:Value×Nat)=>cs.setIfInBounds (off+p.2) p.1) cs).toList=splice cs.toList (off+n) l
 |[],n,cs,_=>by simp[splice]
 | v :: l,n,cs,h=>by
  simp at h;rw[List.zipIdx_cons,List.foldl_cons,aaA off l (n+1) _ (by simp;omega)];have C:off+n<cs.toList.length:=by simp;omega
  simp only[splice,Array.toList_setIfInBounds,List.length_cons];have D:(cs.toList.set (off+n) v).take (off+(n+1))=cs.toList.take (off+n)++[v]:=by
   rw[show off+(n+1)=off+n+1 by omega,List.take_succ_eq_append_getElem (by simpa using C),List.getElem_set_self,List.take_set_of_le (dg _)]
  have E:(cs.toList.set (off+n) v).drop (off+(n+1)+l.length)=cs.toList.drop (off+(n+1)+l.length):=by
   rw[List.drop_set_of_lt (by omega)]
  grind
def fG.splice{cs xs:aa Lf}{D E:Array Value}(h:fG w B af ρ cs D)(I:fG w B af ρ xs E){off:Nat}(O:off+xs.length <= cs.length){T:Array Value}(Y:T.toList=Proofs.YthmgjjfedieljaaGreat.splice D.toList off E.toList):fG w B af ρ (Proofs.YthmgjjfedieljaaGreat.splice cs off xs) T:=by
 have Z:off+E.toList.length <= D.toList.length:=by rw[nO,nO,I.1,h.1];exact O
 refine⟨?_,λj x C=>?_⟩
 ·rw[wG _ _ _ O,<- nO,Y,wG _ _ _ Z,nO,h.1]
 ·have e:T[j]?=(Proofs.YthmgjjfedieljaaGreat.splice D.toList off E.toList)[j]?:=by rw[<- Y,Array.getElem?_toList]
  rw[e,zV _ _ _ Z,nO,I.1];rw[zV _ _ _ O]at C;by_cases U:j<off
  ·simp[U,Array.getElem?_toList]at C ⊢;exact h.2 j x C
  ·by_cases h2:j<off+xs.length
   ·simp[U,h2,Array.getElem?_toList]at C ⊢;exact I.2 _ x C
   ·simp[U,h2,Array.getElem?_toList]at C ⊢;exact h.2 j x C
def Nk{place:Nat -> ah (Nat×Nat)}:∀ (parts:aa (Nat×A)) (cells:aa Lf) (C:Array Value) (D:aa (Nat×Value)) (out:aa Lf),BA place cells parts=some out -> fG w B af ρ cells C -> D.length=parts.length ->
  (∀(j:Nat) p q,parts[j]?=some p -> D[j]?=some q -> p.1=q.1/\RA w B af ρ p.2 q.2) -> ∃E,Instr.fill place C D=some E/\fG w B af ρ out E
 | [],cells,C,D,out,h,hR,hl,I=>by
  have:D=[]:=uS hl;subst this;injection h with h;subst h;exact⟨C,rfl,hR⟩
 | (i,x) :: rest,cells,C,D,out,h,hR,hl,I=>by
  cases D with
  |nil=>simp at hl
  | cons v D=>
   obtain⟨i',v⟩:=v;obtain⟨e,O⟩:=I 0 _ _ rfl rfl;simp only at e O;subst e;unfold BA at h;split at h
   ·rename_i off n xs Y Z;split at h
    ·rename_i hb;cases T:xs.all Lf.live with
     |false=>grind
     | true=>
      rw[T,av]at h;obtain⟨U,_⟩:=IU Z T O;have I7:v.cells.size=n:=by rw[U.1];exact hb.1
      have oJ:¬ (off+v.cells.size > C.size):=by rw[I7,hR.1];omega
      have akt:(v.cells.zipIdx.foldl (λ(cs:Array Value) (p:Value×Nat)=>cs.setIfInBounds (off+p.2) p.1) C).toList=Proofs.YthmgjjfedieljaaGreat.splice C.toList off v.cells.toList:=by
       have:=aaA off v.cells.toList 0 C (by rw[nO];omega);rw[<- Array.foldl_toList,Array.toList_zipIdx];exact this
      have yx:=hR.splice U (off:=off) (by rw[hb.1];exact hb.2) akt;obtain⟨E,vf,dK⟩:=Nk rest _ _ D out h yx (by simpa using hl) (λj p q I8 uZ=>I (j+1) p q (by simpa using I8) (by simpa using uZ));refine⟨E,?_,dK⟩;have bQ:(v.cells.size≠n || off+v.cells.size > C.size)=false:=by
       grind
      simp only[Instr.fill,Y];rw[aX (by rw[bQ];simp)];exact vf
    ·cases h
   ·cases h
def aku(z:Value):fG w B af ρ (z.cells.toList.map qT) z.cells:=by
 refine⟨by simp,λj x C=>?_⟩
 rw[fz]at C;cases D:z.cells.toList[j]? with
 |none=>simp_all
 | some v=>
  rw[D]at C;injection C with C;subst C;exact⟨v,by simpa using D,Nf v⟩
def akv{t:TypeId}{parts:Array (Nat×Operand)}{k:A -> ah X}(h:FL P σ t parts.toList k=some r):∃ y,k y=some r /\ ∀ af ρ a w,Rl w0 N af ρ σ a w ->
  ∃v,(Instr.build t (parts.map λ(i,x)=>(i,a.eval x))).run P w = .ok v w/\RA w w0.heap.size af ρ y v:=by
 unfold FL at h;split at h
 ·rename_i z pl E C;split at h
  ·rename_i cs jn
   refine⟨_,h,λaf ρ a w hR=>?_⟩
   obtain⟨U,Y,dK⟩:=Nk (w:=w) (B:=w0.heap.size) (af:=af) (ρ:=ρ) _ _ z.cells (parts.toList.map λp=>(p.1,a.eval p.2)) cs jn (aku z) (by simp) (λj p q D I=>by
    rw[fz]at D I;cases Z:parts.toList[j]? with
    |none=>rw[Z]at D;cases D
    | some x=>
     rw[Z]at D I;injection D with D;injection I with I;subst D I;exact⟨rfl,hR.aJ x.2⟩)
   refine⟨_,run_build (P:=P) w t _ U ?_,U,rfl,dK⟩;have I9:(parts.map λ(i,x)=>(i,a.eval x)).toList=parts.toList.map λp=>(p.1,a.eval p.2):=by simp
   rw[I9];unfold zeroOf at E;unfold Program.built;cases hi:P.info? t with
   |none=>simp[hi]at E
   | some i=>
    have E:i.zero=some z:=by simpa [hi]using E
    unfold aaz at C;split at C
    ·rename_i n e O;cases T:P.info? e with
     |none=>simp[T]at C
     | some ie=>
      rw[T]at C;injection C with C;subst C;simp[O,E,T];exact Y
    ·rename_i fields O;cases D:fields.toList.mapM (λf=>(P.info? f.type).map λi=>(f.offset,i.size))with
     |none=>rw[D]at C;cases C
     | some ps=>
      rw[D]at C;injection C with C;subst C;simp only[O,E,D];exact Y
    ·cases C
  ·cases h
 ·cases h
def Ja:∀ (cs:aa Lf) (C:aa V),wR cs=some C->cs=C.map .v
 |[],C,h=>by injection h with h;subst h;rfl
 | x :: xs,C,h=>by
  unfold wR at h;split at h
  next y ys D E=>injection h with h;subst h;rw[Ja xs ys E,List.map_cons];cases x<;>first|(injection D with D;rw[D])|cases D
  ·cases h
def Nl(t:TC)(g:Nat):∀ (n:Nat) (C:aa V) (l:aa (T t)),Ds t g n C=some l -> l.length=n/\C.length=n*aF t /\ ∀ i (hi:i<l.length) (j:Nat) x,(enc t g l[i])[j]?=some x -> ∃ y,C[i*aF t+j]?=some y/\Wk y x
 | 0,[],l,h=>by
  injection h with h;subst h;exact⟨rfl,by simp,λi hi=>by simp at hi⟩
 |0,_::_,l,h=>by cases h
 | n+1,C,l,h=>by
  unfold Ds at h;split at h
  ·rename_i x xs I O;injection h with h;subst h;obtain⟨U,h2,h3⟩:=Nl t g n _ xs O;have D:=nY t g _ x I;have hlen:(C.take (aF t)).length=aF t:=by rw[D.1,mz]
   have rV:aF t <= C.length:=by rw[jK]at hlen;omega
   refine⟨by simp[U],?_,λi hi j y E=>?_⟩
   ·grind
   ·cases i with
    | zero=>
     have Y:j<aF t:=by have:=(dW.1 E).1;rwa [mz]at this
     have Z:=bL (by rw[hlen];exact Y);refine⟨_,?_,D.2 j _ y Z E⟩;simp_all
    |succ i =>grind
  ·cases h
def RV.under{k:aa Nat}{x:V}{v:Value}{n:Nat}(h:RV w B af k x v)(E:1<k.length\/x.aI=true)(I:w.heap.size<=w'.heap.size)(hb:∀ b,b<w.heap.size->af b≠some [n]->w'.heap[b]?=w.heap[b]?)(hl:∀ b,b<w.heap.size->aC b=af b):RV w' B aC k x v:=
 h.map (Q:=λk D=>k=D/\1<k.length) I (λb C h=>⟨hb b C (by rw[h];simp),(hl b C).trans h⟩) (λb k D C h e=>by
  obtain⟨rfl,e⟩:=e;exact⟨hb b C (by rw[h];rintro⟨⟩;simp at e),(hl b C).trans h,λ_ _ _=>⟨rfl,by simp⟩⟩) (E.symm.imp_right λh=>⟨rfl,h⟩)
def wU(w:World)(B:Nat)(af:bB)(n C:Nat)(t:TC)(o:Nat)(l:aa (T t))(D:aa Value):Prop:=
 ∀i (hi:i<l.length) j x,(enc t o l[i])[j]?=some x->∃v,D[i*aF t+j]?=some v/\RV w B af (j::(C+i)::aF t::[n]) x v
def RV.akw{n:Nat}{t:TC}{o:Nat}{C:Bool}{l:aa (T t)}{u:Value}(h:RV w B af [n] (.sl t (o+2) C l) u){B':Nat}(hB:∀ b,af b=some [n] -> B' <= b):
  ∃xs,w.ownsRow B' (tid t) (aF t) u l.length xs/\(∀b,u.ownBlock=some b -> af b=some [n])/\(C=true -> u.ownBlock≠none)/\wU w B af n 0 t o l xs:=by
 cases h with
 |gF=>omega
 |gO=>omega
 |fC=>exact⟨[],⟨by simp,.inl ⟨rfl,rfl⟩⟩,by simp[Value.ownBlock],by simp,λi hi=>by simp at hi⟩
 |aI _ _ _ _ _ _ _ _ _ Z=>omega
 | own _ _ _ _ _ b cap cs us hl D E I O hc hr=>
  refine⟨cs.toList.take _,⟨?_,.inr ⟨b,cap,cs,rfl,hB b hl,D,I,O.1,E,rfl⟩⟩,λb' U=>?_,λ_=>by simp[Value.ownBlock],λi hi j x Y=>?_⟩
  ·simp_all
  ·have:b=b':=by simpa [Value.ownBlock]using U
   simp_all
  ·have hj:j<aF t:=by have:=(dW.1 Y).1;rwa [mz]at this
   have dA:i*aF t+j<l.length*aF t:=by
    have:(i+1)*aF t <= l.length*aF t:=ju _ hi;rw[jv]at this;omega
   grind
def wU.append{n:Nat}{t:TC}{o:Nat}{l l2:aa (T t)}{xs ys:aa Value}(h:wU w B af n 0 t o l xs)(E:wU w B af n l.length t o l2 ys)(hl:xs.length=l.length*aF t):wU w B af n 0 t o (l++l2) (xs++ys):=by
 intro i hi j x C;by_cases D:i<l.length
 ·rw[List.getElem_append_left D]at C;obtain⟨v,I,r⟩:=h i D j x C
  grind
 ·rw[List.getElem_append_right (by omega)]at C;have O:i-l.length<l2.length:=by rw[jh]at hi;omega
  obtain⟨v,I,r⟩:=E _ O j x C;refine⟨v,?_,?_⟩
  ·have e:i*aF t+j=xs.length+((i-l.length)*aF t+j):=by
    rw[ Nat.sub_mul];have:l.length*aF t <= i*aF t:=ju _ (by omega);omega
   grind
  ·grind
def wU.under{n C:Nat}{t:TC}{o:Nat}{l:aa (T t)}{D:aa Value}(h:wU w B af n C t o l D)(E:w.heap.size<=w'.heap.size)(hb:∀ b,b<w.heap.size->af b≠some [n]->w'.heap[b]?=w.heap[b]?)(hl:∀ b,b<w.heap.size->aC b=af b):wU w' B aC n C t o l D:=
 λi hi j x I=>let ⟨v,O,r⟩:=h i hi j x I;⟨v,O,r.under (.inl (by simp)) E hb hl⟩
def aaB{n:Nat}{t:TC}{o:Nat}{l:aa (T t)}{u:Value}{xs:aa Value}{B':Nat}(h:w.ownsRow B' (tid t) (aF t) u l.length xs)(D:wU w B af n 0 t o l xs)(hl:∀ b,u.ownBlock=some b -> af b=some [n]):
  RV w B af [n] (.sl t (o+2) false l) u:=by
 rcases h.2 with ⟨rfl,E⟩|⟨b,cap,cs,rfl,hB,I,O,U,Y,Z⟩
 ·have:=uS E;subst this;exact .fC _ _ _
 ·have qi:∀ i _ j x,(enc t o l[i])[j]?=some x -> ∃ v,cs[i*aF t+j]?=some v/\RV w B af (j :: i :: aF t :: [n]) x v:=by
   intro i hi j x C;obtain⟨v,hv,r⟩:=D i hi j x C
   grind
  refine .own [n] t o false l b cap cs (λi j=>(cs[i*aF t+j]?).getD undef) (hl b rfl) I Y O ⟨U,λh=>by cases h⟩ (λi hi j x C=>?_) (λi hi j x C=>?_)
  ·grind
  ·grind
def Rl.akx{t e ty:TypeId}{tc:TC}{i:TypeInfo}{z:Value}{rr o m c:Nat}{q:Bool}{l l2:aa (T tc)}{u:Value}{ad:ah Addr}{news:aa Value}(h:Rl w0 N af ρ σ a w)(hF:w0.F rr=none)(iN:P.underlying t=some (.slice e))(ht:tid tc=e)(hi:P.info? e=some i)(hz:i.zero=some z)
  (iI:i.size=aF tc) (kD:i.bytes <= 65536) (qa:z.cells.size=aF tc) (hd:RV w w0.heap.size af [rr] (.sl tc (o+2) q l) u) (oO:Reads w w.heap.size (aF tc) ad m news) (r5:∀v∈news,v.oneCell'=true) (hm:m=l2.length)
  (I0:wU w w0.heap.size af rr l.length tc o l2 news) (hlen:l.length+l2.length<1073741824):
  ∃C w' aC,(Builtin.append_ #[t,t] ty #[u,.slice ad m c]).run P w = .ok C w'/\Rl w0 N aC (bK ρ rr (.dP C)) ((σ.drop rr).root rr (.sl (.sl tc (o+2) false (l++l2)))) a w'/\oI C=true:=by
 subst ht hm;obtain⟨xs,Bz,Z,IZ,jq⟩:=hd.akw (B':=0) (λb _=>Nat.zero_le b);have iu:(l.length+l2.length)*i.bytes <= 140737488355328:=by
  have h1:(l.length+l2.length)*i.bytes <= 1073741824*65536:=Nat.mul_le_mul (by omega) kD;omega
 obtain⟨C,w',fJ,I,E,iw⟩:=SK (P:=P) w 0 t ty (tid tc) i z (aF tc) i.bytes iN hi hz iI rfl qa (qP tc) u l.length xs Bz _ ad l2.length c news oO r5 (by unfold maxLen;omega) iu (Nat.zero_le _);have I1:(l++l2).length=l.length+l2.length:=jh;rw[<- I1]at I;have Dp:=jq.append I0 Bz.1;have gX:oI C=true:=by rcases I.2 with ⟨rfl,_⟩|⟨_,_,_,rfl,_⟩<;>rfl
 have O:Below 0 w w':=(Below.refl 0 w).grown E (Nat.zero_le _) (λ_ _=>Nat.zero_le _);have vh:kH w0 w w':=⟨O.os,O.tape,O.output,O.size,λk D hL=>E.block k (Nat.lt_of_lt_of_le D h.below.size) (λe'=>by
  rcases(h.dj k _ (Z k e'.symm)).1 with h1|h1
  ·exact absurd D (Nat.not_lt.2 h1)
  ·exact h1 hL)⟩
 have U:∀b,b<w.heap.size -> af b≠some [rr] -> w'.heap[b]?=w.heap[b]?:=λb hb bQ=>E.block b hb (λe'=>bQ (Z b e'.symm))
 by_cases Y:C.ownBlock=some w.heap.size
 ·have dA:w.heap.size<w'.heap.size:=by
   rcases I.2 with ⟨rfl,_⟩|⟨b,cap,cs,rfl,_,hh,_⟩
   ·cases Y
   ·have:b=w.heap.size:=by simpa [Value.ownBlock]using Y
    grind
  have Jb:∀b,b<w.heap.size -> bK af w.heap.size (some [rr]) b=af b:=λb hb=>cz _ _ _ (by omega)
  refine⟨C,w',bK af w.heap.size (some [rr]),fJ,h.Bv hF vh ⟨E.size,U,Jb,λb hb=>(h.dj b [] hb).2.2 rfl⟩ (λb k hb D=>?_) (λr hr=>cz _ _ _ hr) (.sl C _ (bT _ _ _) (aaB I (Dp.under E.size U Jb) (λb hb=>?_))),gX⟩
  ·by_cases e:b=w.heap.size
   ·subst e;rw[bT]at D
    grind
   ·rw[cz _ _ _ e]at D;have:=(h.dj b k D).2.1;omega
  ·rw[Y]at hb;injection hb with hb;subst hb;exact bT _ _ _
 ·have I2:C.ownBlock=u.ownBlock:=by
   rcases iw with iw|iw
   ·exact iw
   ·exact absurd iw Y
  refine⟨C,w',af,fJ,h.Bv hF vh ⟨E.size,U,λ_ _=>rfl,λb hb=>(h.dj b [] hb).2.2 rfl⟩ (λb k hb D=>?_) (λr hr=>cz _ _ _ hr) (.sl C _ (bT _ _ _) (aaB I (Dp.under E.size U (λ_ _=>rfl)) (λb hb=>Z b (by rw[<- I2];exact hb)))),gX⟩
  have:=(h.dj b k D).2.1;omega
end
end Go.Proofs.YthmgjjfedieljaaGreat
