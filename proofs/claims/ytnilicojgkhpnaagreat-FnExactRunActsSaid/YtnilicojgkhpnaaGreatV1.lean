/-
  Running the program over pure contents, and that it follows (part 1). Nothing here is a claim.
-/
import Derived.Test.YtnilicojgkhpnaaGreatAppend
import Derived.Test.YtnilicojgkhpnaaGreatLaws
import Derived.Handy
import Derived.Great.BuildSlice
import Derived.ArgAppend
set_option linter.unusedSimpArgs false
namespace Go.Proofs.YtnilicojgkhpnaaGreat
open Go.RowKit
set_option linter.defProp false
abbrev aa:=List
abbrev ah:=Option
abbrev af:=Unit
def au:=@cond_true
def eR:=@Bool.or_eq_true
def aS:=@Bool.and_eq_true
def cK:=@Nat.eq_of_beq_eq_true
def cX:=@Nat.le_of_ble_eq_true
def iq:=@List.mem_of_getElem?
def ff:=@List.getElem?_map
def jj:=@Array.getElem?_eq_some_iff
def dW:=@Nat.le_refl
def fT:=@Nat.zero_add
def aq:=@cond_false
def cw:=@List.all_eq_true
def bf:=@congrArg
def oJ:=@List.any_eq_false
theorem bJ.{u}{c:Prop}{h:Decidable c}(k:c:=by omega){α:Sort u}{t e:α}:ite c t e=t:=if_pos k
def eK:=@List.length_map
def iV:=@Array.getD_eq_getD_getElem?
def mA:=@Array.length_toList
theorem bQ.{u}{c:Prop}{h:Decidable c}(k:¬c:=by omega){α:Sort u}{t e:α}:ite c t e=e:=if_neg k
def eM:=@List.length_set
def eo:=@List.getElem?_eq_some_iff
def bY:=@List.getElem?_eq_getElem
def iW:=@Nat.mul_le_mul_right
def iF:=@Nat.succ_mul
def fz:=@Nat.zero_le
def gF:=@Sem.run_bind
def mX:=@Result.andThen_ok
def ir:=@run_underlying
def cM:=@List.getElem_mem
def jv:=@Nat.ble_eq_true_of_le
def iX:=@Option.some.injEq
def pM:=@List.length_append
def fY:=@List.length_take
def jk:=@List.length_replicate
def gA:=@List.getElem_set_self
def fA:=@List.getD_eq_getElem?_getD
def pN:=@Bool.or_eq_false_iff
def g9:=@Bool.not_eq_true'
def iG:=@List.mem_cons
def cC:=@Bool.true_and
theorem aA.{u}{c:Prop}{h:Decidable c}(k:c:=by omega){α:Sort u}{t:c->α}{e:¬c->α}:dite c t e=t k:=dif_pos k
def fI:=@List.mem_range
def jH:=@List.getElem_range
def jX:=@List.nil_append
theorem aQ{p:Prop}[Decidable p](k:p:=by omega):decide p=true:=decide_eq_true k
def iN:=@decide_eq_true_eq
def bg:=@Bool.not_true
def br:=@Int.toNat_natCast
def gU:=@List.set_set
theorem aR{p:Prop}[Decidable p](k:¬p:=by omega):decide p=false:=decide_eq_false k
def eC:=@Sum.elim_inl
def cm:=@Int.natCast_zero
def eD:=@Int.eq_ofNat_of_zero_le
def eN:=@bne_self_eq_false
def iu:=@List.take_length
def en:=@beq_self_eq_true
def jw:=@List.mem_iff_getElem
def mY:=@List.findIdx?_eq_some_iff_getElem
def di:=@List.length_range
def iw:=@Bool.not_false
def pO:=@Int.tdiv_eq_ediv_of_nonneg
def rH:=@Int.tmod_eq_emod_of_nonneg
def qA:=@decide_eq_false_iff_not
def fJ:=@beq_iff_eq
def lV:=@List.length_singleton
set_option linter.unusedVariables false
set_option linter.unusedSimpArgs false
structure aL where
 cg:Int
 aC:Int
 rows:Int
 aO:Int
structure aJ where
 ay:Int
 row:Int
 bR:Int
structure kE where
 order:Int
 hash:Bool
structure aH where
 kind:Int
 ay:Int
 row:Int
 bR:Int
structure dw where
 kF:Int
 rp:Int
 hD:Int
 nT:Int
 kG:Int
 kH:Int
 nU:Int
 nW:Int
 jI:Int
 wr:Int
 nX:Int
 nY:Int
 qB:Int
 nZ:Int
 oK:Int
 xp:Int
 xs:Int
structure dG where
 open_:Bool
 row:Int
structure cH where
 aC:List dG
 bk:Int
structure dA where
 at_:Int
 cmd:aH
structure dJ where
 last:List Int
 aX:List Int
structure bN where
 symbols:List Int
 hG:Bool
structure cN where
 cells:List bN
 bD:List Int
 bC:List Int
structure jx where
 bD:Int
 bC:Int
structure bU where
 rows:List Int
 counts:List Int
 dx:Int
structure c8 where
 bF:Int
 map:List Int
structure cO where
 aI:List Int
 wait:Int
 dy:Bool
structure aN where
 id:Int
 c9:Int
 line:Int
 write:Bool
 data:Int
 at_:Int
structure bZ where
 weight:Int
 fK:Int
structure gV where
 on:Bool
 low:Int
 high:Int
structure fk where
 state:Int
 since:Int
 idle:Int
structure lW where
 down:Int
 sleep:Int
structure bV where
 line:Int
 code:Int
 times:Int
structure jY where
 next:Int
 every:Int
 wait:Int
structure dB where
 dM:Int
 cap:Int
 dK:Int
 low:Int
 high:Int
 weights:List Int
 de:lW
structure fL where
 bK:dB
 next:dB
 waits:Bool
structure eT where
 az:aL
 cq:dw
 mapping:kE
 bF:Int
 interval:Int
 fZ:Int
 ep:jx
structure cR where
 id:Int
 at_:Int
 data:Int
 code:Int
structure av where
 config:eT
 box:fL
 now:Int
 bq:cH
 ready:dJ
 array:cN
 spare:c8
 aV:cO
 bL:List bU
 guard:List Int
 pending:List aJ
 queue:List aN
 shares:List bZ
 drain:gV
 bk:fk
 cB:jY
 errors:List bV
 trace:List dA
 cr:List cR
structure cV where
 kind:Int
 request:aN
 n:Int
 gB:Int
 addr:aJ
 bW:dB
inductive TC where
 |int|u8|bool|str
 |ga
 |Addr
 |oL
 |Command
 |kI
 |iY
 |iO
 |Event
 |jZ
 |Cell
 |Array
 |n5
 |gp
 |mB
 |jJ
 |dg
 |fm
 |n6
 |Power
 |oM
 |fM
 |pP
 |jK
 |mC
 |Config
 |iP
 |cP
 |Act
 |sl (t:TC)
 |mD
 |Ci (g:Nat)
 |Cj (g:Nat)
 |Cl (g:Nat)
 |fnCommand (g:Nat)
deriving DecidableEq
def T:TC->Type
 |.int=>Int
 |.u8=>Int
 |.bool=>Bool
 |.str=>ByteArray
 |.ga=>aL
 |.Addr=>aJ
 |.oL=>kE
 |.Command=>aH
 |.kI=>dw
 |.iY=>dG
 |.iO=>cH
 |.Event=>dA
 |.jZ=>dJ
 |.Cell=>bN
 |.Array=>cN
 |.n5=>jx
 |.gp=>bU
 |.mB=>c8
 |.jJ=>cO
 |.dg=>aN
 |.fm=>bZ
 |.n6=>gV
 |.Power=>fk
 |.oM=>lW
 |.fM=>bV
 |.pP=>jY
 |.jK=>dB
 |.mC=>fL
 |.Config=>eT
 |.iP=>cR
 |.cP=>av
 |.Act=>cV
 |.sl t=>aa (T t)
 |.mD=>av
 |.Ci _=>Int
 |.Cj _=>aN
 |.Cl _=>aJ
 |.fnCommand _=>aH
def aE:TC->Nat
 |.mD=>76
 |.Ci _=>3
 |.Cj _=>8
 |.Cl _=>5
 |.fnCommand _=>6
 |.ga=>4
 |.Addr=>3
 |.oL=>2
 |.Command=>4
 |.kI=>17
 |.iY=>2
 |.iO=>2
 |.Event=>5
 |.jZ=>2
 |.Cell=>2
 |.Array=>3
 |.n5=>2
 |.gp=>3
 |.mB=>2
 |.jJ=>3
 |.dg=>6
 |.fm=>2
 |.n6=>3
 |.Power=>3
 |.oM=>2
 |.fM=>3
 |.pP=>3
 |.jK=>8
 |.mC=>17
 |.Config=>28
 |.iP=>4
 |.cP=>75
 |.Act=>20
 |_=>1
def full:TC->Nat
 |.int|.u8|.bool|.str=>0
 |.ga=>0
 |.Addr=>0
 |.oL=>0
 |.Command=>0
 |.kI=>0
 |.iY=>0
 |.iO=>2
 |.Event=>0
 |.jZ=>2
 |.Cell=>2
 |.Array=>4
 |.n5=>0
 |.gp=>2
 |.mB=>2
 |.jJ=>2
 |.dg=>0
 |.fm=>0
 |.n6=>0
 |.Power=>0
 |.oM=>0
 |.fM=>0
 |.pP=>0
 |.jK=>2
 |.mC=>2
 |.Config=>0
 |.iP=>0
 |.cP=>4
 |.Act=>2
 |.sl t=>full t+2
 |.mD=>4
 |.Ci _=>0
 |.Cj _=>0
 |.Cl _=>0
 |.fnCommand _=>0
def tid:TC->TypeId
 |.int=>3
 |.u8=>5
 |.bool=>4
 |.str=>9
 |.ga=>67
 |.Addr=>130
 |.oL=>69
 |.Command=>188
 |.kI=>68
 |.iY=>356
 |.iO=>80
 |.Event=>287
 |.jZ=>81
 |.Cell=>306
 |.Array=>84
 |.n5=>70
 |.gp=>255
 |.mB=>85
 |.jJ=>86
 |.dg=>129
 |.fm=>279
 |.n6=>91
 |.Power=>92
 |.oM=>73
 |.fM=>283
 |.pP=>93
 |.jK=>75
 |.mC=>77
 |.Config=>72
 |.iP=>293
 |.cP=>98
 |.Act=>132
 |.sl .int=>32
 |.sl .bool=>422
 |.sl .str=>0
 |_=>0
inductive V where
 |int (k:IntKind) (n:Int)
 |bool (b:Bool)
 |str (s:ByteArray)
 |nil
 |sl (t:TC) (o:Nat) (q:Bool) (l:List (T t))
def V.bw:V->ah Int|.int .i64 n=>some n|_=>none
def V.Vn:V->ah Int|.int .u8 n=>some n|_=>none
def V.oN:V->ah Bool|.bool b=>some b|_=>none
def V.Vo:V->ah ByteArray|.str s=>some s|_=>none
def V.fP(t:TC)(o:Nat):V->ah (aa (T t))
 |.sl D C _ l=>bif Nat.beq C o ||(Nat.ble (full t+2) C&&Nat.ble (full t+2) o)then (if h:D=t then some (h ▸ l)else none)else none
 |.nil=>some []
 |_=>none
inductive Wk:V->V->Prop
 |same (x:V):Wk x x
 |nil (t:TC) (o:Nat):Wk .nil (.sl t o false [])
 |q (t:TC) (o:Nat) (l:List (T t)):Wk (.sl t o true l) (.sl t o false l)
 |gr (t:TC) (o o':Nat) (qn:Bool) (l:List (T t)) (h:full t+2<=o) (h':full t+2<=o'):Wk (.sl t o' qn l) (.sl t o false l)
def lX(xs ys:aa V):Prop:=xs.length=ys.length/\∀(j:Nat) (x y:V),xs[j]?=some x->ys[j]?=some y->Wk x y
def lX.nil:lX [] []:=⟨rfl,by simp⟩
def lX.cons{x y:V}{xs ys:aa V}(h:Wk x y)(k:lX xs ys):lX (x :: xs) (y :: ys):=by
 refine⟨by simp[k.1],λj a b C hb=>?_⟩
 cases j with
 |zero=>simp_all
 |succ j=>simp at C hb;exact k.2 j a b C hb
def V.aoQ{x:V}{n:Int}(h:x.bw=some n):Wk x (.int .i64 n):=by
 unfold V.bw at h;split at h<;>first|(injection h with h;subst h;exact .same _)|cases h
def V.aoR{x:V}{n:Int}(h:x.Vn=some n):Wk x (.int .u8 n):=by
 unfold V.Vn at h;split at h<;>first|(injection h with h;subst h;exact .same _)|cases h
def V.aoS{x:V}{n:Bool}(h:x.oN=some n):Wk x (.bool n):=by
 unfold V.oN at h;split at h<;>first|(injection h with h;subst h;exact .same _)|cases h
def V.aoT{x:V}{n:ByteArray}(h:x.Vo=some n):Wk x (.str n):=by
 unfold V.Vo at h;split at h<;>first|(injection h with h;subst h;exact .same _)|cases h
def V.It{x:V}{t:TC}{o:Nat}{l:aa (T t)}(h:x.fP t o=some l):Wk x (.sl t o false l):=by
 unfold V.fP at h;split at h
 ·rename_i E C q L;cases hc:(Nat.beq C o || (Nat.ble (full t+2) C&&Nat.ble (full t+2) o))with
  |false=>simp_all
  | true=>
   rw[hc,au]at h;split at h
   ·rename_i D;subst D;injection h with h;subst h;rw[eR,aS]at hc;rcases hc with hc | hc
    ·obtain rfl:=cK hc;cases q
     ·exact .same _
     ·exact .q _ _ _
    ·exact .gr _ _ _ _ _ (cX hc.2) (cX hc.1)
   ·cases h
 ·injection h with h;subst h;exact .nil _ _
 ·cases h
def E0(x:aJ)(o:Nat):aa V:=[.int .i64 x.ay,.int .i64 x.row,.int .i64 x.bR]
def E1(x:aH)(o:Nat):aa V:=[.int .i64 x.kind,.int .i64 x.ay,.int .i64 x.row,.int .i64 x.bR]
def E2(x:aN)(o:Nat):aa V:=[.int .i64 x.id,.int .i64 x.c9,.int .i64 x.line,.bool x.write,.int .i64 x.data,.int .i64 x.at_]
def E3(x:av)(o:Nat):aa V:=[.int .i64 x.config.az.cg,.int .i64 x.config.az.aC,.int .i64 x.config.az.rows,.int .i64 x.config.az.aO,.int .i64 x.config.cq.kF,.int .i64 x.config.cq.rp,.int .i64 x.config.cq.hD,.int .i64 x.config.cq.nT,.int .i64 x.config.cq.kG,.int .i64 x.config.cq.kH,.int .i64 x.config.cq.nU,.int .i64 x.config.cq.nW,.int .i64 x.config.cq.jI,.int .i64 x.config.cq.wr,.int .i64 x.config.cq.nX,.int .i64 x.config.cq.nY,.int .i64 x.config.cq.qB,.int .i64 x.config.cq.nZ,.int .i64 x.config.cq.oK,.int .i64 x.config.cq.xp,.int .i64 x.config.cq.xs,.int .i64 x.config.mapping.order,.bool x.config.mapping.hash,.int .i64 x.config.bF,.int .i64 x.config.interval,.int .i64 x.config.fZ,.int .i64 x.config.ep.bD,.int .i64 x.config.ep.bC,.int .i64 x.box.bK.dM,.int .i64 x.box.bK.cap,.int .i64 x.box.bK.dK,.int .i64 x.box.bK.low,.int .i64 x.box.bK.high,.sl .int o false x.box.bK.weights,.int .i64 x.box.bK.de.down,.int .i64 x.box.bK.de.sleep,.int .i64 x.box.next.dM,.int .i64 x.box.next.cap,.int .i64 x.box.next.dK,.int .i64 x.box.next.low,.int .i64 x.box.next.high,.sl .int o false x.box.next.weights,.int .i64 x.box.next.de.down,.int .i64 x.box.next.de.sleep,.bool x.box.waits,.int .i64 x.now,.sl .iY o false x.bq.aC,.int .i64 x.bq.bk,.sl .int o false x.ready.last,.sl .int o false x.ready.aX,.sl .Cell o false x.array.cells,.sl .int o false x.array.bD,.sl .int o false x.array.bC,.int .i64 x.spare.bF,.sl .int o false x.spare.map,.sl .int o false x.aV.aI,.int .i64 x.aV.wait,.bool x.aV.dy,.sl .gp o false x.bL,.sl .int o false x.guard,.sl .Addr o false x.pending,.sl .dg o false x.queue,.sl .fm o false x.shares,.bool x.drain.on,.int .i64 x.drain.low,.int .i64 x.drain.high,.int .i64 x.bk.state,.int .i64 x.bk.since,.int .i64 x.bk.idle,.int .i64 x.cB.next,.int .i64 x.cB.every,.int .i64 x.cB.wait,.sl .fM o false x.errors,.sl .Event o false x.trace,.sl .iP o false x.cr]
def enc:(t:TC)->(o:Nat)->T t->aa V
 |.int,_,x=>[.int .i64 x]
 |.u8,_,x=>[.int .u8 x]
 |.bool,_,x=>[.bool x]
 |.str,_,x=>[.str x]
 |.ga,o,x=>[.int .i64 x.cg,.int .i64 x.aC,.int .i64 x.rows,.int .i64 x.aO]
 |.Addr,o,x=>E0 x o
 |.oL,o,x=>[.int .i64 x.order,.bool x.hash]
 |.Command,o,x=>E1 x o
 |.kI,o,x=>[.int .i64 x.kF,.int .i64 x.rp,.int .i64 x.hD,.int .i64 x.nT,.int .i64 x.kG,.int .i64 x.kH,.int .i64 x.nU,.int .i64 x.nW,.int .i64 x.jI,.int .i64 x.wr,.int .i64 x.nX,.int .i64 x.nY,.int .i64 x.qB,.int .i64 x.nZ,.int .i64 x.oK,.int .i64 x.xp,.int .i64 x.xs]
 |.iY,o,x=>[.bool x.open_,.int .i64 x.row]
 |.iO,o,x=>[.sl .iY o false x.aC,.int .i64 x.bk]
 |.Event,o,x=>[.int .i64 x.at_,.int .i64 x.cmd.kind,.int .i64 x.cmd.ay,.int .i64 x.cmd.row,.int .i64 x.cmd.bR]
 |.jZ,o,x=>[.sl .int o false x.last,.sl .int o false x.aX]
 |.Cell,o,x=>[.sl .int o false x.symbols,.bool x.hG]
 |.Array,o,x=>[.sl .Cell o false x.cells,.sl .int o false x.bD,.sl .int o false x.bC]
 |.n5,o,x=>[.int .i64 x.bD,.int .i64 x.bC]
 |.gp,o,x=>[.sl .int o false x.rows,.sl .int o false x.counts,.int .i64 x.dx]
 |.mB,o,x=>[.int .i64 x.bF,.sl .int o false x.map]
 |.jJ,o,x=>[.sl .int o false x.aI,.int .i64 x.wait,.bool x.dy]
 |.dg,o,x=>E2 x o
 |.fm,o,x=>[.int .i64 x.weight,.int .i64 x.fK]
 |.n6,o,x=>[.bool x.on,.int .i64 x.low,.int .i64 x.high]
 |.Power,o,x=>[.int .i64 x.state,.int .i64 x.since,.int .i64 x.idle]
 |.oM,o,x=>[.int .i64 x.down,.int .i64 x.sleep]
 |.fM,o,x=>[.int .i64 x.line,.int .i64 x.code,.int .i64 x.times]
 |.pP,o,x=>[.int .i64 x.next,.int .i64 x.every,.int .i64 x.wait]
 |.jK,o,x=>[.int .i64 x.dM,.int .i64 x.cap,.int .i64 x.dK,.int .i64 x.low,.int .i64 x.high,.sl .int o false x.weights,.int .i64 x.de.down,.int .i64 x.de.sleep]
 |.mC,o,x=>[.int .i64 x.bK.dM,.int .i64 x.bK.cap,.int .i64 x.bK.dK,.int .i64 x.bK.low,.int .i64 x.bK.high,.sl .int o false x.bK.weights,.int .i64 x.bK.de.down,.int .i64 x.bK.de.sleep,.int .i64 x.next.dM,.int .i64 x.next.cap,.int .i64 x.next.dK,.int .i64 x.next.low,.int .i64 x.next.high,.sl .int o false x.next.weights,.int .i64 x.next.de.down,.int .i64 x.next.de.sleep,.bool x.waits]
 |.Config,o,x=>[.int .i64 x.az.cg,.int .i64 x.az.aC,.int .i64 x.az.rows,.int .i64 x.az.aO,.int .i64 x.cq.kF,.int .i64 x.cq.rp,.int .i64 x.cq.hD,.int .i64 x.cq.nT,.int .i64 x.cq.kG,.int .i64 x.cq.kH,.int .i64 x.cq.nU,.int .i64 x.cq.nW,.int .i64 x.cq.jI,.int .i64 x.cq.wr,.int .i64 x.cq.nX,.int .i64 x.cq.nY,.int .i64 x.cq.qB,.int .i64 x.cq.nZ,.int .i64 x.cq.oK,.int .i64 x.cq.xp,.int .i64 x.cq.xs,.int .i64 x.mapping.order,.bool x.mapping.hash,.int .i64 x.bF,.int .i64 x.interval,.int .i64 x.fZ,.int .i64 x.ep.bD,.int .i64 x.ep.bC]
 |.iP,o,x=>[.int .i64 x.id,.int .i64 x.at_,.int .i64 x.data,.int .i64 x.code]
 |.cP,o,x=>E3 x o
 |.Act,o,x=>[.int .i64 x.kind,.int .i64 x.request.id,.int .i64 x.request.c9,.int .i64 x.request.line,.bool x.request.write,.int .i64 x.request.data,.int .i64 x.request.at_,.int .i64 x.n,.int .i64 x.gB,.int .i64 x.addr.ay,.int .i64 x.addr.row,.int .i64 x.addr.bR,.int .i64 x.bW.dM,.int .i64 x.bW.cap,.int .i64 x.bW.dK,.int .i64 x.bW.low,.int .i64 x.bW.high,.sl .int o false x.bW.weights,.int .i64 x.bW.de.down,.int .i64 x.bW.de.sleep]
 |.sl t,o,x=>[.sl t o false x]
 |.mD,o,x=>.bool true::E3 x o
 |.Ci g,o,x=>.bool false::.int .i64 (g:Int)::[.int .i64 x]
 |.Cj g,o,x=>.bool false::.int .i64 (g:Int)::E2 x o
 |.Cl g,o,x=>.bool false::.int .i64 (g:Int)::E0 x o
 |.fnCommand g,o,x=>.bool false::.int .i64 (g:Int)::E1 x o
def dF{α β:Type}(g:V->ah β)(f:β->aa V->ah α):aa V->ah α
 |x::cs=>(g x).bind λy=>f y cs
 |[]=>none
def dE{α:Type}(x:α):aa V->ah α
 |[]=>some x
 |_=>none
def V.ez(b:Bool):V->ah Bool|.bool c=>bif c==b then some c else none|_=>none
def V.E4(n:Int):V->ah Int|.int .i64 m=>if m=n then some m else none|_=>none
def DQ{α:Type}(e:α->aa V)(p:aa V->aa V)(d:aa V->ah α):Prop:=∀cs x,d cs=some x->∃L,e x=p L/\lX cs L
def aoU{α:Type}{e:α->aa V}{p:aa V->aa V}{x:α}(h:e x=p []):DQ e p (dE x):=λcs y C=>by
 cases cs with
 |nil=>injection C with C;subst C;exact⟨[],h,.nil⟩
 |cons=>cases C
def bind_some{α β:Type}{a:ah α}{f:α -> ah β}{b:β}(h:a.bind f=some b):∃ x,a=some x/\f x=some b:=by
 cases a with
 |none=>cases h
 |some x=>simp_all
def Cm{α β:Type}{e:α->aa V}{p:aa V->aa V}{g:V->ah β}{k:β->V}(D:∀ {x y},g x=some y->Wk x (k y)){f:β->aa V->ah α}(E:∀ y,DQ e (λL=>p (k y :: L)) (f y)):DQ e p (dF g f):=λcs x C=>by
 cases cs with
 |nil=>cases C
 | cons c cs=>
  obtain⟨y,O,T⟩:=bind_some C;obtain⟨L,U,Y⟩:=E y cs x T;exact⟨k y::L,U,.cons (D O) Y⟩
def V.aoV{b:Bool}{x:V}{c:Bool}(h:x.ez b=some c):Wk x (.bool b):=by
 unfold V.ez at h;split at h
 next C=>cases C<;>cases b<;>first|exact .same _|cases h
 ·cases h
def V.aoW{n:Int}{x:V}{c:Int}(h:x.E4 n=some c):Wk x (.int .i64 n):=by
 unfold V.E4 at h;split at h
 ·split at h
  next C=>subst C;exact .same _
  ·cases h
 ·cases h
abbrev acs (o:Nat):aa V->ah aJ:=dF V.bw λC=>dF V.bw λD=>dF V.bw λE=>dE ⟨C,D,E⟩
abbrev acu (o:Nat):aa V->ah aH:=dF V.bw λC=>dF V.bw λD=>dF V.bw λE=>dF V.bw λL=>dE ⟨C,D,E,L⟩
abbrev acv (o:Nat):aa V->ah aN:=dF V.bw λC=>dF V.bw λD=>dF V.bw λE=>dF V.oN λL=>dF V.bw λO=>dF V.bw λT=>dE ⟨C,D,E,L,O,T⟩
abbrev acw (o:Nat):aa V->ah av:=dF V.bw λC=>dF V.bw λD=>dF V.bw λE=>dF V.bw λL=>dF V.bw λO=>dF V.bw λT=>dF V.bw λU=>dF V.bw λY=>dF V.bw λZ=>dF V.bw λx9=>dF V.bw λxx=>dF V.bw λxy=>dF V.bw λxz=>dF V.bw λxB=>dF V.bw λxD=>dF V.bw λxE=>dF V.bw λxF=>dF V.bw λIu=>dF V.bw λIv=>dF V.bw λIw=>dF V.bw λVp=>dF V.bw λVq=>dF V.oN λVr=>dF V.bw λVs=>dF V.bw λVt=>dF V.bw λVu=>dF V.bw λVv=>dF V.bw λVw=>dF V.bw λx28=>dF V.bw λx29=>dF V.bw λx30=>dF V.bw λx31=>dF V.bw λx32=>dF (V.fP .int o) λx33=>dF V.bw λx34=>dF V.bw λx35=>dF V.bw λx36=>dF V.bw λx37=>dF V.bw λx38=>dF V.bw λx39=>dF V.bw λx40=>dF (V.fP .int o) λx41=>dF V.bw λx42=>dF V.bw λx43=>dF V.oN λx44=>dF V.bw λx45=>dF (V.fP .iY o) λx46=>dF V.bw λx47=>dF (V.fP .int o) λx48=>dF (V.fP .int o) λx49=>dF (V.fP .Cell o) λx50=>dF (V.fP .int o) λx51=>dF (V.fP .int o) λx52=>dF V.bw λx53=>dF (V.fP .int o) λx54=>dF (V.fP .int o) λx55=>dF V.bw λx56=>dF V.oN λx57=>dF (V.fP .gp o) λx58=>dF (V.fP .int o) λx59=>dF (V.fP .Addr o) λx60=>dF (V.fP .dg o) λx61=>dF (V.fP .fm o) λx62=>dF V.oN λx63=>dF V.bw λx64=>dF V.bw λx65=>dF V.bw λx66=>dF V.bw λx67=>dF V.bw λx68=>dF V.bw λx69=>dF V.bw λx70=>dF V.bw λx71=>dF (V.fP .fM o) λx72=>dF (V.fP .Event o) λx73=>dF (V.fP .iP o) λx74=>dE ⟨⟨⟨C,D,E,L⟩,⟨O,T,U,Y,Z,x9,xx,xy,xz,xB,xD,xE,xF,Iu,Iv,Iw,Vp⟩,⟨Vq,Vr⟩,Vs,Vt,Vu,⟨Vv,Vw⟩⟩,⟨⟨x28,x29,x30,x31,x32,x33,⟨x34,x35⟩⟩,⟨x36,x37,x38,x39,x40,x41,⟨x42,x43⟩⟩,x44⟩,x45,⟨x46,x47⟩,⟨x48,x49⟩,⟨x50,x51,x52⟩,⟨x53,x54⟩,⟨x55,x56,x57⟩,x58,x59,x60,x61,x62,⟨x63,x64,x65⟩,⟨x66,x67,x68⟩,⟨x69,x70,x71⟩,x72,x73,x74⟩
def dec:(t:TC)->(o:Nat)->aa V->ah (T t)
 |.int,_=>dF V.bw dE
 |.u8,_=>dF V.Vn dE
 |.bool,_=>dF V.oN dE
 |.str,_=>dF V.Vo dE
 |.ga,o=>dF V.bw λC=>dF V.bw λD=>dF V.bw λE=>dF V.bw λL=>dE ⟨C,D,E,L⟩
 |.Addr,o=>acs o
 |.oL,o=>dF V.bw λC=>dF V.oN λD=>dE ⟨C,D⟩
 |.Command,o=>acu o
 |.kI,o=>dF V.bw λC=>dF V.bw λD=>dF V.bw λE=>dF V.bw λL=>dF V.bw λO=>dF V.bw λU=>dF V.bw λY=>dF V.bw λZ=>dF V.bw λx8=>dF V.bw λx9=>dF V.bw λxx=>dF V.bw λxy=>dF V.bw λxz=>dF V.bw λxB=>dF V.bw λxD=>dF V.bw λxE=>dF V.bw λxF=>dE ⟨C,D,E,L,O,U,Y,Z,x8,x9,xx,xy,xz,xB,xD,xE,xF⟩
 |.iY,o=>dF V.oN λC=>dF V.bw λD=>dE ⟨C,D⟩
 |.iO,o=>dF (V.fP .iY o) λC=>dF V.bw λD=>dE ⟨C,D⟩
 |.Event,o=>dF V.bw λC=>dF V.bw λD=>dF V.bw λE=>dF V.bw λL=>dF V.bw λO=>dE ⟨C,⟨D,E,L,O⟩⟩
 |.jZ,o=>dF (V.fP .int o) λC=>dF (V.fP .int o) λD=>dE ⟨C,D⟩
 |.Cell,o=>dF (V.fP .int o) λC=>dF V.oN λD=>dE ⟨C,D⟩
 |.Array,o=>dF (V.fP .Cell o) λC=>dF (V.fP .int o) λD=>dF (V.fP .int o) λE=>dE ⟨C,D,E⟩
 |.n5,o=>dF V.bw λC=>dF V.bw λD=>dE ⟨C,D⟩
 |.gp,o=>dF (V.fP .int o) λC=>dF (V.fP .int o) λD=>dF V.bw λE=>dE ⟨C,D,E⟩
 |.mB,o=>dF V.bw λC=>dF (V.fP .int o) λD=>dE ⟨C,D⟩
 |.jJ,o=>dF (V.fP .int o) λC=>dF V.bw λD=>dF V.oN λE=>dE ⟨C,D,E⟩
 |.dg,o=>acv o
 |.fm,o=>dF V.bw λC=>dF V.bw λD=>dE ⟨C,D⟩
 |.n6,o=>dF V.oN λC=>dF V.bw λD=>dF V.bw λE=>dE ⟨C,D,E⟩
 |.Power,o=>dF V.bw λC=>dF V.bw λD=>dF V.bw λE=>dE ⟨C,D,E⟩
 |.oM,o=>dF V.bw λC=>dF V.bw λD=>dE ⟨C,D⟩
 |.fM,o=>dF V.bw λC=>dF V.bw λD=>dF V.bw λE=>dE ⟨C,D,E⟩
 |.pP,o=>dF V.bw λC=>dF V.bw λD=>dF V.bw λE=>dE ⟨C,D,E⟩
 |.jK,o=>dF V.bw λC=>dF V.bw λD=>dF V.bw λE=>dF V.bw λL=>dF V.bw λO=>dF (V.fP .int o) λU=>dF V.bw λY=>dF V.bw λZ=>dE ⟨C,D,E,L,O,U,⟨Y,Z⟩⟩
 |.mC,o=>dF V.bw λC=>dF V.bw λD=>dF V.bw λE=>dF V.bw λL=>dF V.bw λO=>dF (V.fP .int o) λU=>dF V.bw λY=>dF V.bw λZ=>dF V.bw λx8=>dF V.bw λx9=>dF V.bw λxx=>dF V.bw λxy=>dF V.bw λxz=>dF (V.fP .int o) λxB=>dF V.bw λxD=>dF V.bw λxE=>dF V.oN λxF=>dE ⟨⟨C,D,E,L,O,U,⟨Y,Z⟩⟩,⟨x8,x9,xx,xy,xz,xB,⟨xD,xE⟩⟩,xF⟩
 |.Config,o=>dF V.bw λC=>dF V.bw λD=>dF V.bw λE=>dF V.bw λL=>dF V.bw λO=>dF V.bw λU=>dF V.bw λY=>dF V.bw λZ=>dF V.bw λx8=>dF V.bw λx9=>dF V.bw λxx=>dF V.bw λxy=>dF V.bw λxz=>dF V.bw λxB=>dF V.bw λxD=>dF V.bw λxE=>dF V.bw λxF=>dF V.bw λIu=>dF V.bw λIv=>dF V.bw λIw=>dF V.bw λVp=>dF V.bw λVq=>dF V.oN λVr=>dF V.bw λVs=>dF V.bw λVt=>dF V.bw λVu=>dF V.bw λVv=>dF V.bw λVw=>dE ⟨⟨C,D,E,L⟩,⟨O,U,Y,Z,x8,x9,xx,xy,xz,xB,xD,xE,xF,Iu,Iv,Iw,Vp⟩,⟨Vq,Vr⟩,Vs,Vt,Vu,⟨Vv,Vw⟩⟩
 |.iP,o=>dF V.bw λC=>dF V.bw λD=>dF V.bw λE=>dF V.bw λL=>dE ⟨C,D,E,L⟩
 |.cP,o=>acw o
 |.Act,o=>dF V.bw λC=>dF V.bw λD=>dF V.bw λE=>dF V.bw λL=>dF V.oN λO=>dF V.bw λU=>dF V.bw λY=>dF V.bw λZ=>dF V.bw λx8=>dF V.bw λx9=>dF V.bw λxx=>dF V.bw λxy=>dF V.bw λxz=>dF V.bw λxB=>dF V.bw λxD=>dF V.bw λxE=>dF V.bw λxF=>dF (V.fP .int o) λIu=>dF V.bw λIv=>dF V.bw λIw=>dE ⟨C,⟨D,E,L,O,U,Y⟩,Z,x8,⟨x9,xx,xy⟩,⟨xz,xB,xD,xE,xF,Iu,⟨Iv,Iw⟩⟩⟩
 |.sl t,o=>dF (V.fP t o) dE
 |.mD,o=>dF (V.ez true) λ_=>acw o
 |.Ci g,o=>dF (V.ez false) λ_=>dF (V.E4 g) λ_=>dF V.bw dE
 |.Cj g,o=>dF (V.ez false) λ_=>dF (V.E4 g) λ_=>acv o
 |.Cl g,o=>dF (V.ez false) λ_=>dF (V.E4 g) λ_=>acs o
 |.fnCommand g,o=>dF (V.ez false) λ_=>dF (V.E4 g) λ_=>acu o
def shp:TC->Nat->aa V
 |.cP,o=>E3 ⟨⟨⟨0,0,0,0⟩,⟨0,0,0,0,0,0,0,0,0,0,0,0,0,0,0,0,0⟩,⟨0,false⟩,0,0,0,⟨0,0⟩⟩,⟨⟨0,0,0,0,0,[],⟨0,0⟩⟩,⟨0,0,0,0,0,[],⟨0,0⟩⟩,false⟩,0,⟨[],0⟩,⟨[],[]⟩,⟨[],[],[]⟩,⟨0,[]⟩,⟨[],0,false⟩,[],[],[],[],[],⟨false,0,0⟩,⟨0,0,0⟩,⟨0,0,0⟩,[],[],[]⟩ o
 |_,_=>[]
def lH(t:TC)(o:Nat)(x:T t):(enc t o x).length=aE t:=by cases t<;>rfl
def pQ(t:TC):0<aE t:=by cases t<;>simp[aE]
def aoX(t:TC)(o:Nat):DQ (enc t o) id (dec t o):=by
 cases t<;>dsimp only[dec]<;>(repeat' first|exact aoU rfl|refine Cm V.aoQ λ_=>?_|refine Cm V.aoS λ_=>?_|refine Cm V.It λ_=>?_|refine Cm V.aoT λ_=>?_|refine Cm V.aoR λ_=>?_|refine Cm V.aoV λ_=>?_|refine Cm V.aoW λ_=>?_)
def mZ(t:TC)(o:Nat)(cs:aa V)(x:T t)(h:dec t o cs=some x):lX cs (enc t o x):=by
 obtain⟨L,C,D⟩:=aoX t o cs x h;rw[C];exact D
def V.low(n:Nat):V->Bool
 |.sl t _ _ _=>Nat.ble (full t+2) n
 |_=>true
def O0(t:TC)(o:Nat)(x:T t):∀ y∈enc t o x,y.low (full t)=true:=by
 cases t<;>simp[enc,V.low,full,E0,E1,E2,E3]
def V.plain:V->Bool
 |.int _ _|.bool _|.str _=>true
 |_=>false
def zW(t:TC)(o:Nat)(x:T t)(h:full t=0):∀ y∈enc t o x,y.plain=true:=by
 cases t<;>first|(simp[full]at h;done)|simp[enc,V.plain,E0,E1,E2]
def V.kJ:V->Bool
 |.nil=>false
 |_=>true
def Vx(t:TC)(o:Nat)(x:T t):∀ y∈enc t o x,y.kJ=true:=by
 cases t<;>simp[enc,V.kJ,E0,E1,E2,E3]
def tcs:aa TC:=[.int,.u8,.bool,.str,.sl .int,.sl .bool,.sl .str,.ga,.Addr,.oL,.Command,.kI,.iY,.iO,.Event,.jZ,.Cell,.Array,.n5,.gp,.mB,.jJ,.dg,.fm,.n6,.Power,.oM,.fM,.pP,.jK,.mC,.Config,.iP,.cP,.Act]
def acy(e:TypeId):ah TC:=tcs.find? λt=>Nat.beq (tid t) e
def aoY{e:TypeId}{t:TC}(h:acy e=some t):tid t=e:=cK (List.find?_some (p:=λt=>Nat.beq (tid t) e) h)
def V.gr(o:Nat):V->Bool
 |.sl _ C _ _=>C==o
 |_=>true
def zX(t:TC)(o:Nat)(x:T t):∀ y∈enc t o x,y.gr o=true:=by
 cases t<;>simp[enc,V.gr,E0,E1,E2,E3]
def V.aF:V->Bool
 |.sl _ o _ _=>decide (o<2)
 |_=>true
def V.gN:V->V
 |.sl t _ q l=>.sl t 0 q l
 |x=>x
def aoZ(t:TC)(o:Nat)(x y:T t):(enc t o x).map (λv=>(v.plain,v.aF))=(enc t o y).map (λv=>(v.plain,v.aF)):=by cases t<;>rfl
def V.ao0(x:V):x.gN.aF=true:=by cases x<;>simp[V.gN,V.aF]
def sR(t:TC)(o:Nat)(x:T t)(C:o<2)(j:Nat)(y:V)(h:(enc t o x)[j]?=some y):y.aF=true:=by
 have:=zX t o x y (iq h);cases y<;>simp_all [V.gr,V.aF]
def acz(t:TC)(o:Nat)(x:T t):enc t 0 x=(enc t o x).map V.gN:=by cases t<;>rfl
def xH(t:TC)(o:Nat)(x:T t)(j:Nat)(y:V)(h:(enc t 0 x)[j]?=some y):∃ z,(enc t o x)[j]?=some z/\y=z.gN:=by
 rw[acz t o x,ff]at h
 grind
def inner:Nat->Nat
 |0=>0
 |1=>1
 |n+2=>n
abbrev bM:=Nat->ah (aa Nat)
inductive RV (w:World) (B:Nat) (aj:bM):List Nat->V->Value->Prop
 |int (q:List Nat) (k:IntKind) (n:Int):RV w B aj q (.int k n) (.int k n)
 |bool (q:List Nat) (b:Bool):RV w B aj q (.bool b) (.bool b)
 |str (q:List Nat) (s:ByteArray):RV w B aj q (.str s) (.string s)
 |nil (q:List Nat):RV w B aj q .nil (.slice none 0 0)
 |eU (q:List Nat) (t:TC) (o:Nat):RV w B aj q (.sl t o false []) (.slice none 0 0)
 |gd (q:List Nat) (t:TC) (o:Nat) (A:Addr) (c:Nat) (ho:o<2):RV w B aj q (.sl t o false []) (.slice (some A) 0 c)
 |gq (q:List Nat) (t:TC) (o:Nat) (A:Addr) (c:Nat) (ho:o<2):RV w B aj q (.sl t o true []) (.slice (some A) 0 c)
 | aF (q:List Nat) (t:TC) (o:Nat) (qn:Bool) (l:List (T t)) (b off cap:Nat) (u:Nat->Nat->Value) (ho:o<2) (hl:aj b=none) (hb:b<w.heap.size) (h1:o=1->B<=b) (jL:l.length<=cap)
   (hc:∀i (h:i<l.length) j x,(enc t o l[i])[j]?=some x->w.cell? ⟨b,off+(i*aE t+j),none⟩=some (u i j))
   (hr:∀i (h:i<l.length) j x,(enc t o l[i])[j]?=some x->RV w B aj [] x (u i j)):RV w B aj q (.sl t o qn l) (.slice (some ⟨b,off,none⟩) l.length cap)
 | own (q:List Nat) (t:TC) (o:Nat) (qn:Bool) (l:List (T t)) (b cap:Nat) (cs:Array Value) (u:Nat->Nat->Value) (hl:aj b=some q) (hh:w.heap[b]?=some (.cells cs (tid t) (0,0)))
   (hs:cs.size=cap*aE t) (hn:l.length<=cap) (hm:cap<=maxLen/\(qn=true->cap=l.length))
   (hc:∀i (h:i<l.length) j x,(enc t o l[i])[j]?=some x->cs[i*aE t+j]?=some (u i j))
   (hr:∀i (h:i<l.length) j x,(enc t o l[i])[j]?=some x->RV w B aj (j::i::aE t::q) x (u i j)):RV w B aj q (.sl t (o+2) qn l) (.slice (some ⟨b,0,none⟩) l.length cap)
section
variable {w w':World} {B:Nat} {aj aD:bM}
def V.Ix(n:Nat):V->V
 |.sl t _ q l=>.sl t n q l
 |x=>x
def ao1(t:TC)(o n:Nat)(x:T t):enc t n x=(enc t o x).map (V.Ix n):=by cases t<;>rfl
def V.fu(n:Nat):V->Prop
 |.sl t o _ _=>full t+2<=o/\full t+2<=n
 |_=>True
def RV.Ix{q:aa Nat}{x:V}{v:Value}(h:RV w B aj q x v):∀ n,x.fu n -> RV w B aj q (x.Ix n) v:=by
 induction h with
 |int=>exact λ_ _=>.int _ _ _
 |bool=>exact λ_ _=>.bool _ _
 |str=>exact λ_ _=>.str _ _
 |nil=>exact λ_ _=>.nil _
 |eU=>exact λ_ _=>.eU _ _ _
 |gd q t o A c L=>exact λn C=>by have:=C.1;omega
 |gq q t o A c L=>exact λn C=>by have:=C.1;omega
 |aF q t o O l b off cap u L hl hb T jL U Y Z=>exact λn C=>by have:=C.1;omega
 | own q t o O l b cap cs u hl hh hs C hm U Y Z=>
  intro n hf;obtain⟨T,h2⟩:=hf;obtain⟨m,rfl⟩:∃m,n=m+2:=⟨n-2,by omega⟩
  have key:∀ (i:Nat) (h:i<l.length) (j:Nat) (x:V),(enc t m l[i])[j]?=some x -> ∃ y:V,(enc t o l[i])[j]?=some y/\y.Ix m=x/\y.fu m:=by
   intro i h j x D;rw[ao1 t o m l[i],ff]at D;cases E:(enc t o l[i])[j]? with
   |none=>simp_all
   | some y=>
    rw[E]at D;injection D with D;refine⟨y,rfl,D,?_⟩;have g1:=zX t o l[i] y (iq E);have g2:=O0 t o l[i] y (iq E);cases y with
    | sl t' o' q' l'=>
     have e:o'=o:=by simpa [V.gr]using g1
     have:=cX (show Nat.ble _ _=true from g2);exact⟨by omega,by omega⟩
    |_=>trivial
  refine .own _ _ _ _ _ _ _ cs u hl hh hs C hm (λi h j x D=>?_) (λi h j x D=>?_)
  ·grind
  ·grind
def RV.wk{q:aa Nat}{x y:V}{v:Value}(h:RV w B aj q x v)(k:Wk x y):RV w B aj q y v:=by
 cases k with
 |same=>exact h
 |nil t o=>cases h;exact .eU _ _ _
 | gr t o o' L l O h2=>
  have h:=h.Ix o ⟨h2,O⟩;cases h with
  |eU=>exact .eU _ _ _
  |gd q t o A c C=>grind
  |gq q t o A c C=>grind
  |aF q t o L l b off cap u C hl hb O jL D E=>grind
  |own q t o L l b cap cs u hl T U Y Z D E=>exact .own _ _ _ _ _ _ _ cs u hl T U Y ⟨Z.1,λh=>by cases h⟩ D E
 | q t o l=>
  cases h with
  |gq q t o A c C=>exact .gd _ _ _ _ _ C
  |aF q t o L l b off cap u C hl hb O jL D E=>exact .aF _ _ _ _ _ _ _ _ u C hl hb O jL D E
  |own q t o L l b cap cs u hl T U Y Z D E=>exact .own _ _ _ _ _ _ _ cs u hl T U Y ⟨Z.1,λh=>by cases h⟩ D E
def RV.map{Q:aa Nat->aa Nat->Prop}(Z:w.heap.size<=w'.heap.size)(h0:∀ b,b<w.heap.size->aj b=none->w'.heap[b]?=w.heap[b]?/\aD b=none)
  (h1:∀b q C,b<w.heap.size->aj b=some q->Q q C->w'.heap[b]?=w.heap[b]?/\aD b=some C/\∀j i s,Q (j::i::s::q) (j::i::s::C)) {q C:aa Nat} {x:V} {v:Value} (h:RV w B aj q x v) (hq:x.aF=true\/Q q C):RV w' B aD C x v:=by
 induction h generalizing C with
 |int=>exact .int _ _ _
 |bool=>exact .bool _ _
 |str=>exact .str _ _
 |nil=>exact .nil _
 |eU=>exact .eU _ _ _
 |gd _ _ _ _ _ D=>exact .gd _ _ _ _ _ D
 |gq _ _ _ _ _ D=>exact .gq _ _ _ _ _ D
 | aF q t o qn l b off cap u D hl hb Vy jL L hr O=>
  obtain⟨T,U⟩:=h0 b hb hl;exact .aF _ _ _ _ _ _ _ _ u D U (Nat.lt_of_lt_of_le hb Z) Vy jL (λi h j x E=>(World.cell?_of_block (a:=⟨b,_,none⟩) T).trans (L i h j x E)) (λi h j x E=>O i h j x E (.inl (sR t o l[i] D j x E)))
 | own q t o qn l b cap cs u hl Y hs hn hm L hr O=>
  obtain⟨T,U,e3⟩:=h1 b q C (jj.1 Y).1 hl (hq.resolve_left (by simp[V.aF]));exact .own _ _ _ _ _ _ _ cs u U (T.trans Y) hs hn hm L (λi h j x E=>O i h j x E (.inr (e3 _ _ _)))
def RV.acA{q C:aa Nat}{x:V}{v:Value}(h:RV w B aj q x v)(D:x.aF=true)(hl:∀ b,aj b=none->aD b=none):RV w B aD C x v:=
 h.map (Q:=λ_ _=>False) (dW _) (λb _ h=>⟨rfl,hl b h⟩) (λ_ _ _ _ _ h=>h.elim) (.inl D)
def RV.O1{q:aa Nat}{x:V}{v:Value}(h:RV w B aj q x v)(C:x.aF=true)(hl:∀b,aj b=none->aD b=none):RV w B aD q x v:=h.acA C hl
def RV.key{q C:aa Nat}{x:V}{v:Value}(h:RV w B aj q x v)(D:x.aF=true):RV w B aj C x v:=h.acA D λ_ h=>h
def n7:Value->Bool
 |.slice ..=>true
 |_=>false
def RV.Vz{q:aa Nat}{x:V}{u:Value}(h:RV w B aj q x u)(C:x.aF=false):n7 u=true:=by
 cases h<;>first|rfl|cases C
def RV.one{q:aa Nat}{x:V}{u:Value}(h:RV w B aj q x u):u.oneCell'=true:=by
 cases h<;>rfl
def RV.mE{q:aa Nat}{x:V}{v:Value}(h:RV w B aj q x v)(D:w.heap.size<=w'.heap.size)(C:∀ b,b<w.heap.size->w'.heap[b]?=w.heap[b]?/\aD b=aj b):RV w' B aD q x v:=
 h.map (Q:=Eq) D (λb hb hl=>⟨(C b hb).1,(C b hb).2.trans hl⟩) (λb q E hb hl e=>by subst e;exact⟨(C b hb).1,(C b hb).2.trans hl,λ_ _ _=>rfl⟩) (.inr rfl)
def RV.apart{q kt:aa Nat}{x:V}{v:Value}{bt:Nat}(h:RV w B aj q x v)(C:aj bt=some kt)(L:¬ q <:+ kt\/x.aF=true)(O:w.heap.size<=w'.heap.size)(D:∀ b,b≠bt->w'.heap[b]?=w.heap[b]?):RV w' B aj q x v:=
 h.map (Q:=λq E=>q=E/\¬ q <:+ kt) O (λb _ hl=>⟨D b (by rintro rfl;rw[hl]at C;cases C),hl⟩) (λb q E _ hl e=>by
  obtain⟨rfl,e⟩:=e;exact⟨D b (by rintro rfl;rw[hl]at C;injection C with C;subst C;exact e (List.suffix_refl _)),hl,λj i s=>⟨rfl,λT=>e (List.IsSuffix.trans ⟨[j,i,s],rfl⟩ T)⟩⟩) (L.symm.imp_right λh=>⟨rfl,h⟩)
def RV.gN{q E:aa Nat}{x:V}{v:Value}(h:RV w B aj q x v){B':Nat}:RV w B' (λ_=>none) E x.gN v:=by
 induction h generalizing E with
 |int=>exact .int _ _ _
 |bool=>exact .bool _ _
 |str=>exact .str _ _
 |nil=>exact .nil _
 |eU=>exact .eU _ _ _
 |gd=>exact .gd _ _ _ _ _ (by first|assumption|omega)
 |gq=>exact .gq _ _ _ _ _ (by first|assumption|omega)
 | aF q t o T l b off cap u ho hl hb h1 U L Y Z=>
  refine .aF _ _ _ _ _ _ _ _ u (by omega) rfl hb (by omega) U (λi h j x C=>?_) (λi h j x C=>?_)
  ·obtain⟨y,D,_⟩:=xH t o l[i] j x C;simp_all
  ·obtain⟨y,D,rfl⟩:=xH t o l[i] j x C;simp_all
 | own q t o T l b cap cs u hl O hs hn hm L Y Z=>
  refine .aF _ _ _ _ _ _ _ _ u (by omega) rfl (jj.1 O).1 (by omega) hn (λi h j x C=>?_) (λi h j x C=>?_)
  ·obtain⟨y,D,_⟩:=xH t o l[i] j x C;have:=L i h j y D;rw[fT,cell_of_row w b _ cs _ _ O];exact this
  ·obtain⟨y,D,rfl⟩:=xH t o l[i] j x C;simp_all
end
set_option linter.unusedVariables false
inductive Lf where
 |v (x:V)
 |own (k:List Nat)
 |dead
inductive A where
 |undef
 |skip
 |lf (x:Lf)
 |agg (cs:List Lf)
 |fB (xs:List (Bool×List Lf))
 |ptr (k:List Nat)
 |aG (r j:Nat)
 |jy (cs:List V)
 |n8 (f:Nat) (cs:List V)
 |pk (r n:Nat)
 |view (k:List Nat) (s i j:Nat)
 |fn (f:Nat) (cap:List (Nat×Nat))
inductive bu where
 |aB (cs:List Lf)
 |sl (y:V)
 |mp (l:List (Int×Bool))
 |gh (xs:List A)
structure S where
 t:Nat->A
 m:Nat->Option bu
inductive Loc where
 |aB (b off:Nat)
 |eG (v:Value)
 |bX (us:List Value)
def addrAt(w:World)(aj:bM)(ρ:Nat->Loc):aa Nat->ah Addr
 | j :: i :: s :: [r]=>match ρ r with
  |.eG (.slice (some ⟨b,0,none⟩) _ _)=>if aj b=some [r]then some ⟨b,i*s+j,none⟩else none
  |_=>none
 | j :: i :: s :: q=>match (addrAt w aj ρ q).bind w.cell? with
  |some (.slice (some ⟨b,0,none⟩) _ _)=>if aj b=some q then some ⟨b,i*s+j,none⟩else none
  |_=>none
 |_=>none
def dm(w:World)(aj:bM)(ρ:Nat->Loc):aa Nat->ah Value
 | [r]=>match ρ r with
  |.eG v=>some v
  |_=>none
 |q=>(addrAt w aj ρ q).bind w.cell?
def eE(w:World)(B:Nat)(aj:bM)(ρ:Nat->Loc):Lf->Value->Prop
 |.v x,u=>x.aF=true/\RV w B aj [] x u
 |.own k,u=>n7 u=true/\dm w aj ρ k=some u
 |.dead,_=>True
def fh(w:World)(B:Nat)(aj:bM)(ρ:Nat->Loc)(cs:aa Lf)(us:Array Value):Prop:=
 us.size=cs.length/\∀(j:Nat) x,cs[j]?=some x->∃u,us[j]?=some u/\eE w B aj ρ x u
def RP(w:World)(B:Nat)(aj:bM)(ρ:Nat->Loc)(p:Bool×aa Lf)(u:Value):Prop:=
 match p with
 |(true,cs)=>∃us,u = .agg us/\fh w B aj ρ cs us
 |(false,cs)=>fh w B aj ρ cs #[u]
def rI:Nat:=4294967296
def O2(b n:Nat):Value:=bif Nat.beq n rI then .map (some b)else .slice (some ⟨b,0,none⟩) n n
def VA{b n:Nat}(h:n<rI):O2 b n = .slice (some ⟨b,0,none⟩) n n:=by
 unfold O2;cases hb:Nat.beq n rI with
 |true=>simp_all
 |false=>rfl
def VB(b:Nat):O2 b rI = .map (some b):=rfl
def RF(w:World)(B:Nat)(aj:bM)(cs:aa V)(u:Value):Prop:=
 ∃b off,u = .pointer (some ⟨b,off,none⟩)/\b<w.heap.size/\aj b=none/\∀(j:Nat) x,cs[j]?=some x->x.aF=true/\∃v,w.cell? ⟨b,off+j,none⟩=some v/\RV w B aj [] x v
def RA(w:World)(B:Nat)(aj:bM)(ρ:Nat->Loc):A->Value->Prop
 |.undef,_=>True
 |.skip,u=>u=Go.undef
 |.lf x,u=>eE w B aj ρ x u
 |.agg cs,u=>RP w B aj ρ (true,cs) u
 |.fB xs,u=>∃us:Array Value,u = .tuple us/\us.size=xs.length/\∀(j:Nat) p,xs[j]?=some p->∃v,us[j]?=some v/\RP w B aj ρ p v
 |.ptr k,u=>∃ad,u = .pointer (some ad)/\addrAt w aj ρ k=some ad
 |.aG r j,u=>∃b off,ρ r = .aB b off/\u = .pointer (some ⟨b,off+j,none⟩)
 |.jy cs,u=>RF w B aj cs u
 |.n8 f cs,u=>∃pv,u = .func (.func f) #[] #[pv]/\RF w B aj cs pv
 |.pk r n,u=>∃b,ρ r = .aB b 0/\u=O2 b n
 |.view k s i j,u=>∃A n c,dm w aj ρ k=some (.slice A n c)/\i<=j/\j<=n/\u=sliced A i j c s
 |.fn f cap,u=>∃C:Array Value,u = .func (.func f) #[] C/\C.size=cap.length/\∀(j:Nat) p,cap[j]?=some p->∃b off,ρ p.1 = .aB b off/\C[j]?=some (.pointer (some ⟨b,off+p.2,none⟩))
inductive eH (w:World) (B:Nat) (aj:bM) (ρ:Nat->Loc) (r:Nat):bu->Prop
 | aB (b off:Nat) (cells:Array Value) (e:TypeId) (cs:List Lf) (us:Nat->Value) (cG:ρ r = .aB b off) (hl:aj b=some [r]) (hh:w.heap[b]?=some (.cells cells e (0,0))) (hs:off+cs.length<=cells.size)
   (hc:∀(j:Nat) x,cs[j]?=some x->cells[off+j]?=some (us j)/\eE w B aj ρ x (us j)):eH w B aj ρ r (.aB cs)
 |sl (v:Value) (y:V) (cG:ρ r = .eG v) (hr:RV w B aj [r] y v):eH w B aj ρ r (.sl y)
 |mp (b clock:Nat) (es:Array MapEntry) (l:List (Int×Bool)) (cG:ρ r = .aB b 0) (hl:aj b=some [r]) (hh:w.heap[b]?=some (.map es clock)) (he:es.toList.map (λe=>(e.key,e.val))=l.map λp=>(.int .i64 p.1,.bool p.2)):eH w B aj ρ r (.mp l)
 |gh (us:List Value) (xs:List A) (cG:ρ r = .bX us) (hx:∀(j:Nat) x,xs[j]?=some x->RA w B aj ρ x (us.getD j undef)):eH w B aj ρ r (.gh xs)
def Qw(_:World):Prop:=True
structure ao2 (n:Nat) (L:bM) (w w':World):Prop where
 os:w'.os=w.os
 tape:w'.tape=w.tape
 output:w'.output=w.output
 size:w.heap.size<=w'.heap.size
 block:∀k,k<n->L k=none->w'.heap[k]?=w.heap[k]?
def Hd(w:World)(L:bM):Prop:=∀w',ao2 w.heap.size L w w'->Qw w'
def ao3(w:World)(L:bM):Hd w L:=λ_ _=>trivial
structure Wd where
 w:World
 L:bM
 F:Nat->Option Loc
 held:Hd w L
 low:∀r,r<20000->F r=none
def Wd.heap(d:Wd):Array Obj:=d.w.heap
def Wd.of(w:World)(h:Hd w λ_=>none):Wd:=⟨w,λ_=>none,λ_=>none,h,λ_ _=>rfl⟩
structure jz (d:Wd) (w w':World):Prop where
 os:w'.os=w.os
 tape:w'.tape=w.tape
 output:w'.output=w.output
 size:w.heap.size<=w'.heap.size
 block:∀k,k<d.heap.size->d.L k=none->w'.heap[k]?=w.heap[k]?
def jz.trans{d:Wd}{a b c:World}(h:jz d a b)(k:jz d b c):jz d a c:=
 ⟨k.os.trans h.os,k.tape.trans h.tape,k.output.trans h.output,Nat.le_trans h.size k.size,λi hi hl=>(k.block i hi hl).trans (h.block i hi hl)⟩
def Wd.on(d:Wd){w:World}(h:jz d d.w w){L:bM}(D:∀ b k,L b=some k->d.heap.size<=b\/d.L b≠none):Hd w L:=λw' hb=>
 d.held w' ⟨hb.os.trans h.os,hb.tape.trans h.tape,hb.output.trans h.output,Nat.le_trans h.size hb.size,λk C hl=>by
  have e:L k=none:=by
   cases e:L k with
   |none=>rfl
   | some q=>
    rcases D k q e with h1|h1
    ·exact absurd C (Nat.not_lt.2 h1)
    ·exact absurd hl h1
  exact(hb.block k (Nat.lt_of_lt_of_le C h.size) e).trans (h.block k C hl)⟩
def jz.of{d:Wd}{a b:World}{B:Nat}(h:Below B a b)(hB:d.heap.size<=B):jz d a b:=
 ⟨h.os,h.tape,h.output,h.size,λi hi _=>h.block i (Nat.lt_of_lt_of_le hi hB)⟩
structure Rl (w0:Wd) (N:Nat) (aj:bM) (ρ:Nat->Loc) (σ:S) (a:Act) (w:World):Prop where
 below:jz w0 w0.w w
 dD:∀b k,aj b=some k->(w0.heap.size<=b\/w0.L b≠none)/\b<w.heap.size/\k≠[]
 root:∀r x,σ.m r=some x->eH w w0.heap.size aj ρ r x
 tmp:∀k,RA w w0.heap.size aj ρ (σ.t k) (a.tmps.getD k undef)
 size:a.tmps.size=N
 defers:a.defers=[]
 fix:∀r l,w0.F r=some l->ρ r=l
 dN:∀r,(r<N\/60000<=r)->w0.F r=none
def R(w0:Wd)(N:Nat)(σ:S)(a:Act)(w:World):Prop:=∃aj ρ,Rl w0 N aj ρ σ a w
/-! Reading along a key. -/
inductive xJ (m:Nat->Option bu):List Nat->V->Prop
 |root (r:Nat) (y:V) (h:m r=some (.sl y)):xJ m [r] y
 |elem (j i:Nat) (q:List Nat) (t:TC) (o:Nat) (qn:Bool) (l:List (T t)) (y:V) (h:xJ m q (.sl t (o+2) qn l)) (hi:i<l.length) (hy:(enc t o l[i])[j]?=some y):xJ m (j::i::aE t::q) y
section
variable {w w':World} {w0:Wd} {B N:Nat} {aj aD:bM} {ρ ρ':Nat->Loc} {m:Nat->ah bu} {σ:S} {a:Act}
def Cn{q:aa Nat}(j i s:Nat){b n c:Nat}(h:dm w aj ρ q=some (.slice (some ⟨b,0,none⟩) n c))(hl:aj b=some q):addrAt w aj ρ (j :: i :: s :: q)=some ⟨b,i*s+j,none⟩:=by
 match q,h,hl with
 | [r],h,hl=>
  simp[dm]at h;simp[addrAt]
  grind
 | x :: y :: q,h,hl=>
  simp[dm]at h;simp[addrAt,h,hl,if_true]
def O3{j i s:Nat}{q:aa Nat}:dm w aj ρ (j::i::s::q)=(addrAt w aj ρ (j::i::s::q)).bind w.cell?:=rfl
def xJ.ok{k:aa Nat}{y:V}(h:xJ m k y)(D:∀ r x,m r=some x -> eH w B aj ρ r x):∃ u,dm w aj ρ k=some u/\RV w B aj k y u:=by
 induction h with
 | root r y h=>
  cases D _ _ h with
  |sl v y E C=>exact⟨v,by simp[dm,E],C⟩
 | elem j i q t o Y l y h hi L O=>
  obtain⟨u,T,C⟩:=O;cases C with
  |eU=>simp at hi
  |gd=>simp at hi
  |gq=>simp at hi
  |aF _ _ _ _ _ _ _ _ _ Z=>omega
  | own _ _ _ _ _ b cap cs us hl U hs hn D hc C=>
   refine⟨us i j,?_,C i hi j y L⟩;rw[O3,Cn j i _ T hl];show w.cell? _=_;rw[cell_of_row w b _ cs _ _ U];simp_all
def Co:∀ (k:aa Nat) (ad:Addr),addrAt w aj ρ k=some ad -> ∃ j i s q,k=j :: i :: s :: q/\aj ad.block=some q/\ad.off=i*s+j/\ad.spot=none/\(∀ r,q=[r] -> ∃ v,ρ r = .eG v)
 |[],_,h=>by simp[addrAt]at h
 | [j,i,s,r],ad,h=>by
  simp only[addrAt]at h
  grind
 | j :: i :: s :: x :: y :: q,ad,h=>by
  simp only[addrAt]at h
  grind
/-! What is forgotten: keys of leaves,of addresses,roots. -/
structure n9 where
 l:List Nat->Bool
 p:List Nat->Bool
 r:Nat->Bool
def Lf.cL(f:aa Nat->Bool):Lf->Lf
 |.own k=>bif f k then .dead else .own k
 |x=>x
def A.cL(K:n9):A->A
 |.lf x=>.lf (x.cL K.l)
 |.agg cs=>.agg (cs.map (Lf.cL K.l))
 |.fB xs=>.fB (xs.map λp=>(p.1,p.2.map (Lf.cL K.l)))
 |.ptr k=>bif K.p k then .undef else .ptr k
 |.aG r j=>bif K.r r then .undef else .aG r j
 |.pk r n=>bif K.r r then .undef else .pk r n
 |.view k s i j=>bif K.p k then .undef else .view k s i j
 |.fn f cap=>bif cap.any (λp=>K.r p.1)then .undef else .fn f cap
 |x=>x
def bu.cL(K:n9):bu->bu
 |.aB cs=>.aB (cs.map (Lf.cL K.l))
 |.gh xs=>.gh (xs.map (A.cL K))
 |x=>x
/-! What names nothing that is forgotten. -/
def Lf.fr(f:aa Nat->Bool):Lf->Bool
 |.own k=>!f k
 |_=>true
def A.fr(K:n9):A->Bool
 |.lf x=>x.fr K.l
 |.agg cs=>cs.all (Lf.fr K.l)
 |.fB xs=>xs.all λq=>q.2.all (Lf.fr K.l)
 |.ptr k=>!K.p k
 |.aG r _=>!K.r r
 |.pk r _=>!K.r r
 |.view k _ _ _=>!K.p k
 |.fn _ cap=>cap.all λq=>!K.r q.1
 |_=>true
def Lf.rJ{f:aa Nat->Bool}{x:Lf}(h:x.fr f=true):x.cL f=x:=by
 cases x with
 |own k=>simp only[Lf.cL,show f k=false by simpa [Lf.fr]using h,aq]
 |_=>rfl
def rK.rJ{f:aa Nat->Bool}{cs:aa Lf}(h:cs.all (Lf.fr f)=true):cs.map (Lf.cL f)=cs:=
 (List.map_congr_left λx C=>Lf.rJ (cw.1 h x C)).trans (List.map_id cs)
def A.rJ{K:n9}{x:A}(h:x.fr K=true):x.cL K=x:=by
 cases x with
 |lf x=>exact bf A.lf (Lf.rJ h)
 |agg cs=>exact bf A.agg (rK.rJ h)
 |fB xs=>exact bf A.fB ((List.map_congr_left λq C=>by rw[rK.rJ (cw.1 h q C)];rfl).trans (List.map_id xs))
 |ptr k=>simp only[A.cL,show K.p k=false by simpa [A.fr]using h,aq]
 |view k=>simp only[A.cL,show K.p k=false by simpa [A.fr]using h,aq]
 |aG r=>simp only[A.cL,show K.r r=false by simpa [A.fr]using h,aq]
 |pk r=>simp only[A.cL,show K.r r=false by simpa [A.fr]using h,aq]
 |fn f cap=>simp only[A.cL,show (cap.any λp=>K.r p.1)=false from oJ.2 λp D=>by simpa using cw.1 h p D,aq]
 |_=>rfl
def Lf.vP{f g:aa Nat->Bool}(hl:∀ k,f k=true->g k=true){x:Lf}(h:x.fr g=true):x.fr f=true:=by
 cases x with
 | own k=>
  have h:(!g k)=true:=h;show (!f k)=true;cases C:f k with
  |false=>rfl
  |true=>rw[hl k C]at h;cases h
 |_=>rfl
def A.vP{K J:n9}(hl:∀ k,K.l k=true->J.l k=true)(L:∀ k,K.p k=true->J.p k=true)(O:∀ r,K.r r=true->J.r r=true){x:A}(h:x.fr J=true):x.fr K=true:=by
 have C:∀r,(!J.r r)=true->(!K.r r)=true:=λr h=>Lf.vP (x:=.own []) (f:=λ_=>K.r r) (λ_=>O r) h
 cases x with
 |lf x=>exact Lf.vP hl h
 |agg cs=>exact cw.2 λc D=>Lf.vP hl (cw.1 h c D)
 |fB xs=>exact cw.2 λq E=>cw.2 λc D=>Lf.vP hl (cw.1 (cw.1 h q E) c D)
 |ptr k=>exact Lf.vP (x:=.own k) L h
 |view k=>exact Lf.vP (x:=.own k) L h
 |aG r=>exact C r h
 |pk r=>exact C r h
 |fn f cap=>exact cw.2 λq E=>C _ (cw.1 h q E)
 |_=>rfl
def Lf.pR(x:Lf)(f g:aa Nat->Bool):(x.cL f).cL g=(x.cL g).cL f:=by
 cases x with
 |own k=>cases C:f k<;>cases D:g k<;>simp[Lf.cL,C,D]
 |_=>rfl
def rK.pR(cs:aa Lf)(f g:aa Nat->Bool):(cs.map (Lf.cL f)).map (Lf.cL g)=(cs.map (Lf.cL g)).map (Lf.cL f):=by
 rw[List.map_map,List.map_map];exact List.map_congr_left λx _=>Lf.pR x f g
def A.pR(x:A)(K J:n9):(x.cL K).cL J=(x.cL J).cL K:=by
 cases x with
 |lf x=>exact bf A.lf (Lf.pR x _ _)
 |agg cs=>exact bf A.agg (rK.pR cs _ _)
 | fB xs=>
  refine bf A.fB ?_;rw[List.map_map,List.map_map];exact List.map_congr_left λq _=>bf (Prod.mk q.1) (rK.pR q.2 _ _)
 |ptr k=>cases C:K.p k<;>cases D:J.p k<;>simp[A.cL,C,D]
 |view k=>cases C:K.p k<;>cases D:J.p k<;>simp[A.cL,C,D]
 |aG r=>cases C:K.r r<;>cases D:J.r r<;>simp[A.cL,C,D]
 |pk r=>cases C:K.r r<;>cases D:J.r r<;>simp[A.cL,C,D]
 |fn f cap=>cases C:(cap.any λp=>K.r p.1)<;>cases D:(cap.any λp=>J.r p.1)<;>simp only[A.cL,C,D,au,aq]
 |_=>rfl
def bu.pR(x:bu)(K J:n9):(x.cL K).cL J=(x.cL J).cL K:=by
 cases x with
 |aB cs=>exact bf bu.aB (rK.pR cs _ _)
 | gh xs=>
  refine bf bu.gh ?_;rw[List.map_map,List.map_map];exact List.map_congr_left λx _=>A.pR x K J
 |_=>rfl
def dc(d:Nat)(k:aa Nat):Bool:=k.getLast?==some d
def xK(d:Nat):n9:=⟨dc d,dc d,λr=>Nat.beq r d⟩
def Lf.drop(d:Nat):Lf->Lf:=Lf.cL (dc d)
def A.drop(d:Nat):A->A:=A.cL (xK d)
def bu.drop(d:Nat):bu->bu:=bu.cL (xK d)
def jM(c:Nat->Bool)(k:aa Nat):Bool:=match k.getLast? with
 |some r=>c r
 |none=>false
structure Tr (w w':World) (aj aD:bM) (ρ ρ':Nat->Loc) (t:List Nat->Bool) (c:Nat->Bool):Prop where
 size:w.heap.size<=w'.heap.size
 no:∀b,b<w.heap.size->aj b=none->w'.heap[b]?=w.heap[b]?/\aD b=none
 so:∀b k,aj b=some k->t k=false->w'.heap[b]?=w.heap[b]?/\aD b=some k
 fC:∀r,c r=false->ρ' r=ρ r
 up:∀j i s x q,t (j::i::s::x::q)=t (x::q)
 ne:∀b,aj b=some []->∀k,t k=false
structure n9.OK (K:n9) (t:List Nat->Bool) (c:Nat->Bool):Prop where
 l:∀k,K.l k=false->(k.length=1\/t k=false)/\jM c k=false
 p:∀k,K.p k=false->t k=false/\jM c k=false
 r:∀r,K.r r=false->c r=false
section
variable {t:aa Nat->Bool} {c:Nat->Bool} {K:n9}
def RV.tr(T:Tr w w' aj aD ρ ρ' t c){q:aa Nat}{x:V}{v:Value}(h:RV w B aj q x v)(D:x.aF=true\/t q=false):RV w' B aD q x v:=
 h.map (Q:=λq C=>q=C/\t q=false) T.size T.no (λb q C _ hl e=>by
  obtain⟨rfl,e⟩:=e;exact⟨(T.so b q hl e).1,(T.so b q hl e).2,λj i s=>⟨rfl,by
   cases q with
   |nil=>exact T.ne b hl _
   |cons x q=>rw[T.up];exact e⟩⟩) (D.imp_right λh=>⟨rfl,h⟩)
def O4(j i s x:Nat)(q:aa Nat):jM c (j::i::s::x::q)=jM c (x::q):=by simp[jM,List.getLast?_cons_cons]
def VC(T:Tr w w' aj aD ρ ρ' t c):∀ (k:aa Nat) (ad:Addr),t k=false->jM c k=false->addrAt w aj ρ k=some ad->addrAt w' aD ρ' k=some ad
 |[],_,_,_,h=>by simp[addrAt]at h
 |[_],_,_,_,h=>by simp[addrAt]at h
 |[_,_],_,_,_,h=>by simp[addrAt]at h
 |[_,_,_],_,_,_,h=>by simp[addrAt]at h
 | [j,i,s,r],_,C,D,h=>by
  rw[T.up]at C;rw[O4]at D;simp only[addrAt]at h ⊢;rw[T.fC r D];split at h
  ·split at h
   next hl=>rw[bJ (T.so _ _ hl C).2];exact h
   ·cases h
  ·cases h
 | j :: i :: s :: x :: y :: q,ad,C,D,h=>by
  rw[T.up]at C;rw[O4]at D;simp only[addrAt]at h ⊢;cases E:addrAt w aj ρ (x::y::q)with
  |none=>rw[E]at h;cases h
  | some U=>
   rw[VC T _ _ C D E];rw[E]at h;cases L:w.cell? U with
   |none=>simp[L]at h
   | some v=>
    obtain⟨Z,i',s',O,hk,Y,_,_⟩:=Co _ _ E;have Cp:t O=false:=by
     cases O with
     |nil=>exact T.ne _ Y _
     |cons z O=>rw[<-T.up Z i' s',<-hk];exact C
    have e:w'.cell? U=some v:=(World.cell?_of_block (T.so _ _ Y Cp).1).trans L;simp only[Option.bind_some,L]at h;simp only[Option.bind_some,e];split at h
    ·split at h
     next hl=>rw[bJ (T.so _ _ hl C).2];exact h
     ·cases h
    ·cases h
def VD(T:Tr w w' aj aD ρ ρ' t c)(k:aa Nat)(u:Value)(C:k.length=1\/t k=false)(D:jM c k=false)(h:dm w aj ρ k=some u):dm w' aD ρ' k=some u:=by
 match k,C,D,h with
 |[],_,_,h=>simp[dm,addrAt]at h
 | [r],_,D,h=>
  simp only[dm]at h ⊢;rw[T.fC r D];exact h
 | x :: y :: q,C,D,h=>
  have C:t (x::y::q)=false:=C.resolve_left (by simp);simp only[dm]at h ⊢;cases E:addrAt w aj ρ (x::y::q)with
  |none=>rw[E]at h;cases h
  | some ad=>
   rw[VC T _ _ C D E];rw[E]at h;have h:w.cell? ad=some u:=h;obtain⟨U,Y,Z,L,hk,O,_,_⟩:=Co _ _ E;have Cp:t L=false:=by
    cases L with
    |nil=>exact T.ne _ O _
    |cons z L=>rw[<-T.up U Y Z,<-hk];exact C
   exact(World.cell?_of_block (T.so _ _ O Cp).1).trans h
def eE.tr(T:Tr w w' aj aD ρ ρ' t c)(C:K.OK t c){x:Lf}{u:Value}(h:eE w B aj ρ x u):eE w' B aD ρ' (x.cL K.l) u:=by
 cases x with
 |v x=>exact⟨h.1,h.2.tr T (.inl h.1)⟩
 |dead=>trivial
 | own k=>
  show eE w' B aD ρ' (bif K.l k then .dead else .own k) u;cases hl:K.l k with
  |true=>trivial
  |false=>exact⟨h.1,VD T k u (C.l k hl).1 (C.l k hl).2 h.2⟩
def fh.tr(T:Tr w w' aj aD ρ ρ' t c)(D:K.OK t c){cs:aa Lf}{us:Array Value}(h:fh w B aj ρ cs us):fh w' B aD ρ' (cs.map (Lf.cL K.l)) us:=by
 refine⟨by rw[eK];exact h.1,λj x C=>?_⟩
 rw[ff]at C;obtain⟨y,E,rfl⟩:=Option.map_eq_some_iff.1 C;obtain⟨u,L,r⟩:=h.2 j y E;exact⟨u,L,r.tr T D⟩
def RP.tr(T:Tr w w' aj aD ρ ρ' t c)(C:K.OK t c){p:Bool×aa Lf}{u:Value}(h:RP w B aj ρ p u):RP w' B aD ρ' (p.1,p.2.map (Lf.cL K.l)) u:=by
 obtain⟨b,cs⟩:=p;cases b with
 |true=>obtain⟨us,e,h⟩:=h;exact⟨us,e,h.tr T C⟩
 |false=>exact fh.tr T C h
def RF.tr(T:Tr w w' aj aD ρ ρ' t c){cs:aa V}{u:Value}(h:RF w B aj cs u):RF w' B aD cs u:=by
 obtain⟨b,off,e,hb,hl,h⟩:=h;obtain⟨D,E⟩:=T.no b hb hl
 refine⟨b,off,e,Nat.lt_of_lt_of_le hb T.size,E,λj x L=>?_⟩
 obtain⟨C,v,O,U⟩:=h j x L;exact⟨C,v,(World.cell?_of_block (a:=⟨b,_,none⟩) D).trans O,U.tr T (.inl C)⟩
def RA.tr(T:Tr w w' aj aD ρ ρ' t c)(C:K.OK t c){x:A}{u:Value}(h:RA w B aj ρ x u):RA w' B aD ρ' (x.cL K) u:=by
 cases x with
 |undef=>trivial
 |skip=>exact h
 |lf x=>exact eE.tr T C h
 |agg cs=>exact RP.tr T C (p:=(true,cs)) h
 | fB xs=>
  obtain⟨us,e,E,h⟩:=h
  refine⟨us,e,by rw[eK];exact E,λj p D=>?_⟩
  rw[ff]at D;obtain⟨y,L,rfl⟩:=Option.map_eq_some_iff.1 D;obtain⟨v,O,r⟩:=h j y L;exact⟨v,O,r.tr T C⟩
 | ptr k=>
  simp only[A.cL];cases hl:K.p k with
  |true=>trivial
  |false=>obtain⟨ad,e,h⟩:=h;exact⟨ad,e,VC T k ad (C.p k hl).1 (C.p k hl).2 h⟩
 | view k s i j=>
  simp only[A.cL];cases hl:K.p k with
  |true=>trivial
  |false=>obtain⟨A,n,c,h,g⟩:=h;exact⟨A,n,c,VD T k _ (.inr (C.p k hl).1) (C.p k hl).2 h,g⟩
 | pk r n=>
  simp only[A.cL];cases hl:K.r r with
  |true=>trivial
  |false=>obtain⟨b,e,h⟩:=h;exact⟨b,(T.fC r (C.r r hl)).trans e,h⟩
 | aG r j=>
  simp only[A.cL];cases hl:K.r r with
  |true=>trivial
  |false=>obtain⟨b,off,e,h⟩:=h;exact⟨b,off,(T.fC r (C.r r hl)).trans e,h⟩
 |jy cs=>exact RF.tr T h
 |n8 f cs=>obtain⟨pv,e,h⟩:=h;exact⟨pv,e,h.tr T⟩
 | fn f cap=>
  simp only[A.cL];cases hl:cap.any (λp=>K.r p.1)with
  |true=>trivial
  | false=>
   obtain⟨U,e,E,h⟩:=h
   refine⟨U,e,E,λj p D=>?_⟩
   obtain⟨b,off,Y,Z⟩:=h j p D;exact⟨b,off,(T.fC _ (C.r _ (by simpa using oJ.1 hl p (iq D)))).trans Y,Z⟩
def eH.tr(T:Tr w w' aj aD ρ ρ' t c)(Y:K.OK t c){r:Nat}{x:bu}(h:eH w B aj ρ r x)(D:t [r]=false)(E:c r=false):eH w' B aD ρ' r (x.cL K):=by
 cases h with
 | aB b off cells e cs us C hl U hs Z=>
  refine .aB b off cells e _ us ((T.fC r E).trans C) (T.so b _ hl D).2 ((T.so b _ hl D).1.trans U) (by rw[eK];exact hs) (λj x L=>?_)
  rw[ff]at L;obtain⟨y,O,rfl⟩:=Option.map_eq_some_iff.1 L;exact⟨(Z j y O).1,(Z j y O).2.tr T Y⟩
 |sl v y C hr=>exact .sl v y ((T.fC r E).trans C) (hr.tr T (.inr D))
 |mp b clock es l C hl U he=>exact .mp b clock es l ((T.fC r E).trans C) (T.so b _ hl D).2 ((T.so b _ hl D).1.trans U) he
 | gh us xs C L=>
  refine .gh us _ ((T.fC r E).trans C) (λj x hj=>?_)
  rw[ff]at hj;obtain⟨y,O,rfl⟩:=Option.map_eq_some_iff.1 hj;exact(L j y O).tr T Y
end
/-! Nothing is forgotten where old memory stays. -/
def O5:n9:=⟨λ_=>false,λ_=>false,λ_=>false⟩
def A.Iy(x:A):x.cL O5=x:=by
 have h:∀cs:aa Lf,cs.all (Lf.fr O5.l)=true:=λcs=>cw.2 λc _=>by cases c<;>rfl
 refine A.rJ ?_;cases x with
 |lf x=>cases x<;>rfl
 |agg cs=>exact h cs
 |fB xs=>exact cw.2 λq _=>h q.2
 |fn f cap=>exact cw.2 λ_ _=>rfl
 |_=>rfl
def bu.Iy(x:bu):x.cL O5=x:=by
 cases x with
 |aB cs=>exact bf bu.aB (A.agg.inj (A.Iy (.agg cs)))
 |gh xs=>exact bf bu.gh ((List.map_congr_left λx _=>A.Iy x).trans (List.map_id xs))
 |_=>rfl
def VE(k:aa Nat):jM (λ_=>false) k=false:=by unfold jM;split<;>rfl
def acB:O5.OK (λ_=>false) (λ_=>false):=⟨λk _=>⟨.inr rfl,VE k⟩,λk _=>⟨rfl,VE k⟩,λ_ _=>rfl⟩
def Tr.mE(E:w.heap.size<=w'.heap.size)(C:∀ b,b<w.heap.size->w'.heap[b]?=w.heap[b]?/\aD b=aj b)(D:∀ b k,aj b=some k->b<w.heap.size):Tr w w' aj aD ρ ρ (λ_=>false) (λ_=>false):=
 ⟨E,λb hb hl=>⟨(C b hb).1,(C b hb).2.trans hl⟩,λb k hl _=>⟨(C b (D b k hl)).1,(C b (D b k hl)).2.trans hl⟩,λ_ _=>rfl,λ_ _ _ _ _=>rfl,λ_ _ _=>rfl⟩
def RA.mE{x:A}{u:Value}(h:RA w B aj ρ x u)(C:w.heap.size<=w'.heap.size)(D:∀ b,b<w.heap.size->w'.heap[b]?=w.heap[b]?/\aD b=aj b)(E:∀ b k,aj b=some k->b<w.heap.size):RA w' B aD ρ x u:=by
 have:=h.tr (.mE C D E) acB
 rwa [A.Iy]at this
def eE.mE{x:Lf}{u:Value}(h:eE w B aj ρ x u)(C:w.heap.size<=w'.heap.size)(D:∀b,b<w.heap.size->w'.heap[b]?=w.heap[b]?/\aD b=aj b)(E:∀b k,aj b=some k->b<w.heap.size):eE w' B aD ρ x u:=RA.mE (x:=.lf x) h C D E
def fh.mE{cs:aa Lf}{us:Array Value}(h:fh w B aj ρ cs us)(C:w.heap.size<=w'.heap.size)(D:∀ b,b<w.heap.size->w'.heap[b]?=w.heap[b]?/\aD b=aj b)(E:∀ b k,aj b=some k->b<w.heap.size):fh w' B aD ρ cs us:=
 ⟨h.1,λj x L=>let ⟨u,hu,r⟩:=h.2 j x L;⟨u,hu,r.mE C D E⟩⟩
def eH.mE{r:Nat}{x:bu}(h:eH w B aj ρ r x)(C:w.heap.size<=w'.heap.size)(D:∀ b,b<w.heap.size->w'.heap[b]?=w.heap[b]?/\aD b=aj b)(E:∀ b k,aj b=some k->b<w.heap.size):eH w' B aD ρ r x:=by
 have:=h.tr (.mE C D E) acB rfl rfl
 rwa [bu.Iy]at this
/-! A root's name is given anew. -/
def vQ{d:Nat}{t:aa Nat->Bool}{c:Nat->Bool}(E:∀ k,dc d k=false->t k=false)(L:∀ r,r≠d->c r=false):(xK d).OK t c:=by
 have h:∀ k,dc d k=false->jM c k=false:=λk C=>by
  unfold jM;split
  next r D=>exact L r (by rintro rfl;simp[dc,D]at C)
  ·rfl
 exact⟨λk C=>⟨.inr (E k C),h k C⟩,λk C=>⟨E k C,h k C⟩,λr D=>L r (by rintro rfl;simp[xK]at D)⟩
def pS{d r:Nat}(h:r≠d):Nat.beq r d=false:=Bool.eq_false_iff.2 λe=>h (cK e)
def Tr.Iz{d:Nat}(C:∀ r,r≠d->ρ' r=ρ r):Tr w w aj aj ρ ρ' (λ_=>false) (λr=>Nat.beq r d):=
 ⟨dW _,λ_ _ h=>⟨rfl,h⟩,λ_ _ h _=>⟨rfl,h⟩,λr D=>C r (by rintro rfl;simp at D),λ_ _ _ _ _=>rfl,λ_ _ _=>rfl⟩
def RP.fC{d:Nat}(C:∀r,r≠d->ρ' r=ρ r){p:Bool×aa Lf}{u:Value}(h:RP w B aj ρ p u):RP w B aj ρ' (p.1,p.2.map (Lf.drop d)) u:=h.tr (.Iz C) (vQ (λ_ _=>rfl) λ_=>pS)
def RA.fC{d:Nat}(C:∀r,r≠d->ρ' r=ρ r){x:A}{u:Value}(h:RA w B aj ρ x u):RA w B aj ρ' (x.drop d) u:=h.tr (.Iz C) (vQ (λ_ _=>rfl) λ_=>pS)
def fh.fC{d:Nat}(C:∀r,r≠d->ρ' r=ρ r){cs:aa Lf}{us:Array Value}(h:fh w B aj ρ cs us):fh w B aj ρ' (cs.map (Lf.drop d)) us:=h.tr (.Iz C) (vQ (λ_ _=>rfl) λ_=>pS)
def eE.fC{d:Nat}(C:∀r,r≠d->ρ' r=ρ r){x:Lf}{u:Value}(h:eE w B aj ρ x u):eE w B aj ρ' (x.drop d) u:=h.tr (.Iz C) (vQ (λ_ _=>rfl) λ_=>pS)
def eH.fC{d r:Nat}(C:∀r,r≠d->ρ' r=ρ r)(D:r≠d){x:bu}(h:eH w B aj ρ r x):eH w B aj ρ' r (x.drop d):=h.tr (.Iz C) (vQ (λ_ _=>rfl) λ_=>pS) rfl (pS D)
def ck{α:Type}(f:Nat->α)(d:Nat)(x:α):Nat->α:=λk=>bif Nat.beq k d then x else f k
def cu{α:Type}(f:Nat->α)(d:Nat)(x:α):ck f d x d=x:=by simp[ck]
def cU{α:Type}(f:Nat -> α)(d:Nat)(x:α){k:Nat}(h:k≠d):ck f d x k=f k:=by
 have:Nat.beq k d=false:=by
  cases hb:Nat.beq k d with
  |false=>rfl
  |true=>simp_all
 simp[ck,this,aq]
def S.set(σ:S)(d:Nat)(x:A):S:={ σ with t:=ck σ.t d x }
def S.drop(σ:S)(d:Nat):S:=⟨λk=>(σ.t k).drop d,λr=>bif Nat.beq r d then none else (σ.m r).map (bu.drop d)⟩
def S.root(σ:S)(d:Nat)(x:bu):S:={ σ with m:=ck σ.m d (some x) }
def Rl.set{x:A}{v:Value}{d:Nat}(h:Rl w0 N aj ρ σ a w)(E:RA w w0.heap.size aj ρ x v)(D:d<N):Rl w0 N aj ρ (σ.set d x) (a.put (some d) v) w:=by
 refine⟨h.below,h.dD,h.root,λk=>?_,?_,h.defers,h.fix,h.dN⟩
 ·show RA w _ aj ρ (ck σ.t d x k) ((a.tmps.setIfInBounds d v).getD k undef);by_cases C:k=d
  ·subst C;rw[cu,iV,Array.getElem?_setIfInBounds_self];have:k<a.tmps.size:=by rw[h.size];exact D
   simp_all
  ·rw[cU _ _ _ C,iV,Array.getElem?_setIfInBounds_ne (Ne.symm C),<- iV];exact h.tmp k
 ·show (a.tmps.setIfInBounds d v).size=N;rw[Array.size_setIfInBounds];exact h.size
def Rl.grow(h:Rl w0 N aj ρ σ a w)(hb:Below w.heap.size w w')(hl:∀ b,b<w.heap.size -> aD b=aj b)(L:∀ b k,w.heap.size <= b -> aD b=some k -> b<w'.heap.size/\k≠[]):Rl w0 N aD ρ σ a w':=by
 have D:∀b,b<w.heap.size -> w'.heap[b]?=w.heap[b]?/\aD b=aj b:=λb E=>⟨hb.block b E,hl b E⟩
 refine⟨h.below.trans (.of hb h.below.size),λb k C=>?_,λr x O=>(h.root r x O).mE hb.size D (λb k hb=>(h.dD b k hb).2.1),λk=>(h.tmp k).mE hb.size D (λb k hb=>(h.dD b k hb).2.1),h.size,h.defers,h.fix,h.dN⟩
 rcases Nat.lt_or_ge b _ with T|pT
 ·rw[hl b T]at C;have:=h.dD b k C
  grind
 ·have:=L b k pT C;exact⟨.inl (Nat.le_trans h.below.size pT),this.1,this.2⟩
def Rl.new{d:Nat}{x:bu}(h:Rl w0 N aj ρ σ a w)(l:Loc)(T:eH w w0.heap.size aj (ck ρ d l) d x)(L:w0.F d=none):Rl w0 N aj (ck ρ d l) ((σ.drop d).root d x) a w:=by
 have E:∀r,r≠d -> ck ρ d l r=ρ r:=λr D=>cU _ _ _ D
 refine⟨h.below,h.dD,λr y C=>?_,λk=>(h.tmp k).fC E,h.size,h.defers,λr O D=>(E r (by rintro rfl;rw[L]at D;cases D)).trans (h.fix r O D),h.dN⟩
 by_cases D:r=d
 ·subst D;have e:(ck (σ.drop r).m r _) r=some x:=cu _ _ _;have C:(ck (σ.drop r).m r _) r=some y:=C;simp_all
 ·have C:(ck (σ.drop d).m d _) r=some y:=C;rw[cU _ _ _ D]at C;have hb:Nat.beq r d=false:=by
   cases hb:Nat.beq r d with
   |false=>rfl
   |true=>simp_all
  simp only[S.drop,hb,aq]at C;cases hm:σ.m r with
  |none=>simp_all
  | some z=>
   rw[hm]at C;injection C with C;subst C;exact(h.root r z hm).fC E D
end
def splice{α:Type}(l:aa α)(j:Nat)(xs:aa α):aa α:=l.take j++xs++l.drop (j+xs.length)
def ua{α:Type}(l:aa α)(j:Nat)(xs:aa α)(h:j+xs.length<=l.length):(splice l j xs).length=l.length:=by
 simp[splice];omega
def xN{α:Type}(l:aa α)(j:Nat)(xs:aa α)(h:j+xs.length <= l.length)(n:Nat):
  (splice l j xs)[n]?=if n<j then l[n]? else if n<j+xs.length then xs[n-j]? else l[n]?:=by
 unfold splice
 grind
structure vR (w w':World) (bt:Nat):Prop where
 size:w'.heap.size=w.heap.size
 os:w'.os=w.os
 tape:w'.tape=w.tape
 output:w'.output=w.output
 block:∀k,k≠bt->w'.heap[k]?=w.heap[k]?
def O6(w:World)(b o:Nat)(l:aa Value):vR w (w.setCells b o l) b:=by
 have g:=acr b l o w;have s:=acq b l o w
 refine⟨s,g.os,g.tape,g.output,λk C=>?_⟩
 rcases Nat.lt_or_ge k _ with D|pT
 ·exact g.block k D (by intro e;injection e with e;exact C e)
 ·simp_all
section
variable {w w':World} {w0:Wd} {B N:Nat} {aj:bM} {ρ:Nat->Loc} {m m':Nat->ah bu} {σ:S} {a:Act} {bt:Nat} {kt:aa Nat}
def rL(w w':World)(aj:bM)(ρ:Nat->Loc):Prop:=∀k ad v,addrAt w aj ρ k=some ad->w.cell? ad=some v->n7 v=true->w'.cell? ad=some v
def VF(D:rL w w' aj ρ):∀ (k:aa Nat) (ad:Addr),addrAt w aj ρ k=some ad -> addrAt w' aj ρ k=some ad
 |[],_,h=>h
 |[_],_,h=>h
 |[_,_],_,h=>h
 |[j,i,s,r],_,h=>by simp only[addrAt]at h ⊢;exact h
 | j :: i :: s :: x :: y :: q,ad,h=>by
  simp only[addrAt]at h ⊢;cases C:addrAt w aj ρ (x::y::q)with
  |none=>simp_all
  | some L=>
   rw[VF D _ _ C];rw[C]at h;cases E:w.cell? L with
   |none=>simp_all
   | some v=>
    simp only[Option.bind_some,E]at h;have O:n7 v=true:=by
     split at h
     next e=>injection e with e;subst e;rfl
     ·cases h
    simp only[Option.bind_some,D _ _ _ C E O];exact h
def acC(D:rL w w' aj ρ)(k:aa Nat)(u:Value)(E:n7 u=true)(h:dm w aj ρ k=some u):dm w' aj ρ k=some u:=by
 match k,h with
 |[r],h=>exact h
 | x :: y :: q,h=>
  simp[dm]at h ⊢;cases C:addrAt w aj ρ _ with
  |none=>rw[C]at h;cases h
  | some ad=>
   rw[VF D _ _ C];rw[C]at h;exact D _ _ _ C h E
def eE.wrote{x:Lf}{u:Value}(h:eE w B aj ρ x u)(C:vR w w' bt)(hl:aj bt=some kt)(D:rL w w' aj ρ):eE w' B aj ρ x u:=by
 cases x with
 |v x=>exact⟨h.1,h.2.apart hl (.inr h.1) (Nat.le_of_eq C.size.symm) C.block⟩
 |own k=>exact⟨h.1,acC D k u h.1 h.2⟩
 |dead=>trivial
def fh.wrote{cs:aa Lf}{us:Array Value}(h:fh w B aj ρ cs us)(C:vR w w' bt)(hl:aj bt=some kt)(D:rL w w' aj ρ):fh w' B aj ρ cs us:=
 ⟨h.1,λj x E=>let ⟨u,hu,r⟩:=h.2 j x E;⟨u,hu,r.wrote C hl D⟩⟩
def RP.wrote{p:Bool×aa Lf}{u:Value}(h:RP w B aj ρ p u)(C:vR w w' bt)(hl:aj bt=some kt)(D:rL w w' aj ρ):RP w' B aj ρ p u:=by
 obtain⟨b,cs⟩:=p;cases b with
 |true=>obtain⟨us,e,h⟩:=h;exact⟨us,e,h.wrote C hl D⟩
 |false=>exact fh.wrote h C hl D
def RF.wrote{cs:aa V}{u:Value}(h:RF w B aj cs u)(C:vR w w' bt)(hl:aj bt=some kt):RF w' B aj cs u:=by
 obtain⟨b,off,e,hb,D,h⟩:=h;have L:b≠bt:=by rintro rfl;rw[hl]at D;cases D
 refine⟨b,off,e,by rw[C.size];exact hb,D,λj x O=>?_⟩
 obtain⟨E,v,T,U⟩:=h j x O;exact⟨E,v,(World.cell?_of_block (C.block b L)).trans T,U.apart hl (.inr E) (Nat.le_of_eq C.size.symm) C.block⟩
def RA.wrote{x:A}{u:Value}(h:RA w B aj ρ x u)(C:vR w w' bt)(hl:aj bt=some kt)(D:rL w w' aj ρ):RA w' B aj ρ x u:=by
 cases x with
 |undef=>trivial
 |skip=>exact h
 |lf x=>exact eE.wrote h C hl D
 |agg cs=>exact RP.wrote (p:=(true,cs)) h C hl D
 |fB xs=>obtain⟨us,e,E,h⟩:=h;exact⟨us,e,E,λj p L=>let ⟨v,O,r⟩:=h j p L;⟨v,O,r.wrote C hl D⟩⟩
 |ptr k=>obtain⟨ad,e,h⟩:=h;exact⟨ad,e,VF D _ _ h⟩
 |view k s i j=>obtain⟨A,n,c,h,g⟩:=h;exact⟨A,n,c,acC D k _ rfl h,g⟩
 |pk r n=>exact h
 |aG r j=>exact h
 |jy cs=>exact RF.wrote h C hl
 |n8 f cs=>obtain⟨pv,e,h⟩:=h;exact⟨pv,e,h.wrote C hl⟩
 |fn f cap=>exact h
def eH.wrote{r:Nat}{x:bu}(h:eH w B aj ρ r x)(E:vR w w' bt)(hl:aj bt=some kt)(Y:rL w w' aj ρ)(O:¬ [r] <:+ kt):eH w' B aj ρ r x:=by
 cases h with
 | aB b off cells e cs us D C T hs Z=>
  have U:b≠bt:=by rintro rfl;rw[hl]at C;injection C with C;subst C;exact O (List.suffix_refl _)
  exact .aB b off cells e cs us D C ((E.block b U).trans T) hs (λj x L=>⟨(Z j x L).1,(Z j x L).2.wrote E hl Y⟩)
 |sl v y D fU=>exact .sl v y D (fU.apart hl (.inl O) (Nat.le_of_eq E.size.symm) E.block)
 | mp b c es l D C T he=>
  have U:b≠bt:=by rintro rfl;rw[hl]at C;injection C with C;subst C;exact O (List.suffix_refl _)
  exact .mp b c es l D C ((E.block b U).trans T) he
 |gh us xs D L=>exact .gh us xs D λj x hj=>(L j x hj).wrote E hl Y
def Rl.wrote(h:Rl w0 N aj ρ σ a w)(C:vR w w' bt)(hl:aj bt=some kt)(O:rL w w' aj ρ)(T:∀ r x,m' r=some x -> eH w' w0.heap.size aj ρ r x):Rl w0 N aj ρ ⟨σ.t,m'⟩ a w':=by
 have hb:=(h.dD bt kt hl).1;have U:∀ k,k<w0.heap.size -> w0.L k=none -> k≠bt:=by
  grind
 refine⟨⟨C.os.trans h.below.os,C.tape.trans h.below.tape,C.output.trans h.below.output,by rw[C.size];exact h.below.size,λk D E=>(C.block k (U k D E)).trans (h.below.block k D E)⟩,λb k Y=>?_,T,λk=>(h.tmp k).wrote C hl O,h.size,h.defers,h.fix,h.dN⟩
 rw[C.size];exact h.dD b k Y
def acD{r C:Nat}(h:C≠r):¬ [C] <:+ [r]:=by
 intro D;have:=D.eq_of_length rfl;simp_all
def Rl.IA{r j:Nat}{cs xs:aa Lf}{us:Array Value}(h:Rl w0 N aj ρ σ a w)(hm:σ.m r=some (.aB cs))(hx:fh w w0.heap.size aj ρ xs us)(hj:j+xs.length <= cs.length):
  ∃b off,ρ r = .aB b off/\w.there b (off+j) us.size/\Rl w0 N aj ρ ⟨σ.t,ck σ.m r (some (.aB (splice cs j xs)))⟩ a (w.setCells b (off+j) us.toList):=by
 have T:=h.root r _ hm;generalize D:bu.aB cs=x at T;cases T with
 |sl=>cases D
 |mp=>cases D
 |gh=>cases D
 | aB b off cells e fe u cG hl Y hs hc=>
  injection D with D;subst D;have hlen:us.size=xs.length:=hx.1;have mF:off+j+us.toList.length <= cells.size:=by rw[mA,hlen];omega
  have E:=O6 w b (off+j) us.toList;obtain⟨U,gO,qC⟩:=Is b e us.toList (off+j) w cells Y mF;have O:rL w (w.setCells b (off+j) us.toList) aj ρ:=by
   intro k ad v ha Z gG;obtain⟨j',i',s',q,rfl,hq,_,_,hh'⟩:=Co k ad ha;have dH:ad.block≠b:=by
    intro e
    grind
   exact(World.cell?_of_block (E.block _ dH)).trans Z
  refine⟨b,off,cG,λn hn=>⟨?_,frozen_of_row w b _ cells e Y⟩,h.wrote E hl O λr' y L=>?_⟩
  ·rw[cell_of_row w b _ cells e _ Y];simp;omega
  ·by_cases oa:r'=r
   ·subst oa;rw[cu]at L;injection L with L;subst L
    refine .aB b off U e _ (λn=>if n<j then u n else if n<j+xs.length then us.getD (n-j) undef else u n) cG hl gO ?_ λn x C=>?_
    ·rw[ua _ _ _ hj,<- mA,qC]
     grind
    ·have e2:U[off+n]?=(splice cells.toList (off+j) us.toList)[off+n]?:=by
      rw[show U[off+n]?=U.toList[off+n]? by simp,qC];rfl
     rw[e2,xN _ _ _ (by simpa using mF)];rw[xN _ _ _ hj]at C;by_cases h1:n<j
     ·rw[bJ];simp only[h1]at C ⊢;refine⟨?_,(hc n x C).2.wrote E hl O⟩;simp_all
     ·by_cases h2:n<j+xs.length
      ·rw[bQ,bJ (by rw[mA,hlen];omega)];simp only[h1,h2,if_true,if_false]at C ⊢;obtain⟨v,Z,T⟩:=hx.2 (n-j) x C;have hg:us.getD (n-j) undef=v:=by rw[iV,Z];rfl
       rw[hg];refine⟨?_,T.wrote E hl O⟩
       grind
      ·rw[bQ,bQ (by rw[mA];omega)];simp only[h1,h2]at C ⊢;refine⟨?_,(hc n x C).2.wrote E hl O⟩
       grind
   ·rw[cU _ _ _ oa]at L;exact(h.root r' y L).wrote E hl O (acD oa)
inductive zY (m:Nat->Option bu):List Nat->V->(Nat->Option bu)->Prop
 |root (r:Nat) (y0 y:V) (h:m r=some (.sl y0)):zY m [r] y (ck m r (some (.sl y)))
 | elem (j i:Nat) (q:List Nat) (t:TC) (o:Nat) (qn:Bool) (l:List (T t)) (y:V) (e:T t) (m':Nat->Option bu) (h:xJ m q (.sl t (o+2) qn l)) (hi:i<l.length) (hj:j<aE t)
   (hd:dec t o (splice (enc t o l[i]) j [y])=some e) (hp:zY m q (.sl t (o+2) qn (l.set i e)) m'):zY m (j::i::aE t::q) y m'
def VG{α:Type}{a b c:aa α}(D:a <:+ c)(hb:b <:+ c)(h:a.length=b.length):a=b:=by
 obtain⟨x,E⟩:=D;obtain⟨y,C⟩:=hb;rw[<-E]at C;exact((List.append_inj' C h.symm).2).symm
def RV.O7{q:aa Nat}{t:TC}{o:Nat}{Y:Bool}{l:aa (T t)}{i j:Nat}{xs:aa V}{e:T t}{b cap:Nat}{cs fe:Array Value}{u us:Nat -> Nat -> Value}
  (hl:aj b=some q) (hh:w'.heap[b]?=some (.cells fe (tid t) (0,0))) (hs:fe.size=cap*aE t) (hn:l.length <= cap) (hm:cap <= maxLen/\(Y=true -> cap=l.length)) (hi:i<l.length) (hj:j+xs.length <= aE t)
  (hd:dec t o (splice (enc t o l[i]) j xs)=some e)
  (hc:∀D (h:D<l.length) (C:Nat) x,(enc t o l[D])[C]?=some x -> ¬ (D=i/\j <= C/\C<j+xs.length) -> fe[D*aE t+C]?=some (u D C)/\RV w' B aj (C::D::aE t::q) x (u D C))
  (hx:∀(n:Nat) x,xs[n]?=some x -> fe[i*aE t+(j+n)]?=some (us i (j+n))/\RV w' B aj ((j+n)::i::aE t::q) x (us i (j+n))):
  RV w' B aj q (.sl t (o+2) Y (l.set i e)) (.slice (some ⟨b,0,none⟩) l.length cap):=by
 have hlen:(l.set i e).length=l.length:=eM;have key:∀ D (h:D<(l.set i e).length) (C:Nat) x,(enc t o (l.set i e)[D])[C]?=some x ->
   ∃v,fe[D*aE t+C]?=some v/\RV w' B aj (C::D::aE t::q) x v:=by
  intro D h C x L;rw[List.getElem_set]at L;by_cases hii:i=D
  ·subst hii;rw[bJ rfl]at L;have hk:=mZ t o _ e hd;have rM:C<(enc t o e).length:=(eo.1 L).1;rw[<- hk.1]at rM;have E:=bY rM;generalize (splice (enc t o l[i]) j xs)[C]=y at E;have Z:=hk.2 C y x E L;rw[xN _ _ _ (by rw[lH];exact hj)]at E;by_cases h1:C<j
   ·rw[bJ h1]at E;obtain⟨O,U⟩:=hc i hi C y E (by omega);exact⟨_,O,U.wk Z⟩
   ·by_cases h2:C<j+xs.length
    ·rw[bQ h1,bJ h2]at E;obtain⟨O,U⟩:=hx _ y E;rw[show j+(C-j)=C by omega]at O U;exact⟨_,O,U.wk Z⟩
    ·rw[bQ h1,bQ h2]at E;obtain⟨O,U⟩:=hc i hi C y E (by omega);exact⟨_,O,U.wk Z⟩
  ·grind
 rw[<- hlen]
 refine .own q t o Y (l.set i e) b cap fe (λD C=>(fe[D*aE t+C]?).getD undef) hl hh hs (by rw[hlen];exact hn) ⟨hm.1,λh=>by rw[hlen];exact hm.2 h⟩ (λD h C x L=>?_) (λD h C x L=>?_)
 ·grind
 ·obtain⟨v,hv,hr⟩:=key D h C x L;simp_all
def acE{r:Nat}{q:aa Nat}(h:[r] <:+ q){C:Nat}(D:[C] <:+ q):C=r:=by
 have:=VG D h rfl;injection this
def zY.ok{q:aa Nat}{y:V}(h:zY m q y m')(hm:∀ r x,m r=some x -> eH w B aj ρ r x)(T:vR w w' bt)(hl:aj bt=some kt)(U:q <:+ kt)(hC:rL w w' aj ρ){L:Value}(D:dm w aj ρ q=some L)(hy:RV w' B aj q y L):
  ∀r x,m' r=some x -> eH w' B aj ρ r x:=by
 induction h generalizing L with
 | root r y0 y h=>
  intro Y x C;by_cases O:Y=r
  ·subst O;rw[cu]at C;injection C with C;subst C;simp only[dm]at D;cases cG:ρ Y with
   |aB b off=>grind
   |bX us=>grind
   | eG v=>
    rw[cG]at D;injection D with D;subst D;exact .sl v y cG hy
  ·rw[cU _ _ _ O]at C;exact(hm Y x C).wrote T hl hC (λZ=>O (acE U Z))
 | elem j i q t o qn l y e m' h hi hj hd hp ih=>
  obtain⟨uc,Cq,fU⟩:=h.ok hm;have hqk:q <:+ kt:=List.IsSuffix.trans ⟨[j,i,aE t],rfl⟩ U;cases fU with
  |eU=>simp at hi
  |gd=>simp at hi
  |gq=>simp at hi
  |aF _ _ _ _ _ _ _ _ _ ho=>omega
  | own _ _ _ _ _ b cap cs us E hh Z hn sS hc O=>
   have dH:b≠bt:=by
    rintro rfl;rw[hl]at E;injection E with E;subst E;have:=U.length_le
    grind
   have hz:=Nat.le_of_eq T.size.symm
   refine ih hqk Cq (RV.O7 (us:=λ_ _=>L) (u:=us) (cs:=cs) (xs:=[y]) E ((T.block b dH).trans hh) Z hn sS hi (show j+1 <= aE t from hj) hd (λi' h' j' x C O8=>⟨hc i' h' j' x C,(O i' h' j' x C).apart hl (.inl λpU=>O8 ?_) hz T.block⟩) (λn x C=>?_))
   ·have:=VG pU U rfl
    grind
   ·cases n with
    |succ n=>simp at C
    | zero=>
     simp at C;subst C;refine⟨?_,hy⟩;rw[O3,Cn j i _ Cq E]at D;have D:w.cell? ⟨b,i*aE t+j,none⟩=some L:=D;rw[cell_of_row w b _ cs _ _ hh]at D;exact D
def RV.acF{q:aa Nat}{x:V}{v:Value}(h:RV w B aj q x v)(C:x.plain=true):n7 v=false:=by
 cases h<;>first|rfl|cases C
def RV.ud{q C:aa Nat}{x:V}{v:Value}{B':Nat}{aD:bM}(h:RV w B aj q x v)(D:x.plain=true):RV w' B' aD C x v:=by
 cases h<;>first|exact .int _ _ _|exact .bool _ _|exact .str _ _|cases D
def Rl.ao4{j i:Nat}{q:aa Nat}{t:TC}{o:Nat}{qn:Bool}{l:aa (T t)}{xs:aa V}{us:Array Value}{e:T t}(h:Rl w0 N aj ρ σ a w)(hg:xJ σ.m q (.sl t (o+2) qn l))(hi:i<l.length)(hj:j+xs.length <= aE t)
  (hd:dec t o (splice (enc t o l[i]) j xs)=some e) (hold:∀(n:Nat) x,n<xs.length -> (enc t o l[i])[j+n]?=some x -> x.plain=true) (hxp:∀x∈xs,x.plain=true) (lI:us.size=xs.length) (hx:∀(n:Nat) x,xs[n]?=some x -> ∃u,us[n]?=some u/\RV w w0.heap.size aj [] x u)
  (hp:zY σ.m q (.sl t (o+2) qn (l.set i e)) m'):
  ∃b,addrAt w aj ρ (j::i::aE t::q)=some ⟨b,i*aE t+j,none⟩/\w.there b (i*aE t+j) us.size/\Rl w0 N aj ρ ⟨σ.t,m'⟩ a (w.setCells b (i*aE t+j) us.toList):=by
 obtain⟨uc,Cq,fU⟩:=hg.ok h.root;cases fU with
 |eU=>simp at hi
 |gd=>simp at hi
 |gq=>simp at hi
 |aF _ _ _ _ _ _ _ _ _ ho=>omega
 | own _ _ _ _ _ b cap cs u U hh hs hn sS hc hr=>
  have Cr:i*aE t+aE t <= cap*aE t:=by
   have:(i+1)*aE t <= cap*aE t:=iW _ (by omega);rw[iF]at this;exact this
  have mF:i*aE t+j+us.toList.length <= cs.size:=by rw[mA,lI,hs];omega
  have Y:=O6 w b (i*aE t+j) us.toList;obtain⟨O,gO,qC⟩:=Is b (tid t) us.toList (i*aE t+j) w cs hh mF;have ue:∀ n,O[n]?=if n<i*aE t+j then cs[n]? else if n<i*aE t+j+xs.length then us[n-(i*aE t+j)]? else cs[n]?:=by
   intro n;have e2:O[n]?=(splice cs.toList (i*aE t+j) us.toList)[n]?:=by
    rw[show O[n]?=O.toList[n]? by simp,qC];rfl
   rw[e2,xN _ _ _ (by simpa using mF),mA,lI];simp
  have IB:O.size=cs.size:=by
   rw[<- mA,qC];have:=ua cs.toList _ us.toList (by simpa using mF)
   grind
  have hC:rL w (w.setCells b (i*aE t+j) us.toList) aj ρ:=by
   intro k ad v ha D gG;by_cases dH:ad.block=b
   ·obtain⟨L,C,s',q',rfl,Cp,ao5,vS,_⟩:=Co k ad ha;have pV:ad=⟨b,ad.off,none⟩:=by cases ad;simp_all
    rw[pV,cell_of_row w b _ cs _ _ hh]at D;rw[pV,cell_of_row _ b _ O _ _ gO,ue];by_cases h1:ad.off<i*aE t+j
    ·rw[bJ h1];exact D
    ·by_cases h2:ad.off<i*aE t+j+xs.length
     ·exfalso;have hjs:ad.off-(i*aE t+j)<xs.length:=by omega
      have Cs:j+(ad.off-(i*aE t+j))<(enc t o l[i]).length:=by rw[lH];omega
      have hy:=bY Cs;generalize (enc t o l[i])[j+(ad.off-(i*aE t+j))]=y at hy;have vT:=hold _ y hjs hy;have Z:=hc i hi _ y hy;rw[show i*aE t+(j+(ad.off-(i*aE t+j)))=ad.off by omega]at Z;rw[D]at Z;injection Z with Z;have:=(hr i hi _ y hy).acF vT;rw[<- Z,gG]at this;cases this
     ·rw[bQ h1,bQ h2];exact D
   ·exact(World.cell?_of_block (Y.block _ dH)).trans D
  refine⟨b,Cn j i (aE t) Cq U,λn rN=>⟨?_,frozen_of_row w b _ cs _ hh⟩,h.wrote Y U hC (hp.ok h.root Y U (List.suffix_refl _) hC Cq ?_)⟩
  ·rw[cell_of_row w b _ cs _ _ hh];simp;omega
  ·refine RV.O7 (u:=u) (us:=λ_ n=>us.getD (n-j) undef) (cs:=cs) (xs:=xs) U gO (IB.trans hs) hn sS hi hj hd (λC h' L x E O8=>?_) (λn x E=>?_)
   ·have rM:L<aE t:=by have:=(eo.1 E).1;rwa [lH]at this
    refine⟨?_,(hr C h' L x E).apart U (.inl λpU=>?_) (Nat.le_of_eq Y.size.symm) Y.block⟩
    ·rw[ue];have IC:¬ (¬ C*aE t+L<i*aE t+j/\C*aE t+L<i*aE t+j+xs.length):=by
      rintro⟨h1,h2⟩;rcases Nat.lt_trichotomy C i with dQ|heq|E5
      ·have:(C+1)*aE t <= i*aE t:=iW _ dQ;rw[iF]at this;omega
      ·subst heq
       grind
      ·have:(i+1)*aE t <= C*aE t:=iW _ E5;rw[iF]at this;omega
     split
     ·exact hc C h' L x E
     ·rw[bQ];exact hc C h' L x E
    ·have:=pU.length_le;simp at this;omega
   ·obtain⟨v,D,E6⟩:=hx n x E;have rN:n<xs.length:=(eo.1 E).1;have E7:us.getD (j+n-j) undef=v:=by rw[show j+n-j=n by omega,iV,D];rfl
    rw[E7,ue,bQ,bJ];refine⟨?_,E6.ud (hxp x (iq E))⟩;rw[show i*aE t+(j+n)-(i*aE t+j)=n by omega];exact D
end
def VH:Value->A
 |.bool b=>.lf (.v (.bool b))
 |.int k n=>.lf (.v (.int k n))
 |.string s=>.lf (.v (.str s))
 |.slice none 0 0=>.lf (.v .nil)
 |_=>.undef
def aP(σ:S):Operand->A
 |.tmp t=>σ.t t
 |.const v=>VH v
 |.func f=>.fn f []
 |.global _=>.undef
def iH{X:Type}(N:Nat)(σ:S)(C:ah Tmp)(x:A)(k:S->ah X):ah X:=
 match C with
 |none=>k σ
 |some d=>bif Nat.blt d N then k (σ.set d x)else none
def mG(P:Program)(w0:Wd)(N:Nat)(o:Oper)(σ D:S):Prop:=
 ∀a w K Q,R w0 N σ a w->(∀C w',R w0 N D C w'->K C w')->o.wp P a w K Q
section
variable {P:Program} {w:World} {w0:Wd} {B N:Nat} {aj:bM} {ρ:Nat->Loc} {σ:S} {a:Act} {X:Type} {r:X} {k:S->ah X} {o:Oper}
def ao6(v:Value):RA w B aj ρ (VH v) v:=by
 unfold VH;split
 ·exact⟨rfl,.bool _ _⟩
 ·exact⟨rfl,.int _ _ _⟩
 ·exact⟨rfl,.str _ _⟩
 ·exact⟨rfl,.nil _⟩
 ·trivial
def Rl.aP(h:Rl w0 N aj ρ σ a w)(x:Operand):RA w w0.heap.size aj ρ (aP σ x) (a.eval x):=by
 cases x with
 |tmp t=>exact h.tmp t
 |const v=>exact ao6 v
 |func f=>exact⟨#[],rfl,rfl,by simp⟩
 |global g=>trivial
def mG.val{x:A}(C:iH N σ o.dst x k=some r)(h:∀ aj ρ a w,Rl w0 N aj ρ σ a w -> ∃ v,(execOp a.eval o).run P w = .ok (.value v) w/\RA w w0.heap.size aj ρ x v):∃ O,k O=some r/\mG P w0 N o σ O:=by
 unfold iH at C;split at C
 ·rename_i D
  refine⟨σ,C,λa w K Q hR E=>?_⟩
  obtain⟨aj,ρ,hl⟩:=hR;obtain⟨v,L,T⟩:=h aj ρ a w hl;unfold Oper.wp;rw[L,Oper.upon_value,D];exact E _ _ ⟨aj,ρ,hl⟩
 ·rename_i d D;cases U:Nat.blt d N with
  |false=>simp_all
  | true=>
   rw[U]at C
   refine⟨_,C,λa w K Q hR E=>?_⟩
   obtain⟨aj,ρ,hl⟩:=hR;obtain⟨v,L,T⟩:=h aj ρ a w hl;unfold Oper.wp;rw[L,Oper.upon_value,D];exact E _ _ ⟨aj,ρ,hl.set T (by have:=cX U;omega)⟩
/-! What does the same whatever comes behind. -/
def nc{α:Type}(f:(X:Type)->(α->ah X)->ah X)(y:α):Prop:=∀(X:Type) (k:α->ah X),f X k=k y
def nc.at_{α:Type}{f:(X:Type)->(α->ah X)->ah X}{y:α}(h:nc f y){X:Type}(k:α->ah X):f X k=k y:=h X k
def cS{α:Type}(f:(X:Type)->(α->ah X)->ah X):Prop:=∀(X Y:Type) (k:α->ah X) (g:X->ah Y),(f X k).bind g=f Y λy=>(k y).bind g
def cS.oc{α:Type}{f:(X:Type)->(α->ah X)->ah X}(n:cS f){X:Type}{k:α->ah X}{r:X}(h:f X k=some r):∃ y,k y=some r/\nc f y:=by
 have e:∀(Y:Type) (k:α->ah Y),f Y k=(f α some).bind k:=λY k=>(n α Y some k).symm
 rw[e]at h;cases C:f α some with
 |none=>rw[C]at h;cases h
 |some y=>rw[C]at h;exact⟨y,h,λX k=>by rw[e,C];rfl⟩
def cS.comp{α β:Type}{f:(X:Type)->(α->ah X)->ah X}{b:(X:Type)->(β->ah X)->α->ah X}(n:cS f)(m:∀y,cS λX k=>b X k y):cS λX k=>f X (b X k):=λX Y k g=>(n X Y _ g).trans (bf _ (funext λy=>m y X Y k g))
def dI{X Y:Type}{b:Bool}{x y:ah X}{C D:ah Y}{g:X->ah Y}(E:x.bind g=C)(L:y.bind g=D):(bif b then x else y).bind g=bif b then C else D:=by
 cases b
 ·exact L
 ·exact E
/-! Contents of leaves. -/
def jA{X:Type}(m:Nat->ah bu):aa Nat->(V->ah X)->ah X
 | [r],k=>match m r with
  |some (.sl y)=>k y
  |_=>none
 | j :: i :: s :: q,k=>jA m q λy=>match y with
  |.sl t (o+2) _ l=>if s=aE t then (if h:i<l.length then (match (enc t o l[i])[j]? with|some z=>k z|none=>none)else none)else none
  |_=>none
 |_,_=>none
def sU{m:Nat -> ah bu}:∀ (q:aa Nat) (k:V -> ah X),jA m q k=some r -> ∃ y,xJ m q y/\k y=some r
 |[],_,h=>by simp[jA]at h
 | [x],k,h=>by
  simp only[jA]at h;split at h
  next y D=>exact⟨y,.root x y D,h⟩
  ·cases h
 | j :: i :: s :: q,k,h=>by
  obtain⟨y,D,C⟩:=sU q _ h;clear h;split at C
  ·split at C
   ·rename_i E;subst E;split at C
    ·rename_i hi;split at C
     next z L=>exact⟨z,.elem j i q _ _ _ _ z D hi L,C⟩
     ·cases C
    ·cases C
   ·cases C
  ·cases C
def pW{X:Type}(σ:S)(x:Lf)(k:V->ah X):ah X:=
 match x with
 |.v y=>k y
 |.own q=>jA σ.m q k
 |.dead=>none
def RV.part{q:aa Nat}{C:TC}{g:Nat}{Y:Bool}{xs:aa (T C)}{A:ah Addr}{n c a h:Nat}(O:RV w B aj q (.sl C g Y xs) (.slice A n c))(L:g<2)(h1:a <= h)(D:h <= xs.length):RV w B aj q (.sl C g false ((xs.take h).drop a)) (sliced A a h c (aE C))/\n=xs.length/\xs.length <= c:=by
 have hlen:((xs.take h).drop a).length=h-a:=by simp;omega
 cases O with
 | eU=>
  have:a=0:=by simp at D;omega
  have:h=0:=by simpa using D
  subst_vars
  exact⟨.eU _ _ _,rfl,dW _⟩
 | gd=>
  have:h=0:=by simpa using D
  subst this;have:a=0:=by omega
  subst this;exact⟨by unfold sliced;split<;>exact .gd _ _ _ _ _ L,rfl,fz _⟩
 | gq=>
  have:h=0:=by simpa using D
  subst this;have:a=0:=by omega
  subst this;exact⟨by unfold sliced;split<;>exact .gd _ _ _ _ _ L,rfl,fz _⟩
 |own=>omega
 | aF _ _ _ _ _ b off cap u Z hl hb hB jL hc O=>
  refine⟨?_,rfl,jL⟩;by_cases he:a=h
  ·subst he;have e0:=List.eq_nil_of_length_eq_zero (by rw[hlen];omega);rw[e0];unfold sliced;rw[Nat.sub_self];split<;>exact .gd _ _ _ _ _ L
  ·unfold sliced;rw[bQ,<- hlen];have OZ:(some (⟨b,off,none⟩:Addr)).map (·.add (a*aE C))=some ⟨b,off+a*aE C,none⟩:=by
    simp;unfold Addr.add;simp_all
   rw[OZ];have U:∀ i (hi:i<((xs.take h).drop a).length),((xs.take h).drop a)[i]=xs[a+i]'(by omega):=by
    intro i hi;simp_all
   refine .aF _ _ _ _ _ b (off+a*aE C) (c-a) (λi j=>u (a+i) j) Z hl hb hB (by omega) (λi hi j x E=>?_) (λi hi j x E=>?_)
   ·rw[U]at E;have:=hc _ _ j x E
    grind
   ·rw[U i]at E
    grind
def acG(s i j:Nat):V->ah V
 |.sl t _ _ l=>bif Nat.beq s (aE t)then some (.sl t 0 false ((l.take j).drop i))else none
 |_=>none
def vU{X:Type}(σ:S)(q:aa Nat)(s i j:Nat)(k:V->ah X):ah X:=
 jA σ.m q λy=>match acG s i j y with
  |some z=>k z
  |none=>none
def sV{X:Type}(σ:S)(y:A)(k:V->ah X):ah X:=
 match y with
 |.lf l=>pW σ l k
 |.view q s i j=>vU σ q s i j k
 |_=>none
def acH{q:aa Nat}{s i j:Nat}{k:V -> ah X}(h:vU σ q s i j k=some r):∃ z,k z=some r/\z.aF=true /\ ∀ w0 N aj ρ a w,Rl w0 N aj ρ σ a w -> ∀ u,RA w w0.heap.size aj ρ (.view q s i j) u -> ∀ B',RV w B' (λ_=>none) [] z u:=by
 obtain⟨y,T,E⟩:=sU q _ h;clear h;split at E
 ·rename_i z C;unfold acG at C;split at C
  ·rename_i t g U l;cases L:Nat.beq s (aE t)with
   |false=>simp_all
   | true=>
    rw[L,au]at C;obtain rfl:=cK L;injection C with C;subst C
    refine⟨_,E,rfl,λw0 N aj ρ a w hR u Y B'=>?_⟩
    obtain⟨A,n,c,Z,h1,h3,rfl⟩:=Y;obtain⟨v,D,hr⟩:=T.ok hR.root;rw[Z]at D;injection D with D;subst D;have O:RV w B' (λ_=>none) [] (.sl t 0 U l) (.slice A n c):=hr.gN;have hn:n=l.length:=by cases O<;>rfl
    exact(O.part (by omega) h1 (by omega)).1
  ·cases C
 ·cases E
def vK{X:Type}(x:A)(k:V->ah X):ah X:=
 match x with
 |.lf (.v y)=>k y
 |_=>none
def VI{x:A}{k:V -> ah X}(h:vK x k=some r):∃ y,x = .lf (.v y)/\k y=some r:=by
 unfold vK at h
 grind
def RV.iI{q:aa Nat}{k:IntKind}{n:Int}{u:Value}(h:RV w B aj q (.int k n) u):u = .int k n:=by cases h;rfl
def RV.zZ{q:aa Nat}{n:Bool}{u:Value}(h:RV w B aj q (.bool n) u):u = .bool n:=by cases h;rfl
def RV.xO{q:aa Nat}{n:ByteArray}{u:Value}(h:RV w B aj q (.str n) u):u = .string n:=by cases h;rfl
/-! Arithmetic and comparison. -/
def bI(n:Nat):Bool:=decide (n<1073741824)
def ID{X:Type}(P:Program)(ty:TypeId)(op:BinOp)(x y:V)(k:V->ah X):ah X:=
 match x,y with
 | .int C a,.int D b=>match op with
  |.shl=>if b<0 then none else k (.int C (C.wrap (a*2 ^ (min b.toNat C.bits))))
  |.shr=>if b<0 then none else k (.int C (a.fdiv (2 ^ (min b.toNat C.bits))))
  | op=>if C=D then (match op with
   |.add=>k (.int C (C.wrap (a+b)))
   |.sub=>k (.int C (C.wrap (a-b)))
   |.mul=>k (.int C (C.wrap (a*b)))
   |.quo=>if b=0 then none else k (.int C (C.wrap (a.tdiv b)))
   |.rem=>if b=0 then none else k (.int C (a.tmod b))
   |.and=>k (.int C (bits .and C a b))
   |.or=>k (.int C (bits .or C a b))
   |.xor=>k (.int C (bits .xor C a b))
   |.andNot=>k (.int C (bits .andNot C a b))
   |.eql=>k (.bool (a==b))
   |.neq=>k (.bool (a != b))
   |.lss=>k (.bool (decide (a<b)))
   |.leq=>k (.bool (decide (a<=b)))
   |.gtr=>k (.bool (decide (a > b)))
   |.geq=>k (.bool (decide (a >= b)))
   |_=>none)else none
 | .bool a,.bool b=>match P.underlying ty with
  | some .bool=>(match op with
   |.eql=>k (.bool (a==b))
   |.neq=>k (.bool (!(a==b)))
   |_=>none)
  |_=>none
 | .str a,.str b=>match op with
  |.add=>bif bI (a.size+b.size)then k (.str (a++b))else none
  |.eql=>k (.bool (a.toList==b.toList))
  |.neq=>k (.bool (!(a.toList==b.toList)))
  |_=>none
 |_,_=>none
def ao7{ty:TypeId}{T:BinOp}{x y:V}{k:V -> ah X}(h:ID P ty T x y k=some r):∃ z,k z=some r/\z.plain=true /\ ∀ (w:World) (B:Nat) (aj:bM) (E L:Operand) (q O:aa Nat) (u v:Value),RV w B aj q x u -> RV w B aj O y v ->
  ∃t,(do eqGuard T ty E L u v;binOp T ty u v:Sem Value).run P w = .ok t w/\RV w B aj [] z t:=by
 unfold ID at h;split at h
 ·rename_i kx a ky b;split at h
  ·split at h
   ·cases h
   ·rename_i hb
    refine⟨_,h,rfl,λw B aj E L q O u v C D=>?_⟩
    obtain rfl:=C.iI;obtain rfl:=D.iI;exact⟨_,by simp[eqGuard,binOp,Op.shift,hb],.int _ _ _⟩
  ·split at h
   ·cases h
   ·rename_i hb
    refine⟨_,h,rfl,λw B aj E L q O u v C D=>?_⟩
    obtain rfl:=C.iI;obtain rfl:=D.iI;exact⟨_,by simp[eqGuard,binOp,Op.shift,hb],.int _ _ _⟩
  ·rename_i Z h2;split at h
   ·rename_i hk;subst hk;cases T
    case shl=>exact absurd rfl Z
    case shr=>exact absurd rfl h2
    case quo=>
     by_cases hb:b=0
     ·simp only[hb,if_true]at h;cases h
     ·simp[hb]at h
      refine⟨_,h,rfl,λw B aj E L q O u v C D=>?_⟩
      obtain rfl:=C.iI;obtain rfl:=D.iI;exact⟨_,by simp[eqGuard,binOp,Op.intDiv,hb],.int _ _ _⟩
    case rem=>
     by_cases hb:b=0
     ·simp only[hb,if_true]at h;cases h
     ·simp[hb]at h
      refine⟨_,h,rfl,λw B aj E L q O u v C D=>?_⟩
      obtain rfl:=C.iI;obtain rfl:=D.iI;exact⟨_,by simp[eqGuard,binOp,Op.intDiv,hb],.int _ _ _⟩
    all_goals first
     | (refine⟨_,h,rfl,λw B aj E L q O u v C D=>?_⟩
        obtain rfl:=C.iI;obtain rfl:=D.iI
        first
         |(refine⟨_,?_,.int _ _ _⟩;simp[eqGuard,binOp,Op.intArith];done)
         |(refine⟨_,?_,.int _ _ _⟩;simp[eqGuard,binOp,intBits_and,intBits_or,intBits_xor,intBits_andNot];done)
         |(refine⟨_,?_,.bool _ _⟩;simp[eqGuard,binOp,Op.intCmp];done))
     |cases h
   ·cases h
 ·rename_i a b;split at h
  ·rename_i Y;split at h
   ·refine⟨_,h,rfl,λw B aj E L q O u v C D=>?_⟩
    obtain rfl:=C.zZ;obtain rfl:=D.zZ;have e:binOp .eql ty (.bool a) (.bool b)=(do pure (.bool (<- Op.equal ty (.bool a) (.bool b)))):=rfl;have g:eqGuard .eql ty E L (.bool a) (.bool b)=pure ():=rfl;exact⟨_,by rw[e,g,gF,Sem.run_pure,mX,gF,run_equal_bool _ _ _ _ Y];rfl,.bool _ _⟩
   ·refine⟨_,h,rfl,λw B aj E L q O u v C D=>?_⟩
    obtain rfl:=C.zZ;obtain rfl:=D.zZ;have e:binOp .neq ty (.bool a) (.bool b)=(do pure (.bool (!(<- Op.equal ty (.bool a) (.bool b))))):=rfl;have g:eqGuard .neq ty E L (.bool a) (.bool b)=pure ():=rfl;exact⟨_,by rw[e,g,gF,Sem.run_pure,mX,gF,run_equal_bool _ _ _ _ Y];rfl,.bool _ _⟩
   ·cases h
  ·cases h
 ·rename_i a b;split at h
  ·cases U:bI (a.size+b.size)with
   |false=>rw[U]at h;cases h
   | true=>
    rw[U]at h
    refine⟨_,h,rfl,λw B aj E L q O u v C D=>?_⟩
    obtain rfl:=C.xO;obtain rfl:=D.xO;have hL':a.size+b.size<1073741824:=by simpa [bI]using U
    refine⟨_,?_,.str _ _⟩;have h9:IntKind.i64.max=9223372036854775807:=rfl;simp only[eqGuard,binOp,Op.stringOp,h9];simp;omega
  ·refine⟨_,h,rfl,λw B aj E L q O u v C D=>?_⟩
   obtain rfl:=C.xO;obtain rfl:=D.xO;exact⟨_,by simp[eqGuard,binOp,Op.stringOp],.bool _ _⟩
  ·refine⟨_,h,rfl,λw B aj E L q O u v C D=>?_⟩
   obtain rfl:=C.xO;obtain rfl:=D.xO;exact⟨_,by simp[eqGuard,binOp,Op.stringOp],.bool _ _⟩
  ·cases h
 ·cases h
def IE{X:Type}(D:UnOp)(x:V)(k:V->ah X):ah X:=
 match D,x with
 |.not,.bool b=>k (.bool (!b))
 |.neg,.int C n=>k (.int C (C.wrap (0-n)))
 |_,_=>none
def ao8{D:UnOp}{x:V}{k:V->ah X}(h:IE D x k=some r):∃ z,k z=some r/\z.plain=true/\∀ (w:World) (B:Nat) (aj:bM) (q:aa Nat) (u:Value),RV w B aj q x u->∃ t,(Op.unary D u).run P w = .ok t w/\RV w B aj [] z t:=by
 unfold IE at h;split at h
 ·refine⟨_,h,rfl,λw B aj q u C=>?_⟩
  obtain rfl:=C.zZ;exact⟨_,by simp[Op.unary],.bool _ _⟩
 ·refine⟨_,h,rfl,λw B aj q u C=>?_⟩
  obtain rfl:=C.iI;exact⟨_,by simp[Op.unary,Op.intArith],.int _ _ _⟩
 ·cases h
def V.IF{x:V}(h:x.plain=true):x.aF=true:=by cases x<;>first|rfl|cases h
end
def jN(P:Program)(t:TypeId):ah Nat:=(P.info? t).map (·.size)
def E8(P:Program)(t:TypeId):ah Bool:=
 match P.underlying t with
 |some (.struct _)|some (.array _ _)=>some true
 |some _=>some false
 |none=>none
def qD(P:Program)(t:TypeId):ah TypeId:=
 match P.underlying t with
 |some (.slice e)=>some e
 |_=>none
def IG(P:Program)(s:TypeId)(f:Nat):ah Field:=
 match P.underlying s with
 |some (.struct C)=>C[f]?
 |_=>none
def xP{X:Type}(P:Program)(t:TypeId)(cs:aa Lf)(k:A->ah X):ah X:=
 match jN P t with
 | some n=>if cs.length=n then (match E8 P t with
  |some true=>k (.agg cs)
  | some false=>(match cs with
   |[y]=>k (.lf y)
   |_=>none)
  |none=>none)else none
 |none=>none
def leaves(key:Nat->aa Nat):Nat->aa V->aa Lf
 |_,[]=>[]
 |j,z::C=>(bif z.aF then .v z else .own (key j))::leaves key (j+1) C
def oO{X:Type}(P:Program)(σ:S)(t:TypeId)(x:A)(k:A->ah X):ah X:=
 match jN P t with
 |none=>none
 | some n=>match x with
  | .aG r j=>(match σ.m r with
   |some (.aB cs)=>xP P t ((cs.drop j).take n) k
   |_=>none)
  |.jy cs=>xP P t ((cs.take n).map .v) k
  | .ptr (j :: i :: s :: q)=>jA σ.m q λy=>(match y with
   |.sl C (o+2) _ l=>if s=aE C then (if h:i<l.length then xP P t (leaves (λD=>D::i::s::q) j (((enc C o l[i]).drop j).take n)) k else none)else none
   |_=>none)
  |_=>none
section
variable {P:Program} {w:World} {w0:Wd} {B N:Nat} {aj:bM} {ρ:Nat->Loc} {σ:S} {a:Act} {X:Type} {r:X} {o:Oper}
def acI(key:Nat -> aa Nat):∀ (j:Nat) (C:aa V) (n:Nat),(leaves key j C)[n]?=(C[n]?).map λz=>bif z.aF then .v z else .own (key (j+n))
 |_,[],n=>by simp[leaves]
 |j,z::C,0=>by simp[leaves]
 | j,z :: C,n+1=>by
  simp[leaves,List.getElem?_cons_succ,acI]
  grind
def VJ{t:TypeId}{cs:aa Lf}{k:A -> ah X}(h:xP P t cs k=some r):∃ x,k x=some r /\ ∀ (w:World) (B:Nat) (aj:bM) (ρ:Nat -> Loc) (b o:Nat) (D:aa Value),fh w B aj ρ cs D.toArray -> w.rangeAt b o D ->
  ∃v,(Instr.loadAt t (.pointer (some ⟨b,o,none⟩))).run P w = .ok v w/\RA w B aj ρ x v:=by
 unfold xP at h;split at h
 ·rename_i n T;split at h
  ·rename_i hlen;split at h
   ·rename_i C
    refine⟨_,h,λw B aj ρ b o D hl L=>?_⟩
    have O:D.length=n:=by have:=hl.1;simpa [hlen]using this
    unfold E8 at C;split at C
    next Z E=>exact⟨_,run_loadAt_mid w b o t D _ L E rfl (by rw[O];exact T),_,rfl,hl⟩
    next c e E=>exact⟨_,run_loadAt_mid w b o t D _ L E rfl (by rw[O];exact T),_,rfl,hl⟩
    ·cases C
    ·cases C
   ·rename_i C;split at h
    ·rename_i y
     refine⟨_,h,λw B aj ρ b o D hl L=>?_⟩
     have O:D.length=1:=by have:=hl.1;simpa using this
     obtain⟨v,rfl⟩:=List.length_eq_one_iff.1 O;have U:w.cell? ⟨b,o,none⟩=some v:=L 0 v rfl;obtain⟨u,E,hR⟩:=hl.2 0 y rfl;have:v=u:=by simpa using E
     subst this;refine⟨v,?_,hR⟩;unfold E8 at C;split at C
     ·cases C
     ·cases C
     ·rename_i d hs ha E;have Y:(isAgg t).run P w = .ok false w:=by
       unfold isAgg;rw[gF,ir E];simp_all
      simp[Instr.loadAt,Instr.sureAddr,loadVar,gF,Y,load,Sem.run,U]
     ·cases C
    ·cases h
   ·cases h
  ·cases h
 ·cases h
def O9{α:Type}(l:aa α)(j n i:Nat)(x:α)(h:((l.drop j).take n)[i]?=some x):i<n/\l[j+i]?=some x:=by grind
def acJ{t:TypeId}{x:A}{k:A -> ah X}(h:oO P σ t x k=some r):∃ y,k y=some r /\ ∀ aj ρ a w,Rl w0 N aj ρ σ a w -> ∀ u,RA w w0.heap.size aj ρ x u ->
  ∃v,(Instr.loadAt t u).run P w = .ok v w/\RA w w0.heap.size aj ρ y v:=by
 unfold oO at h;split at h
 ·cases h
 ·rename_i n hn;split at h
  ·rename_i r' j;split at h
   ·rename_i cs gP;obtain⟨y,Y,Z⟩:=VJ h
    refine⟨y,Y,λaj ρ a w hR u hu=>?_⟩
    obtain⟨b,off,cG,rfl⟩:=hu;have O:=hR.root r' _ gP;generalize U:bu.aB cs=x at O;cases O with
    |sl=>cases U
    |mp=>cases U
    |gh=>cases U
    | aB b' II cells e fe us hJ hl hh hs hc=>
     injection U with U;subst U;rw[cG]at hJ;injection hJ with e1 e2;subst e1 e2
     refine Z w _ aj ρ b (off+j) (((cs.drop j).take n).mapIdx λi _=>us (j+i)) ⟨by simp,λi x C=>?_⟩ (λi v D=>?_)
     ·obtain⟨hi,mH⟩:=O9 _ _ _ _ _ C;simp_all
     ·rw[List.getElem?_mapIdx]at D;cases C:((cs.drop j).take n)[i]? with
      |none=>rw[C]at D;cases D
      | some x=>
       rw[C]at D;injection D with D;subst D;obtain⟨hi,mH⟩:=O9 _ _ _ _ _ C;rw[cell_of_row w b _ cells _ _ hh,Nat.add_assoc];simp_all
   ·cases h
  ·rename_i cs;obtain⟨y,Y,Z⟩:=VJ h
   refine⟨y,Y,λaj ρ a w hR u hu=>?_⟩
   obtain⟨b,off,rfl,hb,hl,hc⟩:=hu;have qE:∀ (i:Nat) (x:Lf),((cs.take n).map Lf.v)[i]?=some x -> ∃ z v,x = .v z/\z.aF=true/\w.cell? ⟨b,off+i,none⟩=some v/\RV w w0.heap.size aj [] z v:=by
    intro i x C;rw[ff]at C;cases L:(cs.take n)[i]? with
    |none=>rw[L]at C;cases C
    | some z=>
     rw[L]at C;injection C with C;rw[List.getElem?_take]at L;split at L
     ·obtain⟨vV,v,D,O⟩:=hc i z L
      grind
     ·cases L
   refine Z w _ aj ρ b off (((cs.take n).map Lf.v).mapIdx λi _=>(w.cell? ⟨b,off+i,none⟩).getD undef) ⟨by simp,λi x C=>?_⟩ (λi v D=>?_)
   ·obtain⟨z,v,rfl,vV,D,O⟩:=qE i x C;refine⟨v,?_,vV,O⟩;simp_all
   ·rw[List.getElem?_mapIdx]at D;cases C:((cs.take n).map Lf.v)[i]? with
    |none=>rw[C]at D;cases D
    |some x =>grind
  ·rename_i j i s q;obtain⟨y0,hg,T⟩:=sU _ _ h;clear h;split at T
   ·rename_i E o' qn l;split at T
    ·rename_i hs;subst hs;split at T
     ·rename_i hi;obtain⟨y,Y,Z⟩:=VJ T
      refine⟨y,Y,λaj ρ a w hR u hu=>?_⟩
      obtain⟨ad,rfl,pV⟩:=hu;obtain⟨D,kK,kL⟩:=hg.ok hR.root;cases kL with
      |eU=>simp at hi
      |gd=>simp at hi
      |gq=>simp at hi
      |aF _ _ _ _ _ _ _ _ _ ho=>omega
      | own _ _ _ _ _ b cap cs us qF hh hs hn sS hc O=>
       rw[Cn j i (aE E) kK qF]at pV;injection pV with pV;subst pV;have qE:∀ (m:Nat) (x:Lf),(leaves (λj'=>j' :: i :: aE E :: q) j (((enc E o' l[i]).drop j).take n))[m]?=some x -> cs[i*aE E+(j+m)]?=some (us i (j+m))/\eE w w0.heap.size aj ρ x (us i (j+m)):=by
        intro m x C;rw[acI]at C;cases L:(((enc E o' l[i]).drop j).take n)[m]? with
        |none=>rw[L]at C;cases C
        | some z=>
         rw[L]at C;injection C with C;have C:(bif z.aF then Lf.v z else Lf.own ((j+m)::i::aE E::q))=x:=C;obtain⟨_,E9⟩:=O9 _ _ _ _ _ L;have h3:=hc i hi _ z E9;have h4:=O i hi _ z E9;refine⟨h3,?_⟩;cases Fa:z.aF with
         | true=>
          rw[Fa]at C;subst C;exact⟨Fa,h4.key Fa⟩
         | false=>
          rw[Fa]at C;have C:Lf.own ((j+m)::i::aE E::q)=x:=C;subst C;refine⟨?_,?_⟩
          ·exact h4.Vz Fa
          ·rw[O3,Cn _ i _ kK qF];show w.cell? _=_;rw[cell_of_row w b _ cs _ _ hh];exact h3
       refine Z w _ aj ρ b (i*aE E+j) ((leaves (λj'=>j'::i::aE E::q) j (((enc E o' l[i]).drop j).take n)).mapIdx λm _=>us i (j+m)) ⟨by simp,λm x C=>?_⟩ (λm v D=>?_)
       ·simp[*]
       ·rw[List.getElem?_mapIdx]at D;cases C:(leaves (λj'=>j' :: i :: aE E :: q) j (((enc E o' l[i]).drop j).take n))[m]? with
        |none=>rw[C]at D;cases D
        | some x=>
         rw[C]at D;injection D with D;subst D;rw[cell_of_row w b _ cs _ _ hh,Nat.add_assoc];simp_all
     ·cases T
    ·cases T
   ·cases T
  ·cases h
end
def A.z0:A->ah (aa Lf)
 |.lf x=>some [x]
 |.agg xs=>some xs
 |_=>none
def Lf.live:Lf->Bool
 |.dead=>false
 |_=>true
def Lf.pl:Lf->ah V
 |.v x=>bif x.plain then some x else none
 |_=>none
def rO:aa Lf->ah (aa V)
 |[]=>some []
 | x :: xs=>match x.pl,rO xs with
  |some y,some ys=>some (y::ys)
  |_,_=>none
def xQ{X:Type}(m:Nat->ah bu):aa Nat->V->((Nat->ah bu)->ah X)->ah X
 | [r],y,k=>match m r with
  |some (.sl _)=>k (ck m r (some (.sl y)))
  |_=>none
 | j :: i :: s :: q,y,k=>jA m q λz=>match z with
  | .sl t (o+2) C l=>if s=aE t then (if h:i<l.length then (if j<aE t then (match dec t o (splice (enc t o l[i]) j [y])with
   |some e=>xQ m q (.sl t (o+2) C (l.set i e)) k
   |none=>none)else none)else none)else none
  |_=>none
 |_,_,_=>none
def qG{X:Type}(P:Program)(σ:S)(t:TypeId)(x y:A)(k:S->ah X):ah X:=
 match jN P t,y.z0 with
 | some n,some xs=>if xs.length=n then (match x with
  | .aG r j=>(match σ.m r with
   |some (.aB cs)=>if j+n<=cs.length then (bif xs.all Lf.live then k ⟨σ.t,ck σ.m r (some (.aB (splice cs j xs)))⟩else none)else none
   |_=>none)
  | .ptr (j :: i :: s :: q)=>(match rO xs with
   |none=>none
   | some D=>jA σ.m q λy=>(match y with
    | .sl C (o+2) E l=>if s=aE C then (if h:i<l.length then (if j+D.length<=aE C then (bif (((enc C o l[i]).drop j).take D.length).all V.plain then (match dec C o (splice (enc C o l[i]) j D)with
     |some e=>xQ σ.m q (.sl C (o+2) E (l.set i e)) λm=>k ⟨σ.t,m⟩
     |none=>none)else none)else none)else none)else none
    |_=>none))
  |_=>none)else none
 |_,_=>none
section
variable {P:Program} {w:World} {w0:Wd} {B N:Nat} {aj:bM} {ρ:Nat->Loc} {σ:S} {a:Act} {X:Type} {r:X} {o:Oper}
def acK{m:Nat -> ah bu}:∀ (q:aa Nat) (y:V) (k:(Nat -> ah bu) -> ah X),xQ m q y k=some r -> ∃ m',zY m q y m'/\k m'=some r
 |[],_,_,h=>by simp[xQ]at h
 | [x],y,k,h=>by
  simp only[xQ]at h;split at h
  next D E=>exact⟨_,.root x D y E,h⟩
  ·cases h
 | j :: i :: s :: q,y,k,h=>by
  simp only[xQ]at h;obtain⟨z,L,C⟩:=sU q _ h;clear h;split at C
  ·split at C
   ·rename_i O;subst O;split at C
    ·rename_i hi;split at C
     ·rename_i T;split at C
      next e U=>obtain⟨m',Y,Z⟩:=acK q _ k C;exact⟨m',.elem j i q _ _ _ _ y e m' L hi T U Y,Z⟩
      ·cases C
     ·cases C
    ·cases C
   ·cases C
  ·cases C
def Pa:∀ (xs:aa Lf) (C:aa V),rO xs=some C -> xs=C.map .v /\ ∀ v∈C,v.plain=true
 | [],C,h=>by
  simp[rO]at h;subst h;exact⟨rfl,by simp⟩
 | x :: xs,C,h=>by
  unfold rO at h;split at h
  ·rename_i y ys D E;injection h with h;subst h;obtain⟨L,O⟩:=Pa xs ys E;have:x = .v y/\y.plain=true:=by
    cases x with
    | v z=>
     unfold Lf.pl at D
     grind
    |own q=>cases D
    |dead=>cases D
   simp_all
  ·cases h
def ao9{u:Value}(h:u.oneCell'=true):u.cells = #[u]:=by cases u<;>first|rfl|cases h
def eE.one{x:Lf}{u:Value}(h:eE w B aj ρ x u)(C:x.live=true):u.oneCell'=true:=by
 cases x with
 |v z=>exact h.2.one
 | own k=>
  have:=h.1;cases u<;>first|rfl|cases this
 |dead=>cases C
def IJ{y:A}{xs:aa Lf}(h:y.z0=some xs)(D:xs.all Lf.live=true){u:Value}(C:RA w B aj ρ y u):fh w B aj ρ xs u.cells/\u.cells.all (·.oneCell')=true:=by
 have key:∀ us:Array Value,fh w B aj ρ xs us -> us.all (·.oneCell')=true:=by
  intro us E;rw[Array.all_eq_true];intro i hi;have O:=bY (by rw[<- E.1];exact hi);obtain⟨v,L,T⟩:=E.2 i _ O;have:us[i]=v:=by rw[Array.getElem?_eq_getElem hi]at L;injection L
  rw[this];exact T.one (cw.1 D _ (cM _))
 cases y with
 | lf x=>
  injection h with h;subst h;have C:eE w B aj ρ x u:=C;have U:=C.one (by simpa using D);have:fh w B aj ρ [x] u.cells:=by
   rw[ao9 U]
   refine⟨rfl,λj y Y=>?_⟩
   grind
  simp_all
 | agg Z=>
  injection h with h;subst h;obtain⟨us,rfl,h⟩:=C;exact⟨h,key _ h⟩
 |_=>cases h
def VK(w:World)(b o:Nat)(ty:TypeId)(v:Value)(D:w.there b o v.cells.size)(hi:(P.info? ty).map (·.size)=some v.cells.size)(L:v.cells.all (·.oneCell')=true):
  (Instr.storeAt ty (.pointer (some ⟨b,o,none⟩)) v).run P w = .ok () (w.setCells b o v.cells.toList):=by
 have:=run_storeCells_cells (P:=P) b o v.cells.toList 0 w (λj C=>by simpa using (D j (by simpa using C)).1) (λj C=>by simpa using (D j (by simpa using C)).2)
  (λv O=>(Array.all_eq_true_iff_forall_mem.1 L) v (by simpa using O))
 cases E:P.info? ty with
 |none=>simp_all
 | some i=>
  have T:v.cells.size=i.size:=by simp[E]at hi;omega
  simp[Instr.storeAt,Instr.sureAddr,storeVar,sizeOf,typeInfo,E,T,this]
def acL{t:TypeId}{x y:A}{k:S -> ah X}(h:qG P σ t x y k=some r):∃ dz,k dz=some r /\ ∀ aj ρ a w,Rl w0 N aj ρ σ a w -> ∀ u v,RA w w0.heap.size aj ρ x u -> RA w w0.heap.size aj ρ y v ->
  ∃w',(Instr.storeAt t u v).run P w = .ok () w'/\Rl w0 N aj ρ dz a w':=by
 unfold qG at h;split at h
 ·rename_i n xs hn pX;split at h
  ·rename_i hlen;split at h
   ·rename_i r' j;split at h
    ·rename_i cs gP;split at h
     ·rename_i U;cases L:xs.all Lf.live with
      |false=>grind
      | true=>
       rw[L]at h
       refine⟨_,h,λaj ρ a w hR u v Y Z=>?_⟩
       obtain⟨b,off,cG,rfl⟩:=Y;obtain⟨hl,mI⟩:=IJ pX L Z;obtain⟨b',II,hJ,IK,dR⟩:=hR.IA gP hl (by rw[hlen];exact U);rw[cG]at hJ;injection hJ with e1 e2;subst e1 e2;exact⟨_,VK w b (off+j) t v IK (by rw[hl.1,hlen];exact hn) mI,dR⟩
     ·cases h
    ·cases h
   ·rename_i j i s q;split at h
    ·cases h
    ·rename_i E kM;obtain⟨y0,hg,C⟩:=sU _ _ h;clear h;split at C
     ·rename_i t' o' qn l;split at C
      ·rename_i hs;subst hs;split at C
       ·rename_i hi;split at C
        ·rename_i U;cases hold:(((enc t' o' l[i]).drop j).take E.length).all V.plain with
         |false=>grind
         | true=>
          rw[hold,au]at C;split at C
          ·rename_i e he;obtain⟨m',vW,h3⟩:=acK q _ _ C
           refine⟨_,h3,λaj ρ a w hR u v Y Z=>?_⟩
           obtain⟨ad,rfl,pV⟩:=Y;obtain⟨O,VL⟩:=Pa xs E kM;have L:xs.all Lf.live=true:=by rw[O];simp[Lf.live]
           obtain⟨hl,mI⟩:=IJ pX L Z;have Ct:E.length=n:=by rw[<- hlen,O,eK]
           have q1:∀ (D:Nat) x,D<E.length -> (enc t' o' l[i])[j+D]?=some x -> x.plain=true:=by
            intro D x rN hx;refine cw.1 hold x (iq (i:=D) ?_);simp_all
           have q2:∀ (D:Nat) x,E[D]?=some x -> ∃ T,v.cells[D]?=some T/\RV w w0.heap.size aj [] x T:=by
            intro D x hx;obtain⟨T,vX,fU⟩:=hl.2 D (.v x) (by rw[O,ff,hx];rfl);exact⟨T,vX,fU.2⟩
           obtain⟨b,hb,IK,dR⟩:=hR.ao4 (xs:=E) (us:=v.cells) hg hi U he q1 VL (by rw[hl.1,O,eK]) q2 vW;rw[pV]at hb;injection hb with hb;subst hb;exact⟨_,VK w b _ t v IK (by rw[hl.1,hlen];exact hn) mI,dR⟩
          ·cases C
        ·cases C
       ·cases C
      ·cases C
     ·cases C
   ·cases h
  ·cases h
 ·cases h
end
def Fb{X:Type}(P:Program)(s:TypeId)(x:A)(f:Nat)(k:A->ah X):ah X:=
 match IG P s f with
 |none=>none
 | some C=>match jN P C.type with
  | some (_+1)=>(match x with
   |.aG r j=>k (.aG r (j+C.offset))
   |.jy cs=>k (.jy (cs.drop C.offset))
   |.ptr (j::i::s::q)=>k (.ptr ((j+C.offset)::i::s::q))
   |_=>none)
  |_=>none
def Aa{X:Type}(P:Program)(σ:S)(t:TypeId)(x i:A)(k:A->ah X):ah X:=
 match qD P t with
 |none=>none
 | some e=>match jN P e,i with
  | some n,.lf (.v (.int _ iv))=>(match x with
   |.lf (.v (.sl C g _ l))=>if n=aE C then (bif Nat.blt g 2 then (if h:0<=iv/\iv.toNat<l.length then k (.jy (enc C g (l[iv.toNat]'h.2)))else none)else none)else none
   | .lf (.own q)=>jA σ.m q λy=>(match y with
    |.sl C g _ l=>if n=aE C then (if h:0<=iv/\iv.toNat<l.length then (bif Nat.blt g 2 then k (.jy (enc C g (l[iv.toNat]'h.2)))else k (.ptr (0::iv.toNat::aE C::q)))else none)else none
    |_=>none)
   |_=>none)
  |_,_=>none
def Cu{X:Type}(P:Program)(σ:S)(t:TypeId)(x:A)(k:A->ah X):ah X:=
 match x with
 | .lf y=>pW σ y λz=>(match z with
  |.sl _ _ _ l=>(match P.underlying t with|some (.slice _)=>k (.lf (.v (.int .i64 (l.length:Int))))|_=>none)
  |.nil=>(match P.underlying t with|some (.slice _)=>k (.lf (.v (.int .i64 0)))|_=>none)
  |.str s=>(match P.underlying t with|some .string=>k (.lf (.v (.int .i64 (s.size:Int))))|_=>none)
  |_=>none)
 |.view _ _ i j=>(match P.underlying t with|some (.slice _)=>k (.lf (.v (.int .i64 ((j-i:Nat):Int))))|_=>none)
 |_=>none
def Ab:Bool×aa Lf->ah A
 |(true,cs)=>some (.agg cs)
 |(false,[y])=>some (.lf y)
 |_=>none
def Cv{X:Type}(x:A)(i:Nat)(k:A->ah X):ah X:=
 match x with
 | .fB xs=>match (xs[i]?).bind Ab with
  |some y=>k y
  |none=>none
 |_=>none
section
variable {P:Program} {w:World} {w0:Wd} {B N:Nat} {aj:bM} {ρ:Nat->Loc} {σ:S} {a:Act} {X:Type} {r:X} {o:Oper} {w':World} {aD:bM} {ρ':Nat->Loc} {d:Nat}
def apa(n:Nat){j i s:Nat}{q:aa Nat}{ad:Addr}(h:addrAt w aj ρ (j :: i :: s :: q)=some ad):addrAt w aj ρ ((j+n) :: i :: s :: q)=some ⟨ad.block,ad.off+n,none⟩:=by
 match q,h with
 | [r],h=>
  simp[addrAt]at h ⊢;split at h
  ·grind
  ·cases h
 | x :: y :: q,h=>
  simp[addrAt]at h ⊢;split at h
  ·grind
  ·cases h
def VM(w:World)(s:TypeId)(f:Nat)(C:Field)(n b off:Nat)(D:IG P s f=some C)(E:jN P C.type=some (n+1)):
  (Instr.fieldAt s (.pointer (some ⟨b,off,none⟩)) f).run P w = .ok (.pointer (some ⟨b,off+C.offset,none⟩)) w:=by
 unfold IG at D;split at D
 ·rename_i T O;unfold jN at E;cases L:P.info? C.type with
  |none=>simp_all
  | some i=>
   have hi:i.size=n+1:=by simpa [L]using E
   simp[Instr.fieldAt,ir O,D,Instr.sureAddr,fieldPlace,sizeOf,typeInfo,L,hi,Addr.add_mid]
 ·cases D
def apb{s:TypeId}{x:A}{f:Nat}{k:A -> ah X}(h:Fb P s x f k=some r):∃ y,k y=some r /\ ∀ (w:World) (B:Nat) (aj:bM) (ρ:Nat -> Loc) (u:Value),RA w B aj ρ x u ->
  ∃v,(Instr.fieldAt s u f).run P w = .ok v w/\RA w B aj ρ y v:=by
 unfold Fb at h;split at h
 ·cases h
 ·rename_i D E;split at h
  ·rename_i n L;split at h
   ·rename_i Z j
    refine⟨_,h,λw B aj ρ u C=>?_⟩
    obtain⟨b,off,U,rfl⟩:=C;exact⟨_,VM w s f D n b _ E L,b,off,U,by rw[Nat.add_assoc]⟩
   ·rename_i cs
    refine⟨_,h,λw B aj ρ u C=>?_⟩
    obtain⟨b,off,rfl,hb,hl,hc⟩:=C
    refine⟨_,VM w s f D n b _ E L,b,_,rfl,hb,hl,λj x hx=>?_⟩
    grind
   ·rename_i j i s' q
    refine⟨_,h,λw B aj ρ u C=>?_⟩
    obtain⟨ad,rfl,O⟩:=C;have Y:=apa D.offset O;obtain⟨_,_,_,_,_,_,_,T,_⟩:=Co _ _ O;obtain⟨b,off,sp⟩:=ad;simp only at T;subst T;exact⟨_,VM w s f D n b off E L,_,rfl,Y⟩
   ·cases h
  ·cases h
def VN(w:World)(t e:TypeId)(n b off len cap:Nat)(L:IntKind)(iv:Int)(C:qD P t=some e)(D:jN P e=some n)(O:0 <= iv)(Z:iv.toNat<len):
  (Instr.indexAt t (.slice (some ⟨b,off,none⟩) len cap) (.int L iv)).run P w = .ok (.pointer (some ⟨b,off+iv.toNat*n,none⟩)) w:=by
 unfold qD at C;split at C
 ·rename_i T U;injection C with C;subst C;unfold jN at D;cases E:P.info? T with
  |none=>simp_all
  | some i=>
   have hi:i.size=n:=by simpa [E]using D
   have Y:iv<len:=by omega
   simp[Instr.indexAt,ir U,asIntOf,O,Y,sizeOf,typeInfo,E,hi,Addr.add_mid]
 ·cases C
def apc{t:TypeId}{x i:A}{k:A -> ah X}(h:Aa P σ t x i k=some r):∃ y,k y=some r /\ ∀ aj ρ a w,Rl w0 N aj ρ σ a w -> ∀ u v,RA w w0.heap.size aj ρ x u -> RA w w0.heap.size aj ρ i v ->
  ∃p,(Instr.indexAt t u v).run P w = .ok p w/\RA w w0.heap.size aj ρ y p:=by
 unfold Aa at h;split at h
 ·cases h
 ·rename_i e Z;split at h
  ·rename_i n kk iv hn;split at h
   ·rename_i t' g qn l;split at h
    ·rename_i Cw;subst Cw;cases D:Nat.blt g 2 with
     |false=>grind
     | true=>
      rw[D,au]at h;split at h
      ·rename_i hb
       refine⟨_,h,λaj ρ a w hR u v E L=>?_⟩
       obtain rfl:=L.2.iI;have qH:g<2:=by have:=cX D;omega
       cases E.2 with
       |eU=>simp at hb
       |gd=>simp at hb
       |gq=>simp at hb
       |own=>grind
       | aF _ _ _ _ _ b off cap us ho hl Pb h1 jL hc Y=>
        refine⟨_,VN w t e _ b off _ cap kk iv Z hn hb.1 hb.2,b,_,rfl,Pb,hl,λj x O=>⟨sR t' g _ qH j x O,us _ j,?_,Y _ hb.2 j x O⟩⟩
        grind
      ·cases h
    ·cases h
   ·rename_i q;obtain⟨y0,D,C⟩:=sU _ _ h;clear h;split at C
    ·rename_i t' T qn l;split at C
     ·rename_i Cw;subst Cw;split at C
      ·rename_i hb;cases U:Nat.blt T 2 with
       | true=>
        rw[U,au]at C;have ho2:T<2:=cX U
        refine⟨_,C,λaj ρ a w hR u v E L=>?_⟩
        obtain rfl:=L.2.iI;obtain⟨uc,kK,kL⟩:=D.ok hR.root;have:uc=u:=by
         have h3:=E.2;simp_all
        subst this;cases kL with
        |eU=>simp at hb
        |gd=>simp at hb
        |gq=>simp at hb
        |own=>grind
        | aF _ _ _ _ _ b off cap us ho hl Pb h1 jL hc Y=>
         refine⟨_,VN w t e _ b off _ cap kk iv Z hn hb.1 hb.2,b,_,rfl,Pb,hl,λj x O=>⟨sR t' T _ ho2 j x O,us _ j,?_,Y _ hb.2 j x O⟩⟩
         grind
       | false=>
        rw[U,aq]at C;have ho2:¬ T<2:=λdQ=>by have h9:Nat.blt T 2=true:=jv dQ;rw[h9]at U;cases U
        refine⟨_,C,λaj ρ a w hR u v E L=>?_⟩
        obtain rfl:=L.2.iI;obtain⟨uc,kK,kL⟩:=D.ok hR.root;have:uc=u:=by
         have h3:=E.2;simp_all
        subst this;cases kL with
        |eU=>simp at hb
        |gd=>simp at hb
        |gq=>simp at hb
        |aF _ _ _ _ _ _ _ _ _ ho=>omega
        | own _ _ _ _ _ b cap cs us qF hh hs rN sS hc Y=>
         refine⟨_,VN w t e _ b 0 _ cap kk iv Z hn hb.1 hb.2,_,rfl,?_⟩;rw[Cn 0 _ _ kK qF];simp
      ·cases C
     ·cases C
    ·cases C
   ·cases h
  ·cases h
def apd{t ty:TypeId}{x:A}{k:A->ah X}(h:Cu P σ t x k=some r):∃ y,k y=some r/\∀ aj ρ a w,Rl w0 N aj ρ σ a w->∀ u,RA w w0.heap.size aj ρ x u->
  ∃v,(Builtin.len_ #[t] ty #[u]).run P w = .ok v w/\RA w w0.heap.size aj ρ y v:=by
 unfold Cu at h;split at h
 ·rename_i y;have key:∃ z,(∀ aj ρ a w,Rl w0 N aj ρ σ a w->∀ u,eE w w0.heap.size aj ρ y u->∃ q,RV w w0.heap.size aj q z u)/\(match z with
    |.sl _ _ _ l=>(match P.underlying t with|some (.slice _)=>k (.lf (.v (.int .i64 (l.length:Int))))|_=>none)
    |.nil=>(match P.underlying t with|some (.slice _)=>k (.lf (.v (.int .i64 0)))|_=>none)
    |.str s=>(match P.underlying t with|some .string=>k (.lf (.v (.int .i64 (s.size:Int))))|_=>none)
    |_=>none)=some r:=by
   cases y with
   |v z=>exact⟨z,λaj ρ a w _ u D=>⟨[],D.2⟩,h⟩
   |dead=>cases h
   | own q=>
    obtain⟨z,O,h⟩:=sU q _ h
    refine⟨z,λaj ρ a w hR u D=>?_,h⟩
    obtain⟨v,U,L⟩:=O.ok hR.root;have T:=D.2;rw[U]at T;injection T with T;subst T;exact⟨q,L⟩
  obtain⟨z,O,C⟩:=key;clear h;split at C
  ·rename_i Y g Z l;split at C
   ·rename_i e E
    refine⟨_,C,λaj ρ a w hR u D=>?_⟩
    obtain⟨q,L⟩:=O aj ρ a w hR u D;cases L with
    |eU=>exact⟨_,by simp[Builtin.len_,ir E,goInt],rfl,.int _ _ _⟩
    |gd=>exact⟨_,by simp[Builtin.len_,ir E,goInt],rfl,.int _ _ _⟩
    |gq=>exact⟨_,by simp[Builtin.len_,ir E,goInt],rfl,.int _ _ _⟩
    |aF=>exact⟨_,by simp[Builtin.len_,ir E,goInt],rfl,.int _ _ _⟩
    |own=>exact⟨_,by simp[Builtin.len_,ir E,goInt],rfl,.int _ _ _⟩
   ·cases C
  ·split at C
   ·rename_i e E
    refine⟨_,C,λaj ρ a w hR u D=>?_⟩
    obtain⟨q,L⟩:=O aj ρ a w hR u D;cases L;exact⟨_,by simp[Builtin.len_,ir E,goInt],rfl,.int _ _ _⟩
   ·cases C
  ·split at C
   ·rename_i E
    refine⟨_,C,λaj ρ a w hR u D=>?_⟩
    obtain⟨q,L⟩:=O aj ρ a w hR u D;obtain rfl:=L.xO;exact⟨_,by simp[Builtin.len_,ir E,goInt],rfl,.int _ _ _⟩
   ·cases C
  ·cases C
 ·split at h
  ·rename_i e E
   refine⟨_,h,λaj ρ a w hR u D=>?_⟩
   obtain⟨A,n,c,U,h1,C,rfl⟩:=D;exact⟨_,by cases A<;>simp[sliced,Builtin.len_,ir E,goInt],rfl,.int _ _ _⟩
  ·cases h
 ·cases h
def VO{p:Bool×aa Lf}{y:A}(h:Ab p=some y){u:Value}(C:RP w B aj ρ p u):RA w B aj ρ y u:=by
 unfold Ab at h;split at h
 ·injection h with h;subst h;exact C
 ·rename_i z;injection h with h;subst h;obtain⟨D,E,L⟩:=C.2 0 z rfl;have:u=D:=by simpa using E
  subst this;exact L
 ·cases h
def ape{x:A}{i:Nat}{k:A -> ah X}(h:Cv x i k=some r):∃ y,k y=some r /\ ∀ (w:World) (B:Nat) (aj:bM) (ρ:Nat -> Loc) (u:Value),RA w B aj ρ x u ->
  ∃v,(Instr.extract u i).run P w = .ok v w/\RA w B aj ρ y v:=by
 unfold Cv at h;split at h
 ·rename_i xs;split at h
  ·rename_i y C
   refine⟨y,h,λw B aj ρ u E=>?_⟩
   obtain⟨us,rfl,U,L⟩:=E;cases D:xs[i]? with
   |none=>simp_all
   | some p=>
    rw[D]at C;obtain⟨v,O,T⟩:=L i p D;exact⟨v,by simp[Instr.extract,O],VO C T⟩
  ·cases h
 ·cases h
def acM{k:aa Nat}(h:dc d k=true):[d] <:+ k:=by
 have h:k.getLast?=some d:=by simpa [dc]using h
 obtain⟨y,C⟩:=List.getLast?_eq_some_iff.1 h;simp_all
def Pc{j i s:Nat}{q:aa Nat}(C:q≠[]):dc d (j :: i :: s :: q)=dc d q:=by
 cases q with
 |nil=>simp_all
 |cons x q=>simp[dc]
structure Fc (w w':World) (aj aD:bM) (d:Nat):Prop where
 size:w.heap.size<=w'.heap.size
 block:∀b,b<w.heap.size->aj b≠some [d]->w'.heap[b]?=w.heap[b]?
 VP:∀b,b<w.heap.size->aD b=aj b
 ne:∀b,aj b≠some []
def Fc.tr(C:Fc w w' aj aD d)(D:∀ b k,aj b=some k->b<w.heap.size)(E:∀ r,r≠d->ρ' r=ρ r):Tr w w' aj aD ρ ρ' (dc d) (λr=>Nat.beq r d):=by
 refine⟨C.size,λb hb hl=>⟨C.block b hb (by rw[hl];simp),(C.VP b hb).trans hl⟩,λb k hl L=>⟨C.block b (D b k hl) ?_,(C.VP b (D b k hl)).trans hl⟩,λr O=>E r (by rintro rfl;simp at O),λj i s x q=>Pc (by simp),λb hb=>absurd hb (C.ne b)⟩
 rw[hl];intro e;injection e with e;subst e;simp[dc]at L
def RA.VQ{x:A}{u:Value}(h:RA w B aj ρ x u)(C:Fc w w' aj aD d)(D:∀b k,aj b=some k->b<w.heap.size)(E:∀r,r≠d->ρ' r=ρ r):RA w' B aD ρ' (x.drop d) u:=h.tr (C.tr D E) (vQ (λ_ h=>h) λ_=>pS)
def eH.VQ{r:Nat}(C:r≠d){x:bu}(h:eH w B aj ρ r x)(D:Fc w w' aj aD d)(E:∀b k,aj b=some k->b<w.heap.size)(L:∀r,r≠d->ρ' r=ρ r):eH w' B aD ρ' r (x.drop d):=h.tr (D.tr E L) (vQ (λ_ h=>h) λ_=>pS) (by simpa [dc]using C) (pS C)
def Rl.Ac{x:bu}(h:Rl w0 N aj ρ σ a w)(U:w0.F d=none)(hb:jz w0 w w')(E:Fc w w' aj aD d)(Y:∀ b k,w.heap.size <= b -> aD b=some k -> b<w'.heap.size/\k≠[])(L:∀ r,r≠d -> ρ' r=ρ r)(hx:eH w' w0.heap.size aD ρ' d x):
  Rl w0 N aD ρ' ((σ.drop d).root d x) a w':=by
 have T:=λb k hb=>(h.dD b k hb).2.1
 refine⟨h.below.trans hb,λb k O=>?_,λr y C=>?_,λk=>(h.tmp k).VQ E T L,h.size,h.defers,λr Z D=>(L r (by rintro rfl;rw[U]at D;cases D)).trans (h.fix r Z D),h.dN⟩
 ·rcases Nat.lt_or_ge b w.heap.size with dQ | pT
  ·rw[E.VP b dQ]at O;have:=h.dD b k O;exact⟨this.1,Nat.lt_of_lt_of_le this.2.1 E.size,this.2.2⟩
  ·have:=Y b k pT O;exact⟨.inl (Nat.le_trans h.below.size pT),this.1,this.2⟩
 ·by_cases D:r=d
  ·subst D;have C:(ck (σ.drop r).m r _) r=some y:=C;rw[cu]at C;simp_all
  ·have C:(ck (σ.drop d).m d (some x)) r=some y:=C;rw[cU _ _ _ D]at C;have hb:Nat.beq r d=false:=by
    cases hb:Nat.beq r d with
    |false=>rfl
    |true=>simp_all
   simp only[S.drop,hb,aq]at C;cases hm:σ.m r with
   |none=>simp_all
   | some z=>
    rw[hm]at C;injection C with C;subst C;exact(h.root r z hm).VQ D E T L
end
def iy(q:Nat)(nk k:aa Nat):aa Nat:=bif dc q k then k.dropLast++nk else k
def bM.iy(aj:bM)(q:Nat)(nk:aa Nat):bM:=λb=>(aj b).map (Proofs.YtnilicojgkhpnaaGreat.iy q nk)
section
variable {P:Program} {w w':World} {w0:Wd} {B N:Nat} {aj aD:bM} {ρ ρ':Nat->Loc} {σ:S} {a:Act} {X:Type} {d q:Nat} {nk:aa Nat}
def acN:iy q nk [q]=nk:=by simp[iy,dc]
def apf{k:aa Nat}(h:dc q k=false):iy q nk k=k:=by simp[iy,h]
def apg{j i s:Nat}{k:aa Nat}(C:k≠[]):iy q nk (j :: i :: s :: k)=j :: i :: s :: iy q nk k:=by
 unfold iy;rw[Pc C];cases dc q k with
 |false=>rfl
 | true=>
  cases k with
  |nil=>simp_all
  |cons x k=>simp
def acO{k:aa Nat}(C:nk≠[])(D:k≠[]):iy q nk k≠[]:=by
 unfold iy;cases dc q k with
 |false=>simp_all
 |true=>simp[C]
def bM.VR{b:Nat}(h:aj b=none):aj.iy q nk b=none:=by simp[bM.iy,h]
def bM.acP{b:Nat}{k:aa Nat}(h:aj b=some k):aj.iy q nk b=some (Proofs.YtnilicojgkhpnaaGreat.iy q nk k):=by simp[bM.iy,h]
def bM.acQ{b:Nat}{k:aa Nat}(h:aj b=some k)(C:dc q k=false):aj.iy q nk b=some k:=by rw[bM.acP h,apf C]
def RV.iy{k:aa Nat}{x:V}{v:Value}(h:RV w B aj k x v)(D:∀ b,aj b≠some []):RV w B (aj.iy q nk) (Proofs.YtnilicojgkhpnaaGreat.iy q nk k) x v:=
 h.map (Q:=λk C=>C=Proofs.YtnilicojgkhpnaaGreat.iy q nk k) (dW _) (λb _ h=>⟨rfl,bM.VR h⟩) (λb k C _ hl e=>by
  subst e;exact⟨rfl,bM.acP hl,λj i s=>(apg λe=>D b (e ▸ hl)).symm⟩) (.inr rfl)
structure Rel (q:Nat) (aj aD:bM):Prop where
 ne:∀b,aj b≠some []
 none:∀b,aj b=none->aD b=Option.none
 mE:∀b k,aj b=some k->dc q k=false->aD b=some k
def IL(C:∀b,aj b≠some []):Rel q aj (aj.iy q nk):=⟨C,λ_ h=>bM.VR h,λ_ _ h D=>bM.acQ h D⟩
def Rel.tr(C:Rel q aj aD):Tr w w aj aD ρ ρ (dc q) (λ_=>false):=
 ⟨dW _,λb _ hl=>⟨rfl,C.none b hl⟩,λb k hl D=>⟨rfl,C.mE b k hl D⟩,λ_ _=>rfl,λj i s x q=>Pc (by simp),λb hb=>absurd hb (C.ne b)⟩
def RV.rel(C:Rel q aj aD){k:aa Nat}{x:V}{v:Value}(h:RV w B aj k x v)(D:dc q k=false\/x.aF=true):RV w B aD k x v:=h.tr (ρ:=λ_=>.eG undef) C.tr D.symm
def aph(C:Rel q aj aD)(k:aa Nat)(u:Value)(D:dc q k=false)(h:dm w aj ρ k=some u):dm w aD ρ k=some u:=VD C.tr k u (.inr D) (VE k) h
def fh.rel(C:Rel q aj aD){cs:aa Lf}{us:Array Value}(h:fh w B aj ρ cs us):fh w B aD ρ (cs.map (Lf.drop q)) us:=h.tr C.tr (vQ (λ_ h=>h) λ_ _=>rfl)
def RA.rel(C:Rel q aj aD){x:A}{u:Value}(h:RA w B aj ρ x u):RA w B aD ρ (x.drop q) u:=h.tr C.tr (vQ (λ_ h=>h) λ_ _=>rfl)
def eH.rel(C:Rel q aj aD){r:Nat}(D:r≠q){x:bu}(h:eH w B aj ρ r x):eH w B aD ρ r (x.drop q):=h.tr C.tr (vQ (λ_ h=>h) λ_ _=>rfl) (by simpa [dc]using D) rfl
def Rl.xR(h:Rl w0 N aj ρ σ a w):∀b,aj b≠some []:=λb hb=>(h.dD b [] hb).2.2 rfl
def Rl.rel(h:Rl w0 N aj ρ σ a w)(E:Rel q aj aD)(O:∀ b k,aD b=some k -> (∃ D,aj b=some D)/\k≠[]):Rl w0 N aD ρ (σ.drop q) a w:=by
 refine⟨h.below,λb k T=>?_,λr x C=>?_,λk=>(h.tmp k).rel E,h.size,h.defers,h.fix,h.dN⟩
 ·obtain⟨⟨D,hl⟩,Y⟩:=O b k T;have:=h.dD b D hl;simp_all
 ·have C:(bif Nat.beq r q then none else (σ.m r).map _)=some x:=C;cases hb:Nat.beq r q with
  |true=>simp_all
  | false=>
   rw[hb]at C;have U:r≠q:=by rintro rfl;simp at hb
   cases L:σ.m r with
   |none=>simp_all
   | some y=>
    rw[L]at C;injection C with C;subst C;exact(h.root r y L).rel E U
def Rl.api{z:V}(h:Rl w0 N aj ρ σ a w)(O:σ.m q=some (.sl z))(T:nk≠[]):∃ u,ρ q = .eG u/\Rl w0 N (aj.iy q nk) ρ (σ.drop q) a w/\RV w w0.heap.size (aj.iy q nk) nk z u:=by
 have E:=h.xR;have L:=h.root q _ O;generalize C:bu.sl z=x at L;cases L with
 |aB=>cases C
 |mp=>cases C
 |gh=>cases C
 | sl u y U Y=>
  injection C with C;subst C
  refine⟨u,U,h.rel (IL E) λb k D=>?_,?_⟩
  ·unfold bM.iy at D;cases hl:aj b with
   |none=>simp_all
   | some Z=>
    rw[hl]at D;injection D with D;subst D;exact⟨⟨Z,rfl⟩,acO T (λe=>E b (by rw[hl,e]))⟩
  ·have:=Y.iy (q:=q) (nk:=nk) E
   rwa [acN]at this
def iJ(r:Nat)(key:Nat->aa Nat):Nat->Nat->aa Lf->S->ah (aa V×S)
 |_,_,[],σ=>some ([],σ)
 |f+1,j,.v x::xs,σ=>(iJ r key f (j+1) xs σ).map λp=>(x::p.1,p.2)
 | f+1,j,.own [q] :: xs,σ=>match σ.m q with
  |some (.sl z)=>bif Nat.beq q r then none else (iJ r key f (j+1) (xs.map (Lf.drop q)) (σ.drop q)).map λp=>(z::p.1,p.2)
  |_=>none
 |_,_,_,_=>none
def Pd{r:Nat}{key:Nat->aa Nat}(Y:∀ j,dc r (key j)=true):∀ (f j:Nat) (xs:aa Lf) (σ E:S) (L:aa V),iJ r key f j xs σ=some (L,E)->∀ aj ρ a w,Rl w0 N aj ρ σ a w->∀ us:aa Value,fh w w0.heap.size aj ρ xs us.toArray->
  ∃ aD,Rl w0 N aD ρ E a w/\L.length=xs.length/\(∀ (n:Nat) x,L[n]?=some x->∃ u,us[n]?=some u/\RV w w0.heap.size aD (key (j+n)) x u)/\(∀ k x v,dc r k=true->RV w w0.heap.size aj k x v->RV w w0.heap.size aD k x v)/\
   (∀x,σ.m r=some (.sl x)->E.m r=some (.sl x))/\(∀k u,dc r k=true->dm w aj ρ k=some u->dm w aD ρ k=some u)/\(∀b,aj b=some [r]->aD b=some [r])/\(∀b,aj b=none->aD b=none)
 | 0,j,[],σ,E,L,h,aj,ρ,a,w,hR,us,O=>by
  simp only[iJ,iX,Prod.mk.injEq]at h;obtain⟨rfl,rfl⟩:=h;exact⟨aj,hR,rfl,by simp,λ_ _ _ _ h=>h,λ_ h=>h,λ_ _ _ h=>h,λ_ h=>h,λ_ h=>h⟩
 | f+1,j,[],σ,E,L,h,aj,ρ,a,w,hR,us,O=>by
  simp only[iJ,iX,Prod.mk.injEq]at h;obtain⟨rfl,rfl⟩:=h;exact⟨aj,hR,rfl,by simp,λ_ _ _ _ h=>h,λ_ h=>h,λ_ _ _ h=>h,λ_ h=>h,λ_ h=>h⟩
 |0,j,x::xs,σ,E,L,h,aj,ρ,a,w,hR,us,O=>by simp[iJ]at h
 | f+1,j,x :: xs,σ,E,L,h,aj,ρ,a,w,hR,us,O=>by
  obtain⟨U,us,rfl⟩:∃ U Pe,us=U :: Pe:=by
   cases us with
   |nil=>have:=O.1;simp at this
   |cons U us=>exact⟨_,_,rfl⟩
  have Z:eE w w0.heap.size aj ρ x U:=by
   obtain⟨u,e,h⟩:=O.2 0 x rfl;simp at e;subst e;exact h
  have lI:fh w w0.heap.size aj ρ xs us.toArray:=⟨by have:=O.1;simpa using this,λn y C=>by
   obtain⟨u,e,h⟩:=O.2 (n+1) y C;exact⟨u,by simpa using e,h⟩⟩
  cases x with
  | v x=>
   simp only[iJ,Option.map_eq_some_iff]at h;obtain⟨⟨VS,sW⟩,h,e⟩:=h;simp only[Prod.mk.injEq]at e;obtain⟨rfl,rfl⟩:=e;obtain⟨aD,h1,h2,h3,D,h5⟩:=Pd Y f (j+1) xs σ sW VS h aj ρ a w hR us lI
   refine⟨aD,h1,by simp[h2],λn y C=>?_,D,h5⟩
   cases n with
   | zero=>
    simp at C;subst C;refine⟨U,rfl,D _ _ _ (Y _) (Z.2.key Z.1)⟩
   | succ n=>
    obtain⟨u,e,h⟩:=h3 n y (by simpa using C);exact⟨u,by simpa using e,by rw[show j+(n+1)=j+1+n by omega];exact h⟩
  |dead=>simp[iJ]at h
  | own k=>
   match k,Z,h with
   |[],_,h=>simp[iJ]at h
   |_::_::_,_,h=>simp[iJ]at h
   | [q],Z,h=>
    simp only[iJ]at h;split at h
    ·rename_i z hz;cases VT:Nat.beq q r with
     |true=>rw[VT]at h;cases h
     | false=>
      rw[VT,aq,Option.map_eq_some_iff]at h;obtain⟨⟨VS,sW⟩,apj,e⟩:=h;simp only[Prod.mk.injEq]at e;obtain⟨rfl,rfl⟩:=e;have dH:q≠r:=by rintro rfl;simp at VT
      have hkj:key j≠[]:=by intro e;have:=Y j;rw[e]at this;simp[dc]at this
      obtain⟨u,cG,dR,kL⟩:=hR.api hz hkj;have IM:u=U:=by
       have D:=Z.2;simp only[dm,cG]at D;injection D
      subst IM;have oP:∀ k,dc r k=true->dc q k=false:=by
       intro k T;cases hq:dc q k with
       |false=>rfl
       | true=>
        exfalso;have h1:=acM T;have h2:=acM hq;exact dH (acE h1 h2)
      obtain⟨aD,h1,h2,h3,D,h5,h6,h7,h8⟩:=Pd Y f (j+1) (xs.map (Lf.drop q)) (σ.drop q) sW VS apj _ ρ a w dR us (lI.rel (IL hR.xR))
      refine⟨aD,h1,by simp[h2],λn y C=>?_,λk x v T hv=>D _ _ _ T (hv.rel (IL hR.xR) (.inl (oP k T))),λx hx=>h5 x ?_,λk v T hv=>h6 k v T (aph (IL hR.xR) k v (oP k T) hv),λb hb=>h7 b (bM.acQ hb (by simpa [dc]using λe=>dH e.symm)),λb hb=>h8 b (bM.VR hb)⟩
      ·cases n with
       | zero=>
        simp at C;subst C;exact⟨u,rfl,D _ _ _ (Y _) kL⟩
       | succ n=>
        obtain⟨u,e,h⟩:=h3 n y (by simpa using C);exact⟨u,by simpa using e,by rw[show j+(n+1)=j+1+n by omega];exact h⟩
      ·have hb:Nat.beq r q=false:=by
        cases hb:Nat.beq r q with
        |false=>rfl
        |true=>exact absurd (cK hb).symm dH
       show (bif Nat.beq r q then none else (σ.m r).map (bu.drop q))=_;rw[hb,hx];rfl
    ·cases h
end
def oQ:Value->Lf
 |.int k n=>.v (.int k n)
 |.bool b=>.v (.bool b)
 |.string s=>.v (.str s)
 |.slice none 0 0=>.v .nil
 |_=>.dead
def zeroV:Value->ah V
 |.int k n=>some (.int k n)
 |.bool b=>some (.bool b)
 |.string s=>some (.str s)
 |.slice none 0 0=>some .nil
 |_=>none
def IN:aa Value->ah (aa V)
 |[]=>some []
 | v :: C=>match zeroV v,IN C with
  |some x,some xs=>some (x::xs)
  |_,_=>none
def zeroOf(P:Program)(e:TypeId):ah Value:=(P.info? e).bind (·.zero)
def bytesOf(P:Program)(e:TypeId):ah Nat:=(P.info? e).map (·.bytes)
def iK{X:Type}(N:Nat)(σ:S)(d:Nat)(x:bu)(y:A)(k:S->ah X):ah X:=
 bif Nat.blt d N then k (((σ.drop d).root d x).set d y)else none
def rP{X:Type}(P:Program)(N:Nat)(σ:S)(d:Nat)(e:TypeId)(k:S->ah X):ah X:=
 match zeroOf P e with
 |some z=>iK N σ d (.aB (z.cells.toList.map oQ)) (.aG d 0) k
 |none=>none
def vY(P:Program)(t:TypeId):ah (TypeId×TC):=
 match qD P t with
 |none=>none
 | some e=>match acy e,jN P e,bytesOf P e with
  |some C,some n,some b=>bif Nat.beq n (aE C)&&Nat.ble b 65536 then some (e,C)else none
  |_,_,_=>none
def Pf(P:Program)(e:TypeId)(C:TC):ah (T C):=
 match zeroOf P e with
 |none=>none
 | some z=>match IN z.cells.toList with
  |none=>none
  |some D=>dec C (full C) D
def Ad{X:Type}(P:Program)(N:Nat)(σ:S)(d:Nat)(t:TypeId)(l c:A)(k:S->ah X):ah X:=
 match vY P t,l,c with
 | some (e,C),.lf (.v (.int _ n)),.lf (.v (.int _ c))=>match Pf P e C with
  |none=>none
  |some z=>if 0<=n/\n<=c/\c<1073741824 then iK N σ d (.sl (.sl C (full C+2) false (List.replicate n.toNat z))) (.lf (.own [d])) k else none
 |_,_,_=>none
def V.Pg(t:TC):V->ah (aa (T t))
 |.sl C _ _ l=>if h:C=t then some (h ▸ l)else none
 |.nil=>some []
 |_=>none
def uf{X:Type}(P:Program)(N:Nat)(σ:S)(d:Nat)(t:TypeId)(x y:A)(k:S->ah X):ah X:=
 match vY P t with
 | some (e,C)=>bif Nat.beq (full C) 0&&(zeroOf P e).any (λz=>Nat.beq z.cells.size (aE C))then sV σ y λD=>(match D.Pg C with
  |none=>none
  | some l2=>match x with
   |.lf (.v .nil)=>bif bI l2.length then iK N σ d (.sl (.sl C 2 false l2)) (.lf (.own [d])) k else none
   | .lf (.own [r])=>(match σ.m r with
    |some (.sl (.sl E (o+2) q l))=>if h:E=C then (bif Nat.blt d N&&(Nat.blt r N ||Nat.ble 60000 r)&&bI (l.length+l2.length)then k (((σ.drop r).root r (.sl (.sl C (o+2) false ((h ▸ l)++l2)))).set d (.lf (.own [r])))else none)else none
    |_=>none)
   |_=>none)else none
 |none=>none
section
variable {P:Program} {w w':World} {w0:Wd} {B N:Nat} {aj aD:bM} {ρ ρ':Nat->Loc} {σ:S} {a:Act} {X:Type} {d:Nat} {r:X} {q:Nat} {o:Oper}
def Ph(v:Value):eE w B aj ρ (oQ v) v:=by
 unfold oQ;split
 ·exact⟨rfl,.int _ _ _⟩
 ·exact⟨rfl,.bool _ _⟩
 ·exact⟨rfl,.str _ _⟩
 ·exact⟨rfl,.nil _⟩
 ·trivial
def acR{v:Value}{x:V}(h:zeroV v=some x)(q:aa Nat):RV w B aj q x v:=by
 unfold zeroV at h;split at h<;>first|(injection h with h;subst h;first|exact .int _ _ _|exact .bool _ _|exact .str _ _|exact .nil _)|cases h
def VU:∀ (C:aa Value) (xs:aa V),IN C=some xs -> xs.length=C.length /\ ∀ (j:Nat) x,xs[j]?=some x -> ∃ v,C[j]?=some v/\zeroV v=some x
 | [],xs,h=>by
  simp[IN]at h;simp_all
 | v :: C,xs,h=>by
  unfold IN at h;split at h
  ·rename_i y ys E D;injection h with h;subst h;obtain⟨L,O⟩:=VU C ys D
   grind
  ·cases h
def jz.acS(w0:Wd)(w:World)(o:Obj)(h:w0.heap.size<=w.heap.size):jz w0 w (w.alloc o):=.of ((Below.refl w0.heap.size w).alloc h o) (dW _)
def Rl.Fe{c:Array Value}{e:TypeId}{x:bu}{ρ':Nat -> Loc}(h:Rl w0 N aj ρ σ a w)(D:w0.F d=none)(E:∀ r,r≠d -> ρ' r=ρ r)
  (L:eH (w.alloc (.cells c e)) w0.heap.size (ck aj w.heap.size (some [d])) ρ' d x):Rl w0 N (ck aj w.heap.size (some [d])) ρ' ((σ.drop d).root d x) a (w.alloc (.cells c e)):=by
 refine h.Ac D (jz.acS w0 w _ h.below.size) ⟨by simp,λb hb _=>Below.heap_alloc w _ b hb,λb hb=>cU _ _ _ (by omega),λb hb=>(h.dD b [] hb).2.2 rfl⟩ (λb k hb C=>?_) E L
 by_cases e:b=w.heap.size
 ·subst e;rw[cu]at C;injection C with C;subst C;simp_all
 ·rw[cU _ _ _ e]at C;have:=(h.dD b k C).2.1;omega
def pY{x:bu}{y:A}{k:S -> ah X}(h:iK N σ d x y k=some r):d<N/\k (((σ.drop d).root d x).set d y)=some r:=by
 unfold iK at h;cases C:Nat.blt d N with
 |false=>simp_all
 |true=>simp_all
def apk{e:TypeId}{k:S -> ah X}(h:rP P N σ d e k=some r):∃ E,k E=some r /\ ∀ aj ρ a w,Rl w0 N aj ρ σ a w -> ∃ w' aD ρ' v,(Instr.alloc e true (.tuple #[])).run P w = .ok v w'/\Rl w0 N aD ρ' E (a.put (some d) v) w':=by
 unfold rP at h;split at h
 ·rename_i z D;obtain⟨L,h⟩:=pY h
  refine⟨_,h,λaj ρ a w hR=>?_⟩
  have U:(Instr.alloc e true (.tuple #[])).run P w = .ok (.pointer (some ⟨w.heap.size,0,none⟩)) (w.alloc (.cells z.cells e)):=by
   unfold zeroOf at D;cases hi:P.info? e with
   |none=>simp_all
   | some i=>
    have D:i.zero=some z:=by simpa [hi]using D
    simp[Instr.alloc,zeroValue,typeInfo,hi,D,newVar,newRow]
  refine⟨_,ck aj w.heap.size (some [d]),ck ρ d (.aB w.heap.size 0),_,U,(hR.Fe (hR.dN d (.inl L)) (λr Y=>cU _ _ _ Y) ?_).set ⟨w.heap.size,0,cu _ _ _,rfl⟩ L⟩
  refine .aB w.heap.size 0 z.cells e _ (λj=>z.cells.getD j undef) (cu _ _ _) (cu _ _ _) (heap_alloc_new w _) (by simp) λj x C=>?_
  rw[ff]at C;cases O:z.cells.toList[j]? with
  |none=>simp_all
  | some v=>
   rw[O]at C;injection C with C;subst C;have T:z.cells[j]?=some v:=by simpa using O
   have Z:z.cells.getD j undef=v:=by rw[iV,T];rfl
   rw[Z,fT];exact⟨T,Ph v⟩
 ·cases h
def Ae{t e:TypeId}{C:TC}(h:vY P t=some (e,C)):P.underlying t=some (.slice e)/\tid C=e /\ ∃ i,P.info? e=some i/\i.size=aE C/\i.bytes <= 65536:=by
 unfold vY at h;split at h
 ·cases h
 ·rename_i L D;split at h
  ·rename_i O n b T U hb;cases E:(Nat.beq n (aE O)&&Nat.ble b 65536)with
   |false=>simp_all
   | true=>
    rw[E,au]at h;injection h with h;injection h with Y Z;subst Y Z;rw[aS]at E;refine⟨?_,aoY T,?_⟩
    ·unfold qD at D;split at D
     ·simp_all
     ·cases D
    ·unfold jN at U;unfold bytesOf at hb;cases hi:P.info? L with
     |none=>simp_all
     |some i =>simp_all
  ·cases h
def acT(z:Array Value)(n i j:Nat)(C:j<z.size)(h:i*z.size+j<n):(madeCells z n)[i*z.size+j]?=some z[j]:=by
 have D:(i*z.size+j) % z.size=j:=by rw[Nat.add_comm,Nat.add_mul_mod_self_right,Nat.mod_eq_of_lt C]
 simp[madeCells,Array.getElem?_map,Array.getElem?_range,h,if_true,Option.map_some,D];simp[C]
def apl{t:TypeId}{l c:A}{k:S -> ah X}(h:Ad P N σ d t l c k=some r):∃ dz,k dz=some r /\ ∀ aj ρ a w,Rl w0 N aj ρ σ a w -> ∀ u v,RA w w0.heap.size aj ρ l u -> RA w w0.heap.size aj ρ c v ->
  ∃w' aD ρ' x,(Instr.makeSlice t u v).run P w = .ok x w'/\Rl w0 N aD ρ' dz (a.put (some d) x) w':=by
 unfold Ad at h;split at h
 ·rename_i e D kl n kc c pZ;split at h
  ·cases h
  ·rename_i z E;split at h
   ·rename_i hb;obtain⟨hd,h⟩:=pY h
    refine⟨_,h,λaj ρ a w hR u v hu U=>?_⟩
    obtain rfl:=hu.2.iI;obtain rfl:=U.2.iI;obtain⟨gH,ht,i,hi,iU,kD⟩:=Ae pZ;unfold Pf at E;split at E
    ·cases E
    ·rename_i C Ff;split at E
     ·cases E
     ·rename_i vs kM;have p6:i.zero=some C:=by unfold zeroOf at Ff;simpa [hi]using Ff
      obtain⟨p7,kN⟩:=VU _ _ kM;have Y:=mZ D (full D) vs z E;have T:C.cells.size=aE D:=by rw[<- lH D (full D) z,<- Y.1,p7];simp
      have Vm:(i.bytes:Int)*c <= 281474976710656:=by
       have h1:(i.bytes:Int) <= 65536:=by omega
       have h2:i.bytes*c <= 65536*c:=Int.mul_le_mul_of_nonneg_right h1 (by omega);omega
      have dZ:=run_make (P:=P) w t e i C gH hi p6 kl kc n c hb.1 hb.2.1 Vm (by omega);rw[iU,<- T]at dZ
      refine⟨_,ck aj w.heap.size (some [d]),ck ρ d (.eG (.slice (some ⟨w.heap.size,0,none⟩) n.toNat c.toNat)),_,dZ,(hR.Fe (hR.dN d (.inl hd)) (λr hr=>cU _ _ _ hr) ?_).set ⟨rfl,?_⟩ hd⟩
      ·refine .sl _ _ (cu _ _ _) ?_;have hlen:(List.replicate n.toNat z).length=n.toNat:=by simp
       have:=RV.own (w:=w.alloc (.cells (madeCells C.cells (c.toNat*C.cells.size)) e)) (B:=w0.heap.size) (aj:=ck aj w.heap.size (some [d])) [d] D (full D) false (List.replicate n.toNat z) w.heap.size c.toNat (madeCells C.cells (c.toNat*C.cells.size)) (λ_ j=>C.cells.getD j undef)
        (cu _ _ _) (by rw[ht];exact heap_alloc_new w _) (by rw[size_madeCells,T]) (by rw[hlen];omega) ⟨by unfold maxLen;omega,λh=>by cases h⟩ (λZ h' j x L=>?_) (λZ h' j x L=>?_)
       ·rw[hlen]at this;exact this
       ·rw[List.getElem_replicate]at L;have O:j<aE D:=by have:=(eo.1 L).1;rwa [lH]at this
        rw[hlen]at h';rw[<- T]at O;rw[<- T,acT C.cells _ Z j O (by
         have:(Z+1)*C.cells.size <= c.toNat*C.cells.size:=iW _ (by omega);rw[iF]at this;omega)]
        simp[iV,O]
       ·rw[List.getElem_replicate]at L;have O:j<(enc D (full D) z).length:=(eo.1 L).1;rw[<- Y.1]at O;have hy:=bY O;generalize vs[j]=y at hy;obtain⟨v,U,VV⟩:=kN j y hy;have uc:C.cells[j]?=some v:=by simpa using U
        have hg:C.cells.getD j undef=v:=by rw[iV,uc];rfl
        rw[hg];exact(acR VV _).wk (Y.2 j y x hy L)
      ·simp[dm,cu]
   ·cases h
 ·cases h
def Fg(t:TC)(h:full t=0)(o C:Nat)(x:T t):enc t o x=enc t C x:=by
 have key:∀ o,enc t o x=enc t 0 x:=by
  intro o;rw[acz t o x];have:=zW t o x h
  conv=>lhs;rw[<- List.map_id (enc t o x)]
  apply List.map_congr_left;intro y D;have E:=this y D;cases y<;>first|rfl|cases E
 simp_all
def xS(u:Nat->Nat->Value)(n s:Nat):aa Value:=(List.range (n*s)).map λk=>u (k / s) (k % s)
def acU(u:Nat -> Nat -> Value)(n s i j:Nat)(hi:i<n)(C:j<s):(xS u n s)[i*s+j]?=some (u i j):=by
 have D:i*s+j<n*s:=by
  have:(i+1)*s <= n*s:=iW _ hi
  grind
 have E:(i*s+j) / s=i:=by rw[Nat.add_comm,Nat.add_mul_div_right _ _ (by omega),Nat.div_eq_of_lt C,fT]
 have L:(i*s+j) % s=j:=by rw[Nat.add_comm,Nat.add_mul_mod_self_right,Nat.mod_eq_of_lt C]
 simp[xS,D,E,L]
def Pj(u:Nat -> Nat -> Value)(n s k:Nat)(v:Value)(D:0<s)(h:(xS u n s)[k]?=some v):∃ i j,k=i*s+j/\i<n/\j<s/\v=u i j:=by
 have C:k<n*s:=by
  have:=(eo.1 h).1
  simpa [xS]using this
 refine⟨k / s,k % s,by rw[Nat.mul_comm];exact(Nat.div_add_mod k s).symm,Nat.div_lt_of_lt_mul (by rw[Nat.mul_comm];exact C),Nat.mod_lt _ D,?_⟩;simp[xS,ff,List.getElem?_range C,Option.map_some,iX]at h;simp_all
def Cx(t:TC)(o:Nat)(x:T t)(j:Nat)(C:j<aE t):∃y,(enc t o x)[j]?=some y:=⟨_,bY (by rw[lH];exact C)⟩
def xT(t:TC)(l:aa (T t))(C:aa Value):Prop:=
 ∀i (hi:i<l.length) (o j:Nat) x,(enc t o l[i])[j]?=some x->∃v,C[i*aE t+j]?=some v/\v.oneCell'=true/\∀(w':World) (B':Nat) (aD:bM) (D:aa Nat),RV w' B' aD D x v
def RV.reads{q:aa Nat}{t:TC}{g:Nat}{qn:Bool}{l:aa (T t)}{u:Value}(h:RV w B aj q (.sl t g qn l) u)(Y:full t=0):
  ∃A c news,u = .slice A l.length c/\Reads w w.heap.size (aE t) A l.length news/\(∀v∈news,v.oneCell'=true)/\xT t l news:=by
 cases h with
 |eU=>exact⟨none,0,[],rfl,Reads.none_,by simp,λi hi=>by simp at hi⟩
 |gd=>exact⟨_,_,[],rfl,⟨by simp,λh=>by simp at h⟩,by simp,λi hi=>by simp at hi⟩
 |gq=>exact⟨_,_,[],rfl,⟨by simp,λh=>by simp at h⟩,by simp,λi hi=>by simp at hi⟩
 | aF _ _ _ _ _ b off cap us ho hl hb h1 jL hc O=>
  have U:∀ i (hi:i<l.length) j,j<aE t -> (us i j).oneCell'=true:=by
   intro i hi j C;obtain⟨y,L⟩:=Cx t g l[i] j C;exact(O i hi j y L).one
  refine⟨_,cap,xS us l.length (aE t),rfl,⟨by simp[xS],λhn=>⟨b,off,rfl,hb,λk v E=>?_⟩⟩,λv E=>?_,λi hi o j x D=>?_⟩
  ·obtain⟨i,j,rfl,hi,C,rfl⟩:=Pj us _ _ k v (pQ t) E;obtain⟨y,L⟩:=Cx t g l[i] j C;exact hc i hi j y L
  ·obtain⟨k,Z⟩:=List.mem_iff_getElem?.1 E;obtain⟨i,j,rfl,hi,C,rfl⟩:=Pj us _ _ k v (pQ t) Z;exact U i hi j C
  ·have C:j<aE t:=by have:=(eo.1 D).1;rwa [lH]at this
   rw[Fg t Y o g]at D
   refine⟨us i j,acU us _ _ i j hi C,U i hi j C,λw' B' aD q'=>(O i hi j x D).ud (zW t g l[i] Y x (iq D))⟩
 | own _ _ o _ _ b cap cs us hl hh hs hn hm hc O=>
  have U:∀ i (hi:i<l.length) j,j<aE t -> (us i j).oneCell'=true:=by
   intro i hi j C;obtain⟨y,L⟩:=Cx t o l[i] j C;exact(O i hi j y L).one
  refine⟨_,cap,xS us l.length (aE t),rfl,⟨by simp[xS],λhn=>⟨b,0,rfl,(jj.1 hh).1,λk v E=>?_⟩⟩,λv E=>?_,λi hi o' j x D=>?_⟩
  ·obtain⟨i,j,rfl,hi,C,rfl⟩:=Pj us _ _ k v (pQ t) E;obtain⟨y,L⟩:=Cx t o l[i] j C;rw[fT,cell_of_row w b _ cs _ _ hh];simp_all
  ·obtain⟨k,Z⟩:=List.mem_iff_getElem?.1 E;obtain⟨i,j,rfl,hi,C,rfl⟩:=Pj us _ _ k v (pQ t) Z;exact U i hi j C
  ·have C:j<aE t:=by have:=(eo.1 D).1;rwa [lH]at this
   rw[Fg t Y o' o]at D
   refine⟨us i j,acU us _ _ i j hi C,U i hi j C,λw' B' aD q'=>(O i hi j x D).ud (zW t o l[i] Y x (iq D))⟩
def RV.acV{q:aa Nat}{t:TC}{o:Nat}{D:Bool}{l:aa (T t)}{u:Value}(h:RV w B aj q (.sl t (o+2) D l) u)(E:full t=0){B':Nat}(hB:∀ b,aj b=some q -> B' <= b):
  ∃xs,w.ownsRow B' (tid t) (aE t) u l.length xs/\(∀b,u.ownBlock=some b -> aj b=some q)/\(D=true -> u.ownBlock≠none)/\xT t l xs:=by
 cases h with
 |gd=>omega
 |gq=>omega
 |eU=>exact⟨[],⟨by simp,.inl ⟨rfl,rfl⟩⟩,by simp[Value.ownBlock],by simp,λi hi=>by simp at hi⟩
 |aF _ _ _ _ _ _ _ _ _ ho=>omega
 | own _ _ _ _ _ b cap cs us hl O U Y Z hc L=>
  refine⟨cs.toList.take _,⟨?_,.inr ⟨b,cap,cs,rfl,hB b hl,O,Y,Z.1,U,rfl⟩⟩,λb' Cy=>?_,λ_=>by simp[Value.ownBlock],λi hi o' j x C=>?_⟩
  ·simp_all
  ·have:b=b':=by simpa [Value.ownBlock]using Cy
   simp_all
  ·have hj:j<aE t:=by have:=(eo.1 C).1;rwa [lH]at this
   have dQ:i*aE t+j<l.length*aE t:=by
    have:(i+1)*aE t <= l.length*aE t:=iW _ hi;rw[iF]at this;omega
   rw[Fg t E o' o]at C
   refine⟨us i j,?_,(L i hi j x C).one,λw' B' aD q'=>(L i hi j x C).ud (zW t o l[i] E x (iq C))⟩
   grind
def xT.append{t:TC}{l l2:aa (T t)}{xs ys:aa Value}(h:xT t l xs)(E:xT t l2 ys)(hl:xs.length=l.length*aE t):xT t (l++l2) (xs++ys):=by
 intro i hi o j x C;by_cases D:i<l.length
 ·rw[List.getElem_append_left D]at C;obtain⟨v,L,r⟩:=h i D o j x C
  grind
 ·rw[List.getElem_append_right (by omega)]at C;have O:i-l.length<l2.length:=by rw[pM]at hi;omega
  obtain⟨v,L,r⟩:=E _ O o j x C;refine⟨v,?_,r⟩;have e:i*aE t+j=xs.length+((i-l.length)*aE t+j):=by
   rw[hl,Nat.sub_mul];have:l.length*aE t <= i*aE t:=iW _ (by omega);omega
  grind
def VW{q:aa Nat}{t:TC}{o:Nat}{l:aa (T t)}{u:Value}{xs:aa Value}{B':Nat}(h:w.ownsRow B' (tid t) (aE t) u l.length xs)(D:xT t l xs)(hl:∀ b,u.ownBlock=some b -> aj b=some q):
  RV w B aj q (.sl t (o+2) false l) u:=by
 rcases h.2 with ⟨rfl,E⟩|⟨b,cap,cs,rfl,hB,L,O,U,Y,ht⟩
 ·have:=List.eq_nil_of_length_eq_zero E;subst this;exact .eU _ _ _
 ·have qE:∀ i _ j x,(enc t o l[i])[j]?=some x -> ∃ v,cs[i*aE t+j]?=some v /\ ∀ w' B' aD Z,RV w' B' aD Z x v:=by
   intro i hi j x C;obtain⟨v,hv,_,r⟩:=D i hi o j x C
   grind
  refine .own q t o false l b cap cs (λi j=>(cs[i*aE t+j]?).getD undef) (hl b rfl) L Y O ⟨U,λh=>by cases h⟩ (λi hi j x C=>?_) (λi hi j x C=>?_)
  ·grind
  ·grind
def Rl.append{t e ty:TypeId}{C:TC}{i:TypeInfo}{z:Value}{rr o g:Nat}{q qn:Bool}{l l2:aa (T C)}{u v:Value}{q':aa Nat}{Bx:Nat}{VX:bM}(h:Rl w0 N aj ρ σ a w)(hF:w0.F rr=none)(gH:P.underlying t=some (.slice e))(ht:tid C=e)(hi:P.info? e=some i)(hz:i.zero=some z)
  (iU:i.size=aE C) (kD:i.bytes <= 65536) (nS:z.cells.size=aE C) (hf:full C=0) (hd:RV w w0.heap.size aj [rr] (.sl C (o+2) q l) u) (hs:RV w Bx VX q' (.sl C g qn l2) v) (hlen:l.length+l2.length<1073741824):
  ∃D w' aD,(Builtin.append_ #[t,t] ty #[u,v]).run P w = .ok D w'/\Rl w0 N aD (ck ρ rr (.eG D)) ((σ.drop rr).root rr (.sl (.sl C (o+2) false (l++l2)))) a w'/\n7 D=true:=by
 subst ht;obtain⟨xs,Af,Y,IP,iQ⟩:=hd.acV hf (B':=0) (λb _=>fz b);obtain⟨A,c,news,rfl,rQ,mI,IQ⟩:=hs.reads hf;have gO:(l.length+l2.length)*i.bytes <= 140737488355328:=by
  have h1:(l.length+l2.length)*i.bytes <= 1073741824*65536:=Nat.mul_le_mul (by omega) kD;omega
 obtain⟨D,w',dZ,O,L,kO⟩:=Vl (P:=P) w 0 t ty (tid C) i z (aE C) i.bytes gH hi hz iU rfl nS (pQ C) u l.length xs Af _ A l2.length c news rQ mI (by unfold maxLen;omega) gO (fz _);have IS:(l++l2).length=l.length+l2.length:=pM;rw[<- IS]at O;have Cz:=iQ.append IQ Af.1;have gG:n7 D=true:=by rcases O.2 with ⟨rfl,_⟩|⟨_,_,_,rfl,_⟩<;>rfl
 have Z:Below 0 w w':=(Below.refl 0 w).grown L (fz _) (λ_ _=>fz _);have sX:jz w0 w w':=⟨Z.os,Z.tape,Z.output,Z.size,λk E hL=>L.block k (Nat.lt_of_lt_of_le E h.below.size) (λU=>by
  rcases(h.dD k _ (Y k U.symm)).1 with h1|h1
  ·exact absurd E (Nat.not_lt.2 h1)
  ·exact h1 hL)⟩
 by_cases IT:D.ownBlock=some w.heap.size
 ·have dQ:w.heap.size<w'.heap.size:=by
   rcases O.2 with ⟨rfl,_⟩|⟨b,cap,cs,rfl,_,hh,_⟩
   ·cases IT
   ·have:b=w.heap.size:=by simpa [Value.ownBlock]using IT
    grind
  refine⟨D,w',ck aj w.heap.size (some [rr]),dZ,h.Ac hF sX ⟨L.size,λb hb dH=>L.block b hb (λU=>dH (Y b U.symm)),λb hb=>cU _ _ _ (by omega),λb hb=>(h.dD b [] hb).2.2 rfl⟩ (λb k hb E=>?_) (λr hr=>cU _ _ _ hr) (.sl D _ (cu _ _ _) (VW O Cz (λb hb=>?_))),gG⟩
  ·by_cases e:b=w.heap.size
   ·subst e;rw[cu]at E
    grind
   ·rw[cU _ _ _ e]at E;have:=(h.dD b k E).2.1;omega
  ·rw[IT]at hb;injection hb with hb;subst hb;exact cu _ _ _
 ·have VY:D.ownBlock=u.ownBlock:=by
   rcases kO with kO|kO
   ·exact kO
   ·exact absurd kO IT
  refine⟨D,w',aj,dZ,h.Ac hF sX ⟨L.size,λb hb dH=>L.block b hb (λU=>dH (Y b U.symm)),λ_ _=>rfl,λb hb=>(h.dD b [] hb).2.2 rfl⟩ (λb k hb E=>?_) (λr hr=>cU _ _ _ hr) (.sl D _ (cu _ _ _) (VW O Cz (λb hb=>Y b (by rw[<- VY];exact hb)))),gG⟩
  have:=(h.dD b k E).2.1;omega
def VZ{t:TC}{x:V}{l:aa (T t)}(h:x.Pg t=some l){q:aa Nat}{u:Value}(C:RV w B aj q x u):∃ g D,RV w B aj q (.sl t g D l) u:=by
 unfold V.Pg at h;split at h
 ·grind
 ·injection h with h;subst h;cases C;exact⟨0,false,.eU _ _ _⟩
 ·cases h
def V0{x:Lf}{k:V -> ah X}(h:pW σ x k=some r):∃ y,(∀ aj ρ a w,Rl w0 N aj ρ σ a w -> ∀ u,eE w w0.heap.size aj ρ x u -> ∃ q,RV w w0.heap.size aj q y u)/\k y=some r:=by
 cases x with
 |v z=>exact⟨z,λaj ρ a w _ u C=>⟨[],C.2⟩,h⟩
 |dead=>cases h
 | own q=>
  obtain⟨z,D,h⟩:=sU q _ h
  refine⟨z,λaj ρ a w hR u C=>?_,h⟩
  obtain⟨v,E,L⟩:=D.ok hR.root;have O:=C.2
  grind
def acW{y:A}{k:V -> ah X}(h:sV σ y k=some r):∃ z,(∀ aj ρ a w,Rl w0 N aj ρ σ a w -> ∀ u,RA w w0.heap.size aj ρ y u -> ∃ q B' aD,RV w B' aD q z u)/\k z=some r:=by
 unfold sV at h;split at h
 ·obtain⟨z,C,D⟩:=V0 h;exact⟨z,λaj ρ a w hR u E=>let ⟨q,L⟩:=C aj ρ a w hR u E;⟨q,_,_,L⟩,D⟩
 ·obtain⟨z,D,_,C⟩:=acH h;exact⟨z,λaj ρ a w hR u E=>⟨[],0,_,C _ _ _ _ _ _ hR u E 0⟩,D⟩
 ·cases h
def apm{t ty:TypeId}{x y:A}{k:S -> ah X}(h:uf P N σ d t x y k=some r):∃ dz,k dz=some r /\ ∀ aj ρ a w,Rl w0 N aj ρ σ a w -> ∀ u v,RA w w0.heap.size aj ρ x u -> RA w w0.heap.size aj ρ y v ->
  ∃w' aD ρ' z,(Builtin.append_ #[t,t] ty #[u,v]).run P w = .ok z w'/\Rl w0 N aD ρ' dz (a.put (some d) z) w':=by
 unfold uf at h;split at h
 ·rename_i e tc pZ;obtain⟨gH,ht,i,hi,iU,kD⟩:=Ae pZ;cases T:(Nat.beq (full tc) 0&&(zeroOf P e).any (λz=>Nat.beq z.cells.size (aE tc)))with
  |false=>grind
  | true=>
   rw[T,au]at h;rw[aS]at T;have hf:=cK T.1;obtain⟨z,hz,U⟩:=(Option.any_eq_true _ _).1 T.2;have U:=cK U;have p6:i.zero=some z:=by unfold zeroOf at hz;simpa [hi]using hz
   obtain⟨yv,Pm,C⟩:=acW (w0:=w0) (N:=N) h;clear h;split at C
   ·cases C
   ·rename_i l2 kN;split at C
    ·cases D:bI l2.length with
     |false=>grind
     | true=>
      rw[D,au]at C;have D:l2.length<1073741824:=by simpa [bI]using D
      obtain⟨Y,h3⟩:=pY C
      refine⟨_,h3,λaj ρ a w hR u v O Z=>?_⟩
      have O:u = .slice none 0 0:=by cases O.2;rfl
      subst O;obtain⟨q',_,_,E⟩:=Pm aj ρ a w hR v Z;obtain⟨g,qn,E⟩:=VZ kN E;obtain⟨v',w',aD,dZ,dR,gG⟩:=hR.append (ty:=ty) (rr:=d) (o:=0) (q:=false) (l:=[]) (hR.dN d (.inl Y)) gH ht hi p6 iU kD U hf (.eU _ _ _) E (by simpa using D);exact⟨w',aD,_,v',dZ,dR.set ⟨gG,by simp[dm,cu]⟩ Y⟩
    ·rename_i rr;split at C
     ·rename_i t' o q l hm;split at C
      ·rename_i od;subst od;cases D:(Nat.blt d N&&(Nat.blt rr N || Nat.ble 60000 rr)&&bI (l.length+l2.length))with
       |false=>grind
       | true=>
        rw[D,au]at C;rw[aS,aS,eR]at D;have IU:l.length+l2.length<1073741824:=by simpa [bI]using D.2
        have Y:d<N:=by have:=cX D.1.1;omega
        have oa:rr<N \/ 60000 <= rr:=D.1.2.imp (λh=>by have:=cX h;omega) (λh=>cX h)
        refine⟨_,C,λaj ρ a w hR u v O Z=>?_⟩
        obtain⟨q',_,_,E⟩:=Pm aj ρ a w hR v Z;obtain⟨g,qn,E⟩:=VZ kN E;have fo:=hR.root rr _ hm;generalize L:bu.sl (.sl t' (o+2) q l)=x at fo;cases fo with
        |aB=>cases L
        |mp=>cases L
        |gh=>cases L
        | sl uu y cG hr=>
         injection L with L;subst L;have IM:uu=u:=by
          have h4:=O.2;simp only[dm,cG]at h4;simp_all
         subst IM;obtain⟨v',w',aD,dZ,dR,gG⟩:=hR.append (ty:=ty) (hR.dN rr oa) gH ht hi p6 iU kD U hf hr E IU;exact⟨w',aD,_,v',dZ,dR.set ⟨gG,by simp[dm,cu]⟩ Y⟩
      ·cases C
     ·cases C
    ·cases C
 ·cases h
def Rl.acX{t:TC}{g p:Nat}{qn:Bool}{l ys:aa (T t)}{news:aa Value}(h:Rl w0 N aj ρ σ a w)(hm:σ.m q=some (.sl (.sl t (g+2) qn l)))(hf:full t=0)(hp:p+ys.length <= l.length)(oP:0<l.length)(iQ:xT t ys news)(rR:news.length=ys.length*aE t):
  ∃ b cap,ρ q = .eG (.slice (some ⟨b,0,none⟩) l.length cap)/\l.length <= cap/\(∀ n,n<news.length -> (w.cell? ⟨b,p*aE t+n,none⟩).isSome=true/\w.frozen? ⟨b,p*aE t+n,none⟩=false) /\
   Rl w0 N aj ρ ⟨σ.t,ck σ.m q (some (.sl (.sl t (g+2) qn (splice l p ys))))⟩ a (w.setCells b (p*aE t) news):=by
 have fo:=h.root q _ hm;generalize U:bu.sl (.sl t (g+2) qn l)=x at fo;cases fo with
 |aB=>cases U
 |mp=>cases U
 |gh=>cases U
 | sl v y cG iZ=>
  injection U with U;subst U;cases iZ with
  |eU=>exact absurd oP (Nat.lt_irrefl 0)
  |gd=>exact absurd oP (Nat.lt_irrefl 0)
  |gq=>exact absurd oP (Nat.lt_irrefl 0)
  |aF _ _ _ _ _ _ _ _ _ ho=>omega
  | own _ _ _ _ _ b cap cs u qF hh hs hn sS hc hr=>
   have Cr:(p+ys.length)*aE t <= cap*aE t:=iW _ (by omega);rw[Nat.add_mul]at Cr;have mF:p*aE t+news.length <= cs.size:=by rw[rR,hs];exact Cr
   have hW:=O6 w b (p*aE t) news;obtain⟨L,gO,qC⟩:=Is b (tid t) news (p*aE t) w cs hh mF;have ue:∀ n,L[n]?=if n<p*aE t then cs[n]? else if n<p*aE t+news.length then news[n-p*aE t]? else cs[n]?:=by
    intro n;have e2:L[n]?=(splice cs.toList (p*aE t) news)[n]?:=by
     rw[show L[n]?=L.toList[n]? by simp,qC];rfl
    rw[e2,xN _ _ _ (by simpa using mF)];simp
   have IB:L.size=cs.size:=by
    rw[<- mA,qC];have:=ua cs.toList (p*aE t) news (by simpa using mF);simp only[splice]at this;simp_all
   have ug:=pQ t;have hC:rL w (w.setCells b (p*aE t) news) aj ρ:=by
    intro k ad v ha E gG;by_cases dH:ad.block=b
    ·obtain⟨D,C,s',q',rfl,Cp,ao5,vS,_⟩:=Co k ad ha;have pV:ad=⟨b,ad.off,none⟩:=by cases ad;simp_all
     rw[pV,cell_of_row w b _ cs _ _ hh]at E;rw[pV,cell_of_row _ b _ L _ _ gO,ue];by_cases Y:ad.off<p*aE t
     ·rw[bJ Y];exact E
     ·by_cases h2:ad.off<p*aE t+news.length
      ·exfalso;have hk:ad.off=(ad.off / aE t)*aE t+ad.off % aE t:=by rw[Nat.mul_comm];exact(Nat.div_add_mod _ _).symm
       have dQ:ad.off<l.length*aE t:=by
        have:(p+ys.length)*aE t <= l.length*aE t:=iW _ hp;rw[Nat.add_mul]at this;omega
       have hi:ad.off / aE t<l.length:=Nat.div_lt_of_lt_mul (by rw[Nat.mul_comm];exact dQ);obtain⟨y,hy⟩:=Cx t g l[ad.off / aE t] (ad.off % aE t) (Nat.mod_lt _ ug);have h3:=hc _ hi _ y hy;rw[<- hk,E]at h3;injection h3 with h3;have:=(hr _ hi _ y hy).acF (zW t g _ hf y (iq hy));rw[<- h3,gG]at this;cases this
      ·rw[bQ Y,bQ h2];exact E
    ·exact(World.cell?_of_block (hW.block _ dH)).trans E
   have Cq:dm w aj ρ [q]=some (.slice (some ⟨b,0,none⟩) l.length cap):=by simp only[dm,cG]
   refine⟨b,cap,cG,hn,λn rN=>⟨?_,frozen_of_row w b _ cs _ hh⟩,h.wrote hW qF hC ((zY.root q _ _ hm).ok h.root hW qF (List.suffix_refl _) hC Cq ?_)⟩
   ·rw[cell_of_row w b _ cs _ _ hh];simp;omega
   ·have hlen:(splice l p ys).length=l.length:=ua l p ys hp;have key:∀ C (h:C<(splice l p ys).length) (D:Nat) x,(enc t g (splice l p ys)[C])[D]?=some x -> ∃ v,L[C*aE t+D]?=some v/\RV (w.setCells b (p*aE t) news) w0.heap.size aj (D :: C :: aE t :: [q]) x v:=by
     intro C h' D x Z;have rM:D<aE t:=by have:=(eo.1 Z).1;rwa [lH]at this
     have O:=bY h';generalize (splice l p ys)[C]=e at O Z;rw[xN l p ys hp]at O;have vT:=zW t g e hf x (iq Z);have old:l[C]?=some e -> ∃ v,cs[C*aE t+D]?=some v/\RV (w.setCells b (p*aE t) news) w0.heap.size aj (D :: C :: aE t :: [q]) x v:=λhle=>by
      obtain⟨hi,rfl⟩:=eo.1 hle;exact⟨_,hc C hi D x Z,(hr C hi D x Z).ud vT⟩
     by_cases Y:C<p
     ·rw[bJ Y]at O;have dQ:(C+1)*aE t <= p*aE t:=iW _ Y;rw[iF]at dQ;rw[ue,bJ];exact old O
     ·rw[bQ Y]at O;by_cases h2:C<p+ys.length
      ·rw[bJ h2]at O;obtain⟨hi,rfl⟩:=eo.1 O;obtain⟨v,E,_,kL⟩:=iQ (C-p) hi g D x Z;have aIy:(C-p)*aE t=C*aE t-p*aE t:=Nat.sub_mul _ _ _;have hle:p*aE t <= C*aE t:=iW _ (by omega);have dQ:=(eo.1 E).1;refine⟨v,?_,kL _ _ _ _⟩;rw[ue,bQ,bJ,<- E];congr 1;omega
      ·rw[bQ h2]at O;have pT:(p+ys.length)*aE t <= C*aE t:=iW _ (by omega);rw[Nat.add_mul]at pT;rw[ue,bQ,bQ (by rw[rR];omega)];exact old O
    rw[<- hlen]
    refine .own [q] t g qn (splice l p ys) b cap L (λC D=>(L[C*aE t+D]?).getD undef) qF gO (IB.trans hs) (by rw[hlen];exact hn) ⟨sS.1,λh=>by rw[hlen];exact sS.2 h⟩ (λC h D x mH=>?_) (λC h D x mH=>?_)
    ·obtain⟨v,E,_⟩:=key C h D x mH;rw[E];rfl
    ·obtain⟨v,E,hr⟩:=key C h D x mH;rw[E];exact hr
def acY(b i c s:Nat):sliced (some ⟨b,0,none⟩) 0 i c s = .slice (some ⟨b,0,none⟩) i c:=by
 unfold sliced;split
 ·rfl
 ·rw[Option.map_some,Addr.add_lit];simp
def IV{X:Type}(P:Program)(N:Nat)(σ:S)(d:Nat)(t:TypeId)(x y:A)(k:S->ah X):ah X:=
 match x,y with
 | .view [q] s 0 i,.view [E] L j m=>(match vY P t with
  | some (e,C)=>bif Nat.beq E q&&Nat.beq s (aE C)&&Nat.beq L (aE C)&&Nat.beq (full C) 0&&Nat.blt d N then (match σ.m q with
   |some (.sl (.sl D (o+2) O l))=>bif Nat.beq (full D) 0&&Nat.beq (aE D) (aE C)then (if i<=j/\j<=m/\m<=l.length/\0<l.length then k ((σ.root q (.sl (.sl D (o+2) O (splice l i ((l.take m).drop j))))).set d (.view [q] s 0 (i+(m-j))))else none)else none
   |_=>none)else none
  |none=>none)
 |_,_=>none
def apn{t ty:TypeId}{x y:A}{k:S -> ah X}(h:IV P N σ d t x y k=some r):∃ dz,k dz=some r /\ ∀ aj ρ a w,Rl w0 N aj ρ σ a w -> ∀ u v,RA w w0.heap.size aj ρ x u -> RA w w0.heap.size aj ρ y v ->
  ∃w' aD ρ' z,(Builtin.append_ #[t,t] ty #[u,v]).run P w = .ok z w'/\Rl w0 N aD ρ' dz (a.put (some d) z) w':=by
 unfold IV at h;split at h
 ·rename_i q s i q' s' j m;split at h
  ·rename_i e D pZ;obtain⟨gH,ht,inf,hi,O,kD⟩:=Ae pZ;cases hc:(Nat.beq q' q&&Nat.beq s (aE D)&&Nat.beq s' (aE D)&&Nat.beq (full D) 0&&Nat.blt d N)with
   |false=>grind
   | true=>
    rw[hc,au]at h;simp only[aS]at hc;obtain⟨⟨⟨⟨c1,c2⟩,c3⟩,c4⟩,c5⟩:=hc;obtain rfl:=cK c1;obtain rfl:=cK c2;obtain rfl:=cK c3;have hd:d<N:=by have:=cX c5;omega
    split at h
    ·rename_i T g qn l hm;cases U:(Nat.beq (full T) 0&&Nat.beq (aE T) (aE D))with
     |false=>grind
     | true=>
      rw[U,au]at h;rw[aS]at U;have hf:=cK U.1;have Y:=cK U.2;split at h
      ·rename_i hb;obtain⟨b1,b2,b3,b4⟩:=hb
       refine⟨_,h,λaj ρ a w hR u v hu hv=>?_⟩
       obtain⟨A,n,c,hva,a1,a2,rfl⟩:=hu;obtain⟨A',n',c',Z,a1',a2',rfl⟩:=hv;rw[hva]at Z;injection Z with Z;injection Z with C e2 e3;subst C e2 e3
       -- what is moved
       have fo:=hR.root q' _ hm;generalize E:bu.sl (.sl T (g+2) qn l)=x at fo;cases fo with
       |aB=>cases E
       |mp=>cases E
       |gh=>cases E
       | sl CA y cG iZ=>
        injection E with E;subst E;have Pn:CA = .slice A n c:=by
         simp only[dm,cG]at hva;simp_all
        subst Pn;have Po:RV w 0 (λ_=>none) [] (.sl T 0 qn l) (.slice A n c):=iZ.gN;have hn:n=l.length:=by cases Po<;>rfl
        obtain⟨hp,Fh,CB⟩:=Po.part (a:=j) (h:=m) (by omega) b2 (by omega);obtain⟨A2,c2,news,gG,rQ,mI,iQ⟩:=hp.reads hf;have hlen:((l.take m).drop j).length=m-j:=by rw[List.length_drop,fY];omega
        obtain⟨b,cap,hJ,jL,jO,dR⟩:=hR.acX hm hf (p:=i) (ys:=(l.take m).drop j) (news:=news) (by rw[hlen];omega) b4 iQ (by rw[hlen];exact hlen ▸ rQ.1);rw[cG]at hJ;injection hJ with hJ;injection hJ with C e2 e3;subst C e2 e3;rw[hlen]at gG;have CC:sliced (some ⟨b,0,none⟩) 0 i c (aE D) = .slice (some ⟨b,0,none⟩) i c:=acY b i c _;obtain⟨ad,CA⟩:∃ ad,sliced (some ⟨b,0,none⟩) j m c (aE D) = .slice (some ad) (m-j) (c-j):=by
         unfold sliced;by_cases hcj:c=j
         ·grind
         ·grind
        have V1:A2=some ad:=by
         grind
        subst V1;have rR:news.length=(m-j)*inf.size:=by rw[rQ.1,hlen,O,Y]
        have dZ:=run_append_room_cells (P:=P) w t ty e inf gH hi b 0 i c ad (m-j) (c-j) news rR (λk u L=>by
         have p9:=(eo.1 L).1;have ug:0<((l.take m).drop j).length:=by
          rcases Nat.eq_zero_or_pos ((l.take m).drop j).length with h0|h0
          ·grind
          ·exact h0
         obtain⟨b',II,C,_,vZ⟩:=rQ.2 ug;injection C with C;subst C;rw[Addr.add_lit];exact vZ k u L) mI (by omega) (λk L=>by rw[fT,O,<- Y];exact(jO k L).1) (λk L=>by rw[fT,O,<- Y];exact(jO k L).2)
        refine⟨_,aj,ρ,_,by rw[CC,CA];exact dZ,?_⟩;rw[fT,O,<- Y];exact dR.set ⟨some ⟨b,0,none⟩,l.length,c,by simp only[dm,cG],fz _,by omega,(acY b _ c _).symm⟩ hd
      ·cases h
    ·cases h
  ·cases h
 ·cases h
def apo{t:TypeId}{x y:A}:cS λX k=>IV (X:=X) P N σ d t x y k:=λX Y k g=>by
 unfold IV
 repeat' first|rfl|refine dI ?_ ?_|split
def IW{X:Type}(P:Program)(σ:S)(t:TypeId)(x:A)(k:S->ah X):ah X:=
 match x with
 | .view [q] s i j=>(match vY P t with
  | some (e,C)=>(match Pf P e C with
   | some z=>(match σ.m q with
    |some (.sl (.sl D (o+2) E l))=>if h:C=D then (bif Nat.beq s (aE C)&&Nat.beq (full C) 0 then (if i<=j/\j<=l.length then k (σ.root q (.sl (.sl D (o+2) E (splice l i (List.replicate (j-i) (h ▸ z))))))else none)else none)else none
    |_=>none)
   |none=>none)
  |none=>none)
 |_=>none
def apq{t ty:TypeId}{x:A}{k:S->ah X}(h:IW P σ t x k=some r):∃ dz,k dz=some r/\∀ aj ρ a w,Rl w0 N aj ρ σ a w->∀ u,RA w w0.heap.size aj ρ x u->
  ∃w',(Builtin.clear_ #[t] ty #[u]).run P w = .ok (.tuple #[]) w'/\Rl w0 N aj ρ dz a w':=by
 unfold IW at h;split at h
 ·rename_i q s i j;split at h
  ·rename_i e C pZ;obtain⟨gH,ht,inf,hi,iU,kD⟩:=Ae pZ;split at h
   ·rename_i z U;split at h
    ·rename_i t' g qn l hm;split at h
     ·rename_i od;subst od;cases Y:(Nat.beq s (aE C)&&Nat.beq (full C) 0)with
      |false=>rw[Y]at h;cases h
      | true=>
       rw[Y,au]at h;rw[aS]at Y;obtain rfl:=cK Y.1;have hf:=cK Y.2;split at h
       ·rename_i hb
        refine⟨_,h,λaj ρ a w hR u hu=>?_⟩
        obtain⟨A,n,c,Z,a1,a2,rfl⟩:=hu;unfold Pf at U;split at U
        ·cases U
        ·rename_i D Ff;split at U
         ·cases U
         ·rename_i vs kM;have p6:inf.zero=some D:=by unfold zeroOf at Ff;simpa [hi]using Ff
          obtain⟨p7,kN⟩:=VU _ _ kM;have E:=mZ C (full C) vs z U;have nS:D.cells.size=aE C:=by rw[<-lH C (full C) z,<-E.1,p7];simp
          have hzr:∀w:World,(zeroValue e).run P w = .ok D w:=λw=>by simp[zeroValue,typeInfo,hi,p6]
          rcases Nat.eq_zero_or_pos (j-i)with h0|h0
          ·have vS:splice l i (List.replicate (j-i) z)=l:=by rw[h0];simp[splice]
           refine⟨w,?_,?_⟩
           ·unfold sliced;rw[h0];cases (if c=i then A else A.map (·.add (i*aE C)))<;>simp[Builtin.clear_,ir gH]
           ·show Rl w0 N aj ρ (σ.root q (.sl (.sl C (g+2) qn (splice l i (List.replicate (j-i) z))))) a w;rw[vS];have:σ.root q (.sl (.sl C (g+2) qn l))=σ:=by
             unfold S.root;have:ck σ.m q (some (.sl (.sl C (g+2) qn l)))=σ.m:=by
              funext k;by_cases E:k=q
              ·subst E;rw[cu,hm]
              ·rw[cU _ _ _ E]
             rw[this]
            rw[this];exact hR
          ·have qa:(Builtin.zeroCells D.cells (j-i))=madeCells D.cells ((j-i)*D.cells.size):=rfl;have iQ:xT C (List.replicate (j-i) z) (Builtin.zeroCells D.cells (j-i)).toList:=by
            intro i' h' o' L x O;rw[List.getElem_replicate]at O;have hj:L<aE C:=by have:=(eo.1 O).1;rwa [lH]at this
            rw[jk]at h';have rM:=hj;rw[<-nS]at rM;have jO:(Builtin.zeroCells D.cells (j-i)).toList[i'*aE C+L]?=some D.cells[L]:=by
             rw[qa,Array.getElem?_toList,<-nS];exact acT D.cells _ i' L rM (by
              have:(i'+1)*D.cells.size<=(j-i)*D.cells.size:=iW _ (by omega);rw[iF]at this;omega)
            rw[Fg C hf o' (full C)]at O;have IX:L<(enc C (full C) z).length:=(eo.1 O).1;rw[<-E.1]at IX;have hy:=bY IX;generalize vs[L]=y at hy;obtain⟨v,hv,VV⟩:=kN L y hy;have T:D.cells[L]=v:=by
             have e1:D.cells.toList[L]?=some D.cells[L]:=by simp[rM]
             rw[e1]at hv;injection hv
            have kL:∀(w':World) (B':Nat) (aD:bM) (q':aa Nat),RV w' B' aD q' x v:=λw' B' aD q'=>(acR VV _).wk (E.2 L y x hy O)
            exact⟨_,jO,by rw[T];exact(kL w 0 (λ_=>none) []).one,λw' B' aD q'=>by rw[T];exact kL _ _ _ _⟩
           have rR:(Builtin.zeroCells D.cells (j-i)).toList.length=(List.replicate (j-i) z).length*aE C:=by rw[qa,jk,mA,size_madeCells,nS]
           obtain⟨b,cap,cG,jL,jO,dR⟩:=hR.acX hm hf (p:=i) (ys:=List.replicate (j-i) z) (by rw[jk];omega) (by omega) iQ rR;simp only[dm,cG]at Z;injection Z with Z;injection Z with e1 e2 e3;subst e1 e2 e3;refine⟨_,?_,dR⟩;have gG:sliced (some ⟨b,0,none⟩) i j cap (aE C) = .slice (some ⟨b,i*aE C,none⟩) (j-i) (cap-i):=by
            unfold sliced;rw[bQ,Option.map_some,Addr.add_lit,fT]
           have kP:=run_storeCells_cells (P:=P) b (i*aE C) (Builtin.zeroCells D.cells (j-i)).toList 0 w (λk E=>(jO k E).1) (λk E=>(jO k E).2) (λv hv=>by
            obtain⟨k,E⟩:=List.mem_iff_getElem?.1 hv;have p9:=(eo.1 E).1;rw[rR,jk]at p9;have ug:=pQ C;obtain⟨x,O⟩:=Cx C 0 z (k % aE C) (Nat.mod_lt _ ug);have dQ:k / aE C<(List.replicate (j-i) z).length:=by rw[jk];exact Nat.div_lt_of_lt_mul (by rw[Nat.mul_comm];exact p9)
            obtain⟨v',T,mI,_⟩:=iQ (k / aE C) dQ 0 (k % aE C) x (by rw[List.getElem_replicate];exact O);rw[Nat.mul_comm,Nat.div_add_mod,E]at T;injection T with T;rw[T];exact mI)
           simp only[Nat.add_zero]at kP;rw[gG];obtain⟨n',rN⟩:∃n',j-i=n'+1:=⟨j-i-1,by omega⟩
           rw[rN]at kP ⊢;simp[Builtin.clear_,ir gH,hzr,kP]
       ·cases h
     ·cases h
    ·cases h
   ·cases h
  ·cases h
 ·cases h
def apr{t:TypeId}{x:A}:cS λX k=>IW (X:=X) P σ t x k:=λX Y k g=>by
 unfold IW
 repeat' first|rfl|refine dI ?_ ?_|split
end
def Ag(place:Nat->ah (Nat×Nat))(cells:aa Lf):aa (Nat×A)->ah (aa Lf)
 |[]=>some cells
 | (i,x) :: rest=>match place i,x.z0 with
  |some (off,n),some xs=>if xs.length=n/\off+n<=cells.length then (bif xs.all Lf.live then Ag place (splice cells off xs) rest else none)else none
  |_,_=>none
def acZ(P:Program)(t:TypeId):ah (Nat->ah (Nat×Nat)):=
 match P.underlying t with
 |some (.array _ e)=>(P.info? e).map λC=>λi=>some (i*C.size,C.size)
 |some (.struct fields)=>(fields.toList.mapM (λf=>(P.info? f.type).map λi=>(f.offset,i.size))).map λps=>(ps.toArray[·]?)
 |_=>none
def Fi{X:Type}(P:Program)(σ:S)(t:TypeId)(parts:aa (Nat×Operand))(k:A->ah X):ah X:=
 match zeroOf P t,acZ P t with
 | some z,some pl=>match Ag pl (z.cells.toList.map oQ) (parts.map λp=>(p.1,aP σ p.2))with
  |some cs=>k (.agg cs)
  |none=>none
 |_,_=>none
def Lf.asV:Lf->ah V
 |.v x=>some x
 |_=>none
def v5:aa Lf->ah (aa V)
 |[]=>some []
 | x :: xs=>match x.asV,v5 xs with
  |some y,some ys=>some (y::ys)
  |_,_=>none
def IY(t:TC)(g:Nat):Nat->aa V->ah (aa (T t))
 |0,[]=>some []
 |0,_=>none
 | n+1,C=>match dec t g (C.take (aE t)),IY t g n (C.drop (aE t))with
  |some x,some xs=>some (x::xs)
  |_,_=>none
def Ah{X:Type}(P:Program)(N:Nat)(σ:S)(d:Nat)(t:TypeId)(len:Nat)(parts:aa (Nat×Operand))(k:S->ah X):ah X:=
 match vY P t with
 | some (e,C)=>match zeroOf P e with
  | some z=>bif Nat.beq (full C) 0&&Nat.beq z.cells.size (aE C)&&Nat.blt (len*aE C) 16777217 then (match Ag (λi=>some (i*aE C,aE C)) (List.replicate len (z.cells.toList.map oQ)).flatten (parts.map λp=>(p.1,aP σ p.2))with
   | some cs=>(match v5 cs with
    | some D=>(match IY C 0 len D with
     |some l=>iK N σ d (.sl (.sl C 2 true l)) (.lf (.own [d])) k
     |none=>none)
    |none=>none)
   |none=>none)else none
  |none=>none
 |none=>none
section
variable {P:Program} {w w':World} {w0:Wd} {B N:Nat} {aj aD:bM} {ρ ρ':Nat->Loc} {σ:S} {a:Act} {X:Type} {d:Nat} {r:X}
def ac0(off:Nat):∀ (l:aa Value) (n:Nat) (cs:Array Value),off+n+l.length <= cs.size ->
  ((l.zipIdx n).foldl (λ(cs:Array Value) (p:Value×Nat)=>cs.setIfInBounds (off+p.2) p.1) cs).toList=splice cs.toList (off+n) l
 |[],n,cs,_=>by simp[splice]
 | v :: l,n,cs,h=>by
  simp at h;rw[List.zipIdx_cons,List.foldl_cons,ac0 off l (n+1) _ (by simp;omega)];have C:off+n<cs.toList.length:=by simp;omega
  simp only[splice,Array.toList_setIfInBounds,List.length_cons];have D:(cs.toList.set (off+n) v).take (off+(n+1))=cs.toList.take (off+n)++[v]:=by
   rw[show off+(n+1)=off+n+1 by omega,List.take_succ_eq_append_getElem (by simpa using C),gA,List.take_set_of_le (dW _)]
  have E:(cs.toList.set (off+n) v).drop (off+(n+1)+l.length)=cs.toList.drop (off+(n+1)+l.length):=by
   rw[List.drop_set_of_lt (by omega)]
  grind
def fh.splice{cs xs:aa Lf}{D E:Array Value}(h:fh w B aj ρ cs D)(L:fh w B aj ρ xs E){off:Nat}(O:off+xs.length <= cs.length){T:Array Value}(Y:T.toList=Proofs.YtnilicojgkhpnaaGreat.splice D.toList off E.toList):fh w B aj ρ (Proofs.YtnilicojgkhpnaaGreat.splice cs off xs) T:=by
 have Z:off+E.toList.length <= D.toList.length:=by rw[mA,mA,L.1,h.1];exact O
 refine⟨?_,λj x C=>?_⟩
 ·rw[ua _ _ _ O,<- mA,Y,ua _ _ _ Z,mA,h.1]
 ·have e:T[j]?=(Proofs.YtnilicojgkhpnaaGreat.splice D.toList off E.toList)[j]?:=by rw[<- Y,Array.getElem?_toList]
  rw[e,xN _ _ _ Z,mA,L.1];rw[xN _ _ _ O]at C;by_cases U:j<off
  ·simp[U,Array.getElem?_toList]at C ⊢;exact h.2 j x C
  ·by_cases h2:j<off+xs.length
   ·simp[U,h2,Array.getElem?_toList]at C ⊢;exact L.2 _ x C
   ·simp[U,h2,Array.getElem?_toList]at C ⊢;exact h.2 j x C
def Pp{place:Nat -> ah (Nat×Nat)}:∀ (parts:aa (Nat×A)) (cells:aa Lf) (C:Array Value) (D:aa (Nat×Value)) (out:aa Lf),Ag place cells parts=some out -> fh w B aj ρ cells C -> D.length=parts.length ->
  (∀(j:Nat) p q,parts[j]?=some p -> D[j]?=some q -> p.1=q.1/\RA w B aj ρ p.2 q.2) -> ∃E,Instr.fill place C D=some E/\fh w B aj ρ out E
 | [],cells,C,D,out,h,hR,hl,L=>by
  have:D=[]:=List.eq_nil_of_length_eq_zero hl;subst this;injection h with h;subst h;exact⟨C,rfl,hR⟩
 | (i,x) :: rest,cells,C,D,out,h,hR,hl,L=>by
  cases D with
  |nil=>simp at hl
  | cons v D=>
   obtain⟨i',v⟩:=v;obtain⟨e,O⟩:=L 0 _ _ rfl rfl;simp only at e O;subst e;unfold Ag at h;split at h
   ·rename_i off n xs Y Z;split at h
    ·rename_i hb;cases T:xs.all Lf.live with
     |false=>grind
     | true=>
      rw[T,au]at h;obtain⟨U,_⟩:=IJ Z T O;have IZ:v.cells.size=n:=by rw[U.1];exact hb.1
      have mF:¬ (off+v.cells.size > C.size):=by rw[IZ,hR.1];omega
      have aps:(v.cells.zipIdx.foldl (λ(cs:Array Value) (p:Value×Nat)=>cs.setIfInBounds (off+p.2) p.1) C).toList=Proofs.YtnilicojgkhpnaaGreat.splice C.toList off v.cells.toList:=by
       have:=ac0 off v.cells.toList 0 C (by rw[mA];omega);rw[<- Array.foldl_toList,Array.toList_zipIdx];exact this
      have vS:=hR.splice U (off:=off) (by rw[hb.1];exact hb.2) aps;obtain⟨E,vV,dR⟩:=Pp rest _ _ D out h vS (by simpa using hl) (λj p q hp' Cp=>L (j+1) p q (by simpa using hp') (by simpa using Cp));refine⟨E,?_,dR⟩;have dH:(v.cells.size≠n || off+v.cells.size > C.size)=false:=by
       grind
      simp only[Instr.fill,Y];rw[bQ (by rw[dH];simp)];exact vV
    ·cases h
   ·cases h
def apt(z:Value):fh w B aj ρ (z.cells.toList.map oQ) z.cells:=by
 refine⟨by simp,λj x C=>?_⟩
 rw[ff]at C;cases D:z.cells.toList[j]? with
 |none=>simp_all
 | some v=>
  rw[D]at C;injection C with C;subst C;exact⟨v,by simpa using D,Ph v⟩
def apu{t:TypeId}{parts:Array (Nat×Operand)}{k:A -> ah X}(h:Fi P σ t parts.toList k=some r):∃ y,k y=some r /\ ∀ aj ρ a w,Rl w0 N aj ρ σ a w ->
  ∃v,(Instr.build t (parts.map λ(i,x)=>(i,a.eval x))).run P w = .ok v w/\RA w w0.heap.size aj ρ y v:=by
 unfold Fi at h;split at h
 ·rename_i z pl E C;split at h
  ·rename_i cs gP
   refine⟨_,h,λaj ρ a w hR=>?_⟩
   obtain⟨U,Y,dR⟩:=Pp (w:=w) (B:=w0.heap.size) (aj:=aj) (ρ:=ρ) _ _ z.cells (parts.toList.map λp=>(p.1,a.eval p.2)) cs gP (apt z) (by simp) (λj p q D L=>by
    rw[ff]at D L;cases Z:parts.toList[j]? with
    |none=>rw[Z]at D;cases D
    | some x=>
     rw[Z]at D L;injection D with D;injection L with L;subst D L;exact⟨rfl,hR.aP x.2⟩)
   refine⟨_,run_build (P:=P) w t _ U ?_,U,rfl,dR⟩;have I0:(parts.map λ(i,x)=>(i,a.eval x)).toList=parts.toList.map λp=>(p.1,a.eval p.2):=by simp
   rw[I0];unfold zeroOf at E;unfold Program.built;cases hi:P.info? t with
   |none=>simp[hi]at E
   | some i=>
    have E:i.zero=some z:=by simpa [hi]using E
    unfold acZ at C;split at C
    ·rename_i n e O;cases T:P.info? e with
     |none=>simp[T]at C
     | some ie=>
      rw[T]at C;injection C with C;subst C;simp[O,E,T];exact Y
    ·rename_i fields O;cases D:fields.toList.mapM (λf=>(P.info? f.type).map λi=>(f.offset,i.size))with
     |none=>rw[D]at C;cases C
     | some ps=>
      rw[D]at C;injection C with C;subst C;simp only[O,E,D];exact Y
    ·cases C
  ·cases h
 ·cases h
def Pr:∀ (cs:aa Lf) (C:aa V),v5 cs=some C->cs=C.map .v
 |[],C,h=>by injection h with h;subst h;rfl
 | x :: xs,C,h=>by
  unfold v5 at h;split at h
  next y ys D E=>injection h with h;subst h;rw[Pr xs ys E,List.map_cons];cases x<;>first|(injection D with D;rw[D])|cases D
  ·cases h
def V2(t:TC)(g:Nat):∀ (n:Nat) (C:aa V) (l:aa (T t)),IY t g n C=some l -> l.length=n/\C.length=n*aE t /\ ∀ i (hi:i<l.length) (j:Nat) x,(enc t g l[i])[j]?=some x -> ∃ y,C[i*aE t+j]?=some y/\Wk y x
 | 0,[],l,h=>by
  injection h with h;subst h;exact⟨rfl,by simp,λi hi=>by simp at hi⟩
 |0,_::_,l,h=>by cases h
 | n+1,C,l,h=>by
  unfold IY at h;split at h
  ·rename_i x xs L O;injection h with h;subst h;obtain⟨U,h2,h3⟩:=V2 t g n _ xs O;have D:=mZ t g _ x L;have hlen:(C.take (aE t)).length=aE t:=by rw[D.1,lH]
   have pT:aE t <= C.length:=by rw[fY]at hlen;omega
   refine⟨by simp[U],?_,λi hi j y E=>?_⟩
   ·grind
   ·cases i with
    | zero=>
     have Y:j<aE t:=by have:=(eo.1 E).1;rwa [lH]at this
     have Z:=bY (by rw[hlen];exact Y);refine⟨_,?_,D.2 j _ y Z E⟩;simp_all
    |succ i =>grind
  ·cases h
def RV.under{k:aa Nat}{x:V}{v:Value}{n:Nat}(h:RV w B aj k x v)(E:1<k.length\/x.aF=true)(L:w.heap.size<=w'.heap.size)(hb:∀ b,b<w.heap.size->aj b≠some [n]->w'.heap[b]?=w.heap[b]?)(hl:∀ b,b<w.heap.size->aD b=aj b):RV w' B aD k x v:=
 h.map (Q:=λk D=>k=D/\1<k.length) L (λb C h=>⟨hb b C (by rw[h];simp),(hl b C).trans h⟩) (λb k D C h e=>by
  obtain⟨rfl,e⟩:=e;exact⟨hb b C (by rw[h];rintro⟨⟩;simp at e),(hl b C).trans h,λ_ _ _=>⟨rfl,by simp⟩⟩) (E.symm.imp_right λh=>⟨rfl,h⟩)
def uh(w:World)(B:Nat)(aj:bM)(n C:Nat)(t:TC)(o:Nat)(l:aa (T t))(D:aa Value):Prop:=
 ∀i (hi:i<l.length) j x,(enc t o l[i])[j]?=some x->∃v,D[i*aE t+j]?=some v/\RV w B aj (j::(C+i)::aE t::[n]) x v
def RV.apv{n:Nat}{t:TC}{o:Nat}{C:Bool}{l:aa (T t)}{u:Value}(h:RV w B aj [n] (.sl t (o+2) C l) u){B':Nat}(hB:∀ b,aj b=some [n] -> B' <= b):
  ∃xs,w.ownsRow B' (tid t) (aE t) u l.length xs/\(∀b,u.ownBlock=some b -> aj b=some [n])/\(C=true -> u.ownBlock≠none)/\uh w B aj n 0 t o l xs:=by
 cases h with
 |gd=>omega
 |gq=>omega
 |eU=>exact⟨[],⟨by simp,.inl ⟨rfl,rfl⟩⟩,by simp[Value.ownBlock],by simp,λi hi=>by simp at hi⟩
 |aF _ _ _ _ _ _ _ _ _ ho=>omega
 | own _ _ _ _ _ b cap cs us hl D E L O hc hr=>
  refine⟨cs.toList.take _,⟨?_,.inr ⟨b,cap,cs,rfl,hB b hl,D,L,O.1,E,rfl⟩⟩,λU Y=>?_,λ_=>by simp[Value.ownBlock],λi hi j x Z=>?_⟩
  ·simp_all
  ·have:b=U:=by simpa [Value.ownBlock]using Y
   simp_all
  ·have hj:j<aE t:=by have:=(eo.1 Z).1;rwa [lH]at this
   have dQ:i*aE t+j<l.length*aE t:=by
    have:(i+1)*aE t <= l.length*aE t:=iW _ hi;rw[iF]at this;omega
   grind
def uh.append{n:Nat}{t:TC}{o:Nat}{l l2:aa (T t)}{xs ys:aa Value}(h:uh w B aj n 0 t o l xs)(E:uh w B aj n l.length t o l2 ys)(hl:xs.length=l.length*aE t):uh w B aj n 0 t o (l++l2) (xs++ys):=by
 intro i hi j x C;by_cases D:i<l.length
 ·rw[List.getElem_append_left D]at C;obtain⟨v,L,r⟩:=h i D j x C
  grind
 ·rw[List.getElem_append_right (by omega)]at C;have O:i-l.length<l2.length:=by rw[pM]at hi;omega
  obtain⟨v,L,r⟩:=E _ O j x C;refine⟨v,?_,?_⟩
  ·have e:i*aE t+j=xs.length+((i-l.length)*aE t+j):=by
    rw[ Nat.sub_mul];have:l.length*aE t <= i*aE t:=iW _ (by omega);omega
   grind
  ·grind
def uh.under{n C:Nat}{t:TC}{o:Nat}{l:aa (T t)}{D:aa Value}(h:uh w B aj n C t o l D)(E:w.heap.size<=w'.heap.size)(hb:∀ b,b<w.heap.size->aj b≠some [n]->w'.heap[b]?=w.heap[b]?)(hl:∀ b,b<w.heap.size->aD b=aj b):uh w' B aD n C t o l D:=
 λi hi j x L=>let ⟨v,O,r⟩:=h i hi j x L;⟨v,O,r.under (.inl (by simp)) E hb hl⟩
def ac1{n:Nat}{t:TC}{o:Nat}{l:aa (T t)}{u:Value}{xs:aa Value}{B':Nat}(h:w.ownsRow B' (tid t) (aE t) u l.length xs)(D:uh w B aj n 0 t o l xs)(hl:∀ b,u.ownBlock=some b -> aj b=some [n]):
  RV w B aj [n] (.sl t (o+2) false l) u:=by
 rcases h.2 with ⟨rfl,E⟩|⟨b,cap,cs,rfl,hB,L,O,U,Y,Z⟩
 ·have:=List.eq_nil_of_length_eq_zero E;subst this;exact .eU _ _ _
 ·have qE:∀ i _ j x,(enc t o l[i])[j]?=some x -> ∃ v,cs[i*aE t+j]?=some v/\RV w B aj (j :: i :: aE t :: [n]) x v:=by
   intro i hi j x C;obtain⟨v,hv,r⟩:=D i hi j x C
   grind
  refine .own [n] t o false l b cap cs (λi j=>(cs[i*aE t+j]?).getD undef) (hl b rfl) L Y O ⟨U,λh=>by cases h⟩ (λi hi j x C=>?_) (λi hi j x C=>?_)
  ·grind
  ·grind
def Rl.apw{t e ty:TypeId}{C:TC}{i:TypeInfo}{z:Value}{rr o m c:Nat}{q:Bool}{l l2:aa (T C)}{u:Value}{ad:ah Addr}{news:aa Value}(h:Rl w0 N aj ρ σ a w)(hF:w0.F rr=none)(gH:P.underlying t=some (.slice e))(ht:tid C=e)(hi:P.info? e=some i)(hz:i.zero=some z)
  (iU:i.size=aE C) (kD:i.bytes <= 65536) (nS:z.cells.size=aE C) (hd:RV w w0.heap.size aj [rr] (.sl C (o+2) q l) u) (rQ:Reads w w.heap.size (aE C) ad m news) (mI:∀v∈news,v.oneCell'=true) (hm:m=l2.length)
  (IQ:uh w w0.heap.size aj rr l.length C o l2 news) (hlen:l.length+l2.length<1073741824):
  ∃D w' aD,(Builtin.append_ #[t,t] ty #[u,.slice ad m c]).run P w = .ok D w'/\Rl w0 N aD (ck ρ rr (.eG D)) ((σ.drop rr).root rr (.sl (.sl C (o+2) false (l++l2)))) a w'/\n7 D=true:=by
 subst ht hm;obtain⟨xs,Af,Pu,IP,iQ⟩:=hd.apv (B':=0) (λb _=>fz b);have gO:(l.length+l2.length)*i.bytes <= 140737488355328:=by
  have h1:(l.length+l2.length)*i.bytes <= 1073741824*65536:=Nat.mul_le_mul (by omega) kD;omega
 obtain⟨D,w',dZ,O,L,kO⟩:=Vl (P:=P) w 0 t ty (tid C) i z (aE C) i.bytes gH hi hz iU rfl nS (pQ C) u l.length xs Af _ ad l2.length c news rQ mI (by unfold maxLen;omega) gO (fz _);have IS:(l++l2).length=l.length+l2.length:=pM;rw[<- IS]at O;have Cz:=iQ.append IQ Af.1;have gG:n7 D=true:=by rcases O.2 with ⟨rfl,_⟩|⟨_,_,_,rfl,_⟩<;>rfl
 have U:Below 0 w w':=(Below.refl 0 w).grown L (fz _) (λ_ _=>fz _);have sX:jz w0 w w':=⟨U.os,U.tape,U.output,U.size,λk E hL=>L.block k (Nat.lt_of_lt_of_le E h.below.size) (λe'=>by
  rcases(h.dD k _ (Pu k e'.symm)).1 with h1|h1
  ·exact absurd E (Nat.not_lt.2 h1)
  ·exact h1 hL)⟩
 have Y:∀b,b<w.heap.size -> aj b≠some [rr] -> w'.heap[b]?=w.heap[b]?:=λb hb dH=>L.block b hb (λe'=>dH (Pu b e'.symm))
 by_cases Z:D.ownBlock=some w.heap.size
 ·have dQ:w.heap.size<w'.heap.size:=by
   rcases O.2 with ⟨rfl,_⟩|⟨b,cap,cs,rfl,_,hh,_⟩
   ·cases Z
   ·have:b=w.heap.size:=by simpa [Value.ownBlock]using Z
    grind
  have CD:∀b,b<w.heap.size -> ck aj w.heap.size (some [rr]) b=aj b:=λb hb=>cU _ _ _ (by omega)
  refine⟨D,w',ck aj w.heap.size (some [rr]),dZ,h.Ac hF sX ⟨L.size,Y,CD,λb hb=>(h.dD b [] hb).2.2 rfl⟩ (λb k hb E=>?_) (λr hr=>cU _ _ _ hr) (.sl D _ (cu _ _ _) (ac1 O (Cz.under L.size Y CD) (λb hb=>?_))),gG⟩
  ·by_cases e:b=w.heap.size
   ·subst e;rw[cu]at E
    grind
   ·rw[cU _ _ _ e]at E;have:=(h.dD b k E).2.1;omega
  ·rw[Z]at hb;injection hb with hb;subst hb;exact cu _ _ _
 ·have VY:D.ownBlock=u.ownBlock:=by
   rcases kO with kO|kO
   ·exact kO
   ·exact absurd kO Z
  refine⟨D,w',aj,dZ,h.Ac hF sX ⟨L.size,Y,λ_ _=>rfl,λb hb=>(h.dD b [] hb).2.2 rfl⟩ (λb k hb E=>?_) (λr hr=>cU _ _ _ hr) (.sl D _ (cu _ _ _) (ac1 O (Cz.under L.size Y (λ_ _=>rfl)) (λb hb=>Pu b (by rw[<- VY];exact hb)))),gG⟩
  have:=(h.dD b k E).2.1;omega
end
end Go.Proofs.YtnilicojgkhpnaaGreat
