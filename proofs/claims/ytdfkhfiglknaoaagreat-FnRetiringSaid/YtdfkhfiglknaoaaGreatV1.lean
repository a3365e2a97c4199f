/-
  Running the program over pure contents, and that it follows (part 1). Nothing here is a claim.
-/
import Derived.Test.YtdfkhfiglknaoaaGreatAppend
import Derived.Test.YtdfkhfiglknaoaaGreatLaws
import Derived.Handy
import Derived.Great.BuildSlice
import Derived.ArgAppend
set_option linter.unusedSimpArgs false
namespace Go.Proofs.YtdfkhfiglknaoaaGreat
open Go.RowKit
set_option linter.defProp false
abbrev aa:=List
abbrev ah:=Option
abbrev af:=Unit
def aq:=@cond_true
def eN:=@Bool.or_eq_true
def aP:=@Bool.and_eq_true
def cL:=@Nat.eq_of_beq_eq_true
def dj:=@Nat.le_of_ble_eq_true
def iB:=@List.mem_of_getElem?
def fh:=@List.getElem?_map
def jU:=@Array.getElem?_eq_some_iff
def dc:=@Nat.le_refl
def fB:=@Nat.zero_add
def av:=@cond_false
def ck:=@List.all_eq_true
def bC:=@congrArg
def mz:=@List.any_eq_false
theorem bg.{u}{c:Prop}{h:Decidable c}(k:c:=by omega){α:Sort u}{t e:α}:ite c t e=t:=if_pos k
def fN:=@List.length_map
def jv:=@Array.getD_eq_getD_getElem?
def mR:=@Array.length_toList
theorem bk.{u}{c:Prop}{h:Decidable c}(k:¬c:=by omega){α:Sort u}{t e:α}:ite c t e=e:=if_neg k
def ki:=@List.length_set
def eO:=@List.getElem?_eq_some_iff
def bT:=@List.getElem?_eq_getElem
def jd:=@Nat.mul_le_mul_right
def jV:=@Nat.succ_mul
def jG:=@Nat.zero_le
def gN:=@Sem.run_bind
def mS:=@Result.andThen_ok
def iJ:=@run_underlying
def cQ:=@List.getElem_mem
def mT:=@Nat.ble_eq_true_of_le
def kI:=@Option.some.injEq
def oy:=@List.length_append
def jf:=@List.length_take
def lV:=@List.length_replicate
def mU:=@List.length_cons
def qg:=@List.getElem?_eq_none
def cV:=@List.getD_eq_getElem?_getD
def o5:=@Bool.or_eq_false_iff
def ij:=@Bool.not_eq_true'
def gZ:=@List.mem_cons
def cC:=@Bool.true_and
def jH:=@List.mem_singleton
def kJ:=@List.nil_append
theorem aC.{u}{c:Prop}{h:Decidable c}(k:c:=by omega){α:Sort u}{t:c->α}{e:¬c->α}:dite c t e=t k:=dif_pos k
def ga:=@List.mem_range
def lW:=@List.getElem_range
theorem aW{p:Prop}[Decidable p](k:p:=by omega):decide p=true:=decide_eq_true k
def fU:=@decide_eq_true_eq
def bG:=@Bool.not_true
def jw:=@Int.le_refl
def q8:=@Int.tmod_eq_emod_of_nonneg
theorem aZ{p:Prop}[Decidable p](k:¬p:=by omega):decide p=false:=decide_eq_false k
def bD:=@Int.toNat_natCast
def dH:=@Sum.elim_inl
def cv:=@Int.natCast_zero
def dV:=@Int.eq_ofNat_of_zero_le
def iR:=@List.take_length
def iS:=@beq_self_eq_true
def jI:=@List.mem_iff_getElem
def nO:=@List.findIdx?_eq_some_iff_getElem
def dW:=@List.length_range
def jx:=@Bool.not_false
def sr:=@Int.tdiv_eq_ediv_of_nonneg
def qh:=@decide_eq_false_iff_not
def eZ:=@beq_iff_eq
def ri:=@List.getElem_cons_zero
def mV:=@List.length_singleton
set_option linter.unusedVariables false
set_option linter.unusedSimpArgs false
structure aG where
 bK:Int
 aA:Int
 rows:Int
 aK:Int
structure aM where
 ay:Int
 row:Int
 bV:Int
structure oz where
 order:Int
 hash:Bool
structure aF where
 kind:Int
 ay:Int
 row:Int
 bV:Int
structure cg where
 lX:Int
 rp:Int
 iC:Int
 o6:Int
 lY:Int
 jJ:Int
 o7:Int
 o8:Int
 kj:Int
 wr:Int
 o9:Int
 pg:Int
 su:Int
 pn:Int
 qi:Int
 xp:Int
 xs:Int
structure di where
 open_:Bool
 row:Int
structure bX where
 aA:List di
 aR:Int
structure bW where
 at_:Int
 cmd:aF
structure c9 where
 last:List Int
 aT:List Int
structure bQ where
 symbols:List Int
 jK:Bool
structure cJ where
 cells:List bQ
 bu:List Int
 bq:List Int
structure jh where
 bu:Int
 bq:Int
structure cq where
 rows:List Int
 counts:List Int
 dm:Int
structure dw where
 bL:Int
 map:List Int
structure c8 where
 aJ:List Int
 wait:Int
 dX:Bool
structure aN where
 id:Int
 dM:Int
 line:Int
 write:Bool
 data:Int
 at_:Int
structure cD where
 weight:Int
 fF:Int
structure jy where
 on:Bool
 low:Int
 high:Int
structure fK where
 state:Int
 since:Int
 idle:Int
structure sv where
 down:Int
 sleep:Int
structure cB where
 line:Int
 code:Int
 times:Int
structure lZ where
 next:Int
 every:Int
 wait:Int
structure dz where
 eG:Int
 cap:Int
 eC:Int
 low:Int
 high:Int
 weights:List Int
 de:sv
structure iK where
 cr:dz
 next:dz
 waits:Bool
structure dP where
 au:aG
 bY:cg
 mapping:oz
 bL:Int
 interval:Int
 gO:Int
 dg:jh
structure dA where
 id:Int
 at_:Int
 data:Int
 code:Int
structure ax where
 config:dP
 box:iK
 now:Int
 aO:bX
 ready:c9
 array:cJ
 spare:dw
 aS:c8
 bH:List cq
 guard:List Int
 pending:List aM
 queue:List aN
 shares:List cD
 drain:jy
 aR:fK
 cY:lZ
 errors:List cB
 trace:List bW
 bP:List dA
structure fV where
 kind:Int
 request:aN
 n:Int
 v8:Int
 addr:aM
 fo:dz
structure bO where
 b:List Int
 i:Int
 h:Int
inductive TC where
 |int|u8|bool|str
 |gd
 |Addr
 |tv
 |Command
 |ko
 |kK
 |ji
 |Event
 |oA
 |Cell
 |Array
 |tw
 |jL
 |qj
 |ld
 |dx
 |hD
 |qk
 |Power
 |uF
 |iD
 |sx
 |nP
 |pq
 |Config
 |oB
 |cK
 |Act
 |tA
 |sl (t:TC)
 |mW
 |Cf (g:Nat)
 |Cg (g:Nat)
 |Ch (g:Nat)
 |fnCommand (g:Nat)
deriving DecidableEq
def T:TC->Type
 |.int=>Int
 |.u8=>Int
 |.bool=>Bool
 |.str=>ByteArray
 |.gd=>aG
 |.Addr=>aM
 |.tv=>oz
 |.Command=>aF
 |.ko=>cg
 |.kK=>di
 |.ji=>bX
 |.Event=>bW
 |.oA=>c9
 |.Cell=>bQ
 |.Array=>cJ
 |.tw=>jh
 |.jL=>cq
 |.qj=>dw
 |.ld=>c8
 |.dx=>aN
 |.hD=>cD
 |.qk=>jy
 |.Power=>fK
 |.uF=>sv
 |.iD=>cB
 |.sx=>lZ
 |.nP=>dz
 |.pq=>iK
 |.Config=>dP
 |.oB=>dA
 |.cK=>ax
 |.Act=>fV
 |.tA=>bO
 |.sl t=>aa (T t)
 |.mW=>ax
 |.Cf _=>Int
 |.Cg _=>aN
 |.Ch _=>aM
 |.fnCommand _=>aF
def aH:TC->Nat
 |.mW=>76
 |.Cf _=>3
 |.Cg _=>8
 |.Ch _=>5
 |.fnCommand _=>6
 |.gd=>4
 |.Addr=>3
 |.tv=>2
 |.Command=>4
 |.ko=>17
 |.kK=>2
 |.ji=>2
 |.Event=>5
 |.oA=>2
 |.Cell=>2
 |.Array=>3
 |.tw=>2
 |.jL=>3
 |.qj=>2
 |.ld=>3
 |.dx=>6
 |.hD=>2
 |.qk=>3
 |.Power=>3
 |.uF=>2
 |.iD=>3
 |.sx=>3
 |.nP=>8
 |.pq=>17
 |.Config=>28
 |.oB=>4
 |.cK=>75
 |.Act=>20
 |.tA=>3
 |_=>1
def full:TC->Nat
 |.int|.u8|.bool|.str=>0
 |.gd=>0
 |.Addr=>0
 |.tv=>0
 |.Command=>0
 |.ko=>0
 |.kK=>0
 |.ji=>2
 |.Event=>0
 |.oA=>2
 |.Cell=>2
 |.Array=>4
 |.tw=>0
 |.jL=>2
 |.qj=>2
 |.ld=>2
 |.dx=>0
 |.hD=>0
 |.qk=>0
 |.Power=>0
 |.uF=>0
 |.iD=>0
 |.sx=>0
 |.nP=>2
 |.pq=>2
 |.Config=>0
 |.oB=>0
 |.cK=>4
 |.Act=>2
 |.tA=>2
 |.sl t=>full t+2
 |.mW=>4
 |.Cf _=>0
 |.Cg _=>0
 |.Ch _=>0
 |.fnCommand _=>0
def tid:TC->TypeId
 |.int=>3
 |.u8=>5
 |.bool=>4
 |.str=>9
 |.gd=>25
 |.Addr=>77
 |.tv=>29
 |.Command=>178
 |.ko=>27
 |.kK=>127
 |.ji=>47
 |.Event=>180
 |.oA=>49
 |.Cell=>144
 |.Array=>52
 |.tw=>31
 |.jL=>107
 |.qj=>54
 |.ld=>56
 |.dx=>81
 |.hD=>147
 |.qk=>62
 |.Power=>64
 |.uF=>36
 |.iD=>200
 |.sx=>66
 |.nP=>38
 |.pq=>44
 |.Config=>33
 |.oB=>87
 |.cK=>71
 |.Act=>83
 |.tA=>130
 |.sl .int=>34
 |.sl .bool=>298
 |.sl .str=>0
 |_=>0
inductive V where
 |int (k:IntKind) (n:Int)
 |bool (b:Bool)
 |str (s:ByteArray)
 |nil
 |sl (t:TC) (o:Nat) (q:Bool) (l:List (T t))
def V.br:V->ah Int|.int .i64 n=>some n|_=>none
def V.UI:V->ah Int|.int .u8 n=>some n|_=>none
def V.pz:V->ah Bool|.bool b=>some b|_=>none
def V.UJ:V->ah ByteArray|.str s=>some s|_=>none
def V.fW(t:TC)(o:Nat):V->ah (aa (T t))
 |.sl D C _ l=>bif Nat.beq C o ||(Nat.ble (full t+2) C&&Nat.ble (full t+2) o)then (if h:D=t then some (h ▸ l)else none)else none
 |.nil=>some []
 |_=>none
inductive Wk:V->V->Prop
 |same (x:V):Wk x x
 |nil (t:TC) (o:Nat):Wk .nil (.sl t o false [])
 |q (t:TC) (o:Nat) (l:List (T t)):Wk (.sl t o true l) (.sl t o false l)
 |gr (t:TC) (o o':Nat) (qn:Bool) (l:List (T t)) (h:full t+2<=o) (h':full t+2<=o'):Wk (.sl t o' qn l) (.sl t o false l)
def mA(xs ys:aa V):Prop:=xs.length=ys.length/\∀(j:Nat) (x y:V),xs[j]?=some x->ys[j]?=some y->Wk x y
def mA.nil:mA [] []:=⟨rfl,by simp⟩
def mA.cons{x y:V}{xs ys:aa V}(h:Wk x y)(k:mA xs ys):mA (x :: xs) (y :: ys):=by
 refine⟨by simp[k.1],λj a b C hb=>?_⟩
 cases j with
 |zero=>simp_all
 |succ j=>simp at C hb;exact k.2 j a b C hb
def V.aol{x:V}{n:Int}(h:x.br=some n):Wk x (.int .i64 n):=by
 unfold V.br at h;split at h<;>first|(injection h with h;subst h;exact .same _)|cases h
def V.aom{x:V}{n:Int}(h:x.UI=some n):Wk x (.int .u8 n):=by
 unfold V.UI at h;split at h<;>first|(injection h with h;subst h;exact .same _)|cases h
def V.aon{x:V}{n:Bool}(h:x.pz=some n):Wk x (.bool n):=by
 unfold V.pz at h;split at h<;>first|(injection h with h;subst h;exact .same _)|cases h
def V.aoo{x:V}{n:ByteArray}(h:x.UJ=some n):Wk x (.str n):=by
 unfold V.UJ at h;split at h<;>first|(injection h with h;subst h;exact .same _)|cases h
def V.Io{x:V}{t:TC}{o:Nat}{l:aa (T t)}(h:x.fW t o=some l):Wk x (.sl t o false l):=by
 unfold V.fW at h;split at h
 ·rename_i E C q I;cases hc:(Nat.beq C o || (Nat.ble (full t+2) C&&Nat.ble (full t+2) o))with
  |false=>simp_all
  | true=>
   rw[hc,aq]at h;split at h
   ·rename_i D;subst D;injection h with h;subst h;rw[eN,aP]at hc;rcases hc with hc | hc
    ·obtain rfl:=cL hc;cases q
     ·exact .same _
     ·exact .q _ _ _
    ·exact .gr _ _ _ _ _ (dj hc.2) (dj hc.1)
   ·cases h
 ·injection h with h;subst h;exact .nil _ _
 ·cases h
def EX(x:aM)(o:Nat):aa V:=[.int .i64 x.ay,.int .i64 x.row,.int .i64 x.bV]
def EY(x:aF)(o:Nat):aa V:=[.int .i64 x.kind,.int .i64 x.ay,.int .i64 x.row,.int .i64 x.bV]
def EZ(x:aN)(o:Nat):aa V:=[.int .i64 x.id,.int .i64 x.dM,.int .i64 x.line,.bool x.write,.int .i64 x.data,.int .i64 x.at_]
def E0(x:ax)(o:Nat):aa V:=[.int .i64 x.config.au.bK,.int .i64 x.config.au.aA,.int .i64 x.config.au.rows,.int .i64 x.config.au.aK,.int .i64 x.config.bY.lX,.int .i64 x.config.bY.rp,.int .i64 x.config.bY.iC,.int .i64 x.config.bY.o6,.int .i64 x.config.bY.lY,.int .i64 x.config.bY.jJ,.int .i64 x.config.bY.o7,.int .i64 x.config.bY.o8,.int .i64 x.config.bY.kj,.int .i64 x.config.bY.wr,.int .i64 x.config.bY.o9,.int .i64 x.config.bY.pg,.int .i64 x.config.bY.su,.int .i64 x.config.bY.pn,.int .i64 x.config.bY.qi,.int .i64 x.config.bY.xp,.int .i64 x.config.bY.xs,.int .i64 x.config.mapping.order,.bool x.config.mapping.hash,.int .i64 x.config.bL,.int .i64 x.config.interval,.int .i64 x.config.gO,.int .i64 x.config.dg.bu,.int .i64 x.config.dg.bq,.int .i64 x.box.cr.eG,.int .i64 x.box.cr.cap,.int .i64 x.box.cr.eC,.int .i64 x.box.cr.low,.int .i64 x.box.cr.high,.sl .int o false x.box.cr.weights,.int .i64 x.box.cr.de.down,.int .i64 x.box.cr.de.sleep,.int .i64 x.box.next.eG,.int .i64 x.box.next.cap,.int .i64 x.box.next.eC,.int .i64 x.box.next.low,.int .i64 x.box.next.high,.sl .int o false x.box.next.weights,.int .i64 x.box.next.de.down,.int .i64 x.box.next.de.sleep,.bool x.box.waits,.int .i64 x.now,.sl .kK o false x.aO.aA,.int .i64 x.aO.aR,.sl .int o false x.ready.last,.sl .int o false x.ready.aT,.sl .Cell o false x.array.cells,.sl .int o false x.array.bu,.sl .int o false x.array.bq,.int .i64 x.spare.bL,.sl .int o false x.spare.map,.sl .int o false x.aS.aJ,.int .i64 x.aS.wait,.bool x.aS.dX,.sl .jL o false x.bH,.sl .int o false x.guard,.sl .Addr o false x.pending,.sl .dx o false x.queue,.sl .hD o false x.shares,.bool x.drain.on,.int .i64 x.drain.low,.int .i64 x.drain.high,.int .i64 x.aR.state,.int .i64 x.aR.since,.int .i64 x.aR.idle,.int .i64 x.cY.next,.int .i64 x.cY.every,.int .i64 x.cY.wait,.sl .iD o false x.errors,.sl .Event o false x.trace,.sl .oB o false x.bP]
def enc:(t:TC)->(o:Nat)->T t->aa V
 |.int,_,x=>[.int .i64 x]
 |.u8,_,x=>[.int .u8 x]
 |.bool,_,x=>[.bool x]
 |.str,_,x=>[.str x]
 |.gd,o,x=>[.int .i64 x.bK,.int .i64 x.aA,.int .i64 x.rows,.int .i64 x.aK]
 |.Addr,o,x=>EX x o
 |.tv,o,x=>[.int .i64 x.order,.bool x.hash]
 |.Command,o,x=>EY x o
 |.ko,o,x=>[.int .i64 x.lX,.int .i64 x.rp,.int .i64 x.iC,.int .i64 x.o6,.int .i64 x.lY,.int .i64 x.jJ,.int .i64 x.o7,.int .i64 x.o8,.int .i64 x.kj,.int .i64 x.wr,.int .i64 x.o9,.int .i64 x.pg,.int .i64 x.su,.int .i64 x.pn,.int .i64 x.qi,.int .i64 x.xp,.int .i64 x.xs]
 |.kK,o,x=>[.bool x.open_,.int .i64 x.row]
 |.ji,o,x=>[.sl .kK o false x.aA,.int .i64 x.aR]
 |.Event,o,x=>[.int .i64 x.at_,.int .i64 x.cmd.kind,.int .i64 x.cmd.ay,.int .i64 x.cmd.row,.int .i64 x.cmd.bV]
 |.oA,o,x=>[.sl .int o false x.last,.sl .int o false x.aT]
 |.Cell,o,x=>[.sl .int o false x.symbols,.bool x.jK]
 |.Array,o,x=>[.sl .Cell o false x.cells,.sl .int o false x.bu,.sl .int o false x.bq]
 |.tw,o,x=>[.int .i64 x.bu,.int .i64 x.bq]
 |.jL,o,x=>[.sl .int o false x.rows,.sl .int o false x.counts,.int .i64 x.dm]
 |.qj,o,x=>[.int .i64 x.bL,.sl .int o false x.map]
 |.ld,o,x=>[.sl .int o false x.aJ,.int .i64 x.wait,.bool x.dX]
 |.dx,o,x=>EZ x o
 |.hD,o,x=>[.int .i64 x.weight,.int .i64 x.fF]
 |.qk,o,x=>[.bool x.on,.int .i64 x.low,.int .i64 x.high]
 |.Power,o,x=>[.int .i64 x.state,.int .i64 x.since,.int .i64 x.idle]
 |.uF,o,x=>[.int .i64 x.down,.int .i64 x.sleep]
 |.iD,o,x=>[.int .i64 x.line,.int .i64 x.code,.int .i64 x.times]
 |.sx,o,x=>[.int .i64 x.next,.int .i64 x.every,.int .i64 x.wait]
 |.nP,o,x=>[.int .i64 x.eG,.int .i64 x.cap,.int .i64 x.eC,.int .i64 x.low,.int .i64 x.high,.sl .int o false x.weights,.int .i64 x.de.down,.int .i64 x.de.sleep]
 |.pq,o,x=>[.int .i64 x.cr.eG,.int .i64 x.cr.cap,.int .i64 x.cr.eC,.int .i64 x.cr.low,.int .i64 x.cr.high,.sl .int o false x.cr.weights,.int .i64 x.cr.de.down,.int .i64 x.cr.de.sleep,.int .i64 x.next.eG,.int .i64 x.next.cap,.int .i64 x.next.eC,.int .i64 x.next.low,.int .i64 x.next.high,.sl .int o false x.next.weights,.int .i64 x.next.de.down,.int .i64 x.next.de.sleep,.bool x.waits]
 |.Config,o,x=>[.int .i64 x.au.bK,.int .i64 x.au.aA,.int .i64 x.au.rows,.int .i64 x.au.aK,.int .i64 x.bY.lX,.int .i64 x.bY.rp,.int .i64 x.bY.iC,.int .i64 x.bY.o6,.int .i64 x.bY.lY,.int .i64 x.bY.jJ,.int .i64 x.bY.o7,.int .i64 x.bY.o8,.int .i64 x.bY.kj,.int .i64 x.bY.wr,.int .i64 x.bY.o9,.int .i64 x.bY.pg,.int .i64 x.bY.su,.int .i64 x.bY.pn,.int .i64 x.bY.qi,.int .i64 x.bY.xp,.int .i64 x.bY.xs,.int .i64 x.mapping.order,.bool x.mapping.hash,.int .i64 x.bL,.int .i64 x.interval,.int .i64 x.gO,.int .i64 x.dg.bu,.int .i64 x.dg.bq]
 |.oB,o,x=>[.int .i64 x.id,.int .i64 x.at_,.int .i64 x.data,.int .i64 x.code]
 |.cK,o,x=>E0 x o
 |.Act,o,x=>[.int .i64 x.kind,.int .i64 x.request.id,.int .i64 x.request.dM,.int .i64 x.request.line,.bool x.request.write,.int .i64 x.request.data,.int .i64 x.request.at_,.int .i64 x.n,.int .i64 x.v8,.int .i64 x.addr.ay,.int .i64 x.addr.row,.int .i64 x.addr.bV,.int .i64 x.fo.eG,.int .i64 x.fo.cap,.int .i64 x.fo.eC,.int .i64 x.fo.low,.int .i64 x.fo.high,.sl .int o false x.fo.weights,.int .i64 x.fo.de.down,.int .i64 x.fo.de.sleep]
 |.tA,o,x=>[.sl .u8 o false x.b,.int .i64 x.i,.int .i64 x.h]
 |.sl t,o,x=>[.sl t o false x]
 |.mW,o,x=>.bool true::E0 x o
 |.Cf g,o,x=>.bool false::.int .i64 (g:Int)::[.int .i64 x]
 |.Cg g,o,x=>.bool false::.int .i64 (g:Int)::EZ x o
 |.Ch g,o,x=>.bool false::.int .i64 (g:Int)::EX x o
 |.fnCommand g,o,x=>.bool false::.int .i64 (g:Int)::EY x o
def dF{α β:Type}(g:V->ah β)(f:β->aa V->ah α):aa V->ah α
 |x::cs=>(g x).bind λy=>f y cs
 |[]=>none
def dE{α:Type}(x:α):aa V->ah α
 |[]=>some x
 |_=>none
def V.cw(b:Bool):V->ah Bool|.bool c=>bif c==b then some c else none|_=>none
def V.E1(n:Int):V->ah Int|.int .i64 m=>if m=n then some m else none|_=>none
def DQ{α:Type}(e:α->aa V)(p:aa V->aa V)(d:aa V->ah α):Prop:=∀cs x,d cs=some x->∃L,e x=p L/\mA cs L
def aop{α:Type}{e:α->aa V}{p:aa V->aa V}{x:α}(h:e x=p []):DQ e p (dE x):=λcs y C=>by
 cases cs with
 |nil=>injection C with C;subst C;exact⟨[],h,.nil⟩
 |cons=>cases C
def bind_some{α β:Type}{a:ah α}{f:α -> ah β}{b:β}(h:a.bind f=some b):∃ x,a=some x/\f x=some b:=by
 cases a with
 |none=>cases h
 |some x=>simp_all
def Ci{α β:Type}{e:α->aa V}{p:aa V->aa V}{g:V->ah β}{k:β->V}(D:∀ {x y},g x=some y->Wk x (k y)){f:β->aa V->ah α}(E:∀ y,DQ e (λL=>p (k y :: L)) (f y)):DQ e p (dF g f):=λcs x C=>by
 cases cs with
 |nil=>cases C
 | cons c cs=>
  obtain⟨y,I,O⟩:=bind_some C;obtain⟨L,U,Y⟩:=E y cs x O;exact⟨k y::L,U,.cons (D I) Y⟩
def V.aoq{b:Bool}{x:V}{c:Bool}(h:x.cw b=some c):Wk x (.bool b):=by
 unfold V.cw at h;split at h
 next C=>cases C<;>cases b<;>first|exact .same _|cases h
 ·cases h
def V.aor{n:Int}{x:V}{c:Int}(h:x.E1 n=some c):Wk x (.int .i64 n):=by
 unfold V.E1 at h;split at h
 ·split at h
  next C=>subst C;exact .same _
  ·cases h
 ·cases h
abbrev abB (o:Nat):aa V->ah aM:=dF V.br λC=>dF V.br λD=>dF V.br λE=>dE ⟨C,D,E⟩
abbrev abC (o:Nat):aa V->ah aF:=dF V.br λC=>dF V.br λD=>dF V.br λE=>dF V.br λI=>dE ⟨C,D,E,I⟩
abbrev abD (o:Nat):aa V->ah aN:=dF V.br λC=>dF V.br λD=>dF V.br λE=>dF V.pz λI=>dF V.br λO=>dF V.br λU=>dE ⟨C,D,E,I,O,U⟩
abbrev abE (o:Nat):aa V->ah ax:=dF V.br λC=>dF V.br λD=>dF V.br λE=>dF V.br λI=>dF V.br λO=>dF V.br λU=>dF V.br λY=>dF V.br λx7=>dF V.br λx8=>dF V.br λx9=>dF V.br λxV=>dF V.br λxW=>dF V.br λxX=>dF V.br λxY=>dF V.br λya=>dF V.br λyb=>dF V.br λyc=>dF V.br λIp=>dF V.br λIq=>dF V.br λIr=>dF V.br λUK=>dF V.br λUL=>dF V.pz λUM=>dF V.br λUN=>dF V.br λUO=>dF V.br λUP=>dF V.br λUQ=>dF V.br λUR=>dF V.br λx28=>dF V.br λx29=>dF V.br λx30=>dF V.br λx31=>dF V.br λx32=>dF (V.fW .int o) λx33=>dF V.br λx34=>dF V.br λx35=>dF V.br λx36=>dF V.br λx37=>dF V.br λx38=>dF V.br λx39=>dF V.br λx40=>dF (V.fW .int o) λx41=>dF V.br λx42=>dF V.br λx43=>dF V.pz λx44=>dF V.br λx45=>dF (V.fW .kK o) λx46=>dF V.br λx47=>dF (V.fW .int o) λx48=>dF (V.fW .int o) λx49=>dF (V.fW .Cell o) λx50=>dF (V.fW .int o) λx51=>dF (V.fW .int o) λx52=>dF V.br λx53=>dF (V.fW .int o) λx54=>dF (V.fW .int o) λx55=>dF V.br λx56=>dF V.pz λx57=>dF (V.fW .jL o) λx58=>dF (V.fW .int o) λx59=>dF (V.fW .Addr o) λx60=>dF (V.fW .dx o) λx61=>dF (V.fW .hD o) λx62=>dF V.pz λx63=>dF V.br λx64=>dF V.br λx65=>dF V.br λx66=>dF V.br λx67=>dF V.br λx68=>dF V.br λx69=>dF V.br λx70=>dF V.br λx71=>dF (V.fW .iD o) λx72=>dF (V.fW .Event o) λx73=>dF (V.fW .oB o) λx74=>dE ⟨⟨⟨C,D,E,I⟩,⟨O,U,Y,x7,x8,x9,xV,xW,xX,xY,ya,yb,yc,Ip,Iq,Ir,UK⟩,⟨UL,UM⟩,UN,UO,UP,⟨UQ,UR⟩⟩,⟨⟨x28,x29,x30,x31,x32,x33,⟨x34,x35⟩⟩,⟨x36,x37,x38,x39,x40,x41,⟨x42,x43⟩⟩,x44⟩,x45,⟨x46,x47⟩,⟨x48,x49⟩,⟨x50,x51,x52⟩,⟨x53,x54⟩,⟨x55,x56,x57⟩,x58,x59,x60,x61,x62,⟨x63,x64,x65⟩,⟨x66,x67,x68⟩,⟨x69,x70,x71⟩,x72,x73,x74⟩
def dec:(t:TC)->(o:Nat)->aa V->ah (T t)
 |.int,_=>dF V.br dE
 |.u8,_=>dF V.UI dE
 |.bool,_=>dF V.pz dE
 |.str,_=>dF V.UJ dE
 |.gd,o=>dF V.br λC=>dF V.br λD=>dF V.br λE=>dF V.br λI=>dE ⟨C,D,E,I⟩
 |.Addr,o=>abB o
 |.tv,o=>dF V.br λC=>dF V.pz λD=>dE ⟨C,D⟩
 |.Command,o=>abC o
 |.ko,o=>dF V.br λC=>dF V.br λD=>dF V.br λE=>dF V.br λI=>dF V.br λO=>dF V.br λU=>dF V.br λY=>dF V.br λx7=>dF V.br λx8=>dF V.br λx9=>dF V.br λxV=>dF V.br λxW=>dF V.br λxX=>dF V.br λxY=>dF V.br λya=>dF V.br λyb=>dF V.br λyc=>dE ⟨C,D,E,I,O,U,Y,x7,x8,x9,xV,xW,xX,xY,ya,yb,yc⟩
 |.kK,o=>dF V.pz λC=>dF V.br λD=>dE ⟨C,D⟩
 |.ji,o=>dF (V.fW .kK o) λC=>dF V.br λD=>dE ⟨C,D⟩
 |.Event,o=>dF V.br λC=>dF V.br λD=>dF V.br λE=>dF V.br λI=>dF V.br λO=>dE ⟨C,⟨D,E,I,O⟩⟩
 |.oA,o=>dF (V.fW .int o) λC=>dF (V.fW .int o) λD=>dE ⟨C,D⟩
 |.Cell,o=>dF (V.fW .int o) λC=>dF V.pz λD=>dE ⟨C,D⟩
 |.Array,o=>dF (V.fW .Cell o) λC=>dF (V.fW .int o) λD=>dF (V.fW .int o) λE=>dE ⟨C,D,E⟩
 |.tw,o=>dF V.br λC=>dF V.br λD=>dE ⟨C,D⟩
 |.jL,o=>dF (V.fW .int o) λC=>dF (V.fW .int o) λD=>dF V.br λE=>dE ⟨C,D,E⟩
 |.qj,o=>dF V.br λC=>dF (V.fW .int o) λD=>dE ⟨C,D⟩
 |.ld,o=>dF (V.fW .int o) λC=>dF V.br λD=>dF V.pz λE=>dE ⟨C,D,E⟩
 |.dx,o=>abD o
 |.hD,o=>dF V.br λC=>dF V.br λD=>dE ⟨C,D⟩
 |.qk,o=>dF V.pz λC=>dF V.br λD=>dF V.br λE=>dE ⟨C,D,E⟩
 |.Power,o=>dF V.br λC=>dF V.br λD=>dF V.br λE=>dE ⟨C,D,E⟩
 |.uF,o=>dF V.br λC=>dF V.br λD=>dE ⟨C,D⟩
 |.iD,o=>dF V.br λC=>dF V.br λD=>dF V.br λE=>dE ⟨C,D,E⟩
 |.sx,o=>dF V.br λC=>dF V.br λD=>dF V.br λE=>dE ⟨C,D,E⟩
 |.nP,o=>dF V.br λC=>dF V.br λD=>dF V.br λE=>dF V.br λI=>dF V.br λO=>dF (V.fW .int o) λU=>dF V.br λY=>dF V.br λx7=>dE ⟨C,D,E,I,O,U,⟨Y,x7⟩⟩
 |.pq,o=>dF V.br λC=>dF V.br λD=>dF V.br λE=>dF V.br λI=>dF V.br λO=>dF (V.fW .int o) λU=>dF V.br λY=>dF V.br λx7=>dF V.br λx8=>dF V.br λx9=>dF V.br λxV=>dF V.br λxW=>dF V.br λxX=>dF (V.fW .int o) λxY=>dF V.br λya=>dF V.br λyb=>dF V.pz λyc=>dE ⟨⟨C,D,E,I,O,U,⟨Y,x7⟩⟩,⟨x8,x9,xV,xW,xX,xY,⟨ya,yb⟩⟩,yc⟩
 |.Config,o=>dF V.br λC=>dF V.br λD=>dF V.br λE=>dF V.br λI=>dF V.br λO=>dF V.br λU=>dF V.br λY=>dF V.br λx7=>dF V.br λx8=>dF V.br λx9=>dF V.br λxV=>dF V.br λxW=>dF V.br λxX=>dF V.br λxY=>dF V.br λya=>dF V.br λyb=>dF V.br λyc=>dF V.br λIp=>dF V.br λIq=>dF V.br λIr=>dF V.br λUK=>dF V.br λUL=>dF V.pz λUM=>dF V.br λUN=>dF V.br λUO=>dF V.br λUP=>dF V.br λUQ=>dF V.br λUR=>dE ⟨⟨C,D,E,I⟩,⟨O,U,Y,x7,x8,x9,xV,xW,xX,xY,ya,yb,yc,Ip,Iq,Ir,UK⟩,⟨UL,UM⟩,UN,UO,UP,⟨UQ,UR⟩⟩
 |.oB,o=>dF V.br λC=>dF V.br λD=>dF V.br λE=>dF V.br λI=>dE ⟨C,D,E,I⟩
 |.cK,o=>abE o
 |.Act,o=>dF V.br λC=>dF V.br λD=>dF V.br λE=>dF V.br λI=>dF V.pz λO=>dF V.br λU=>dF V.br λY=>dF V.br λx7=>dF V.br λx8=>dF V.br λx9=>dF V.br λxV=>dF V.br λxW=>dF V.br λxX=>dF V.br λxY=>dF V.br λya=>dF V.br λyb=>dF V.br λyc=>dF (V.fW .int o) λIp=>dF V.br λIq=>dF V.br λIr=>dE ⟨C,⟨D,E,I,O,U,Y⟩,x7,x8,⟨x9,xV,xW⟩,⟨xX,xY,ya,yb,yc,Ip,⟨Iq,Ir⟩⟩⟩
 |.tA,o=>dF (V.fW .u8 o) λC=>dF V.br λD=>dF V.br λE=>dE ⟨C,D,E⟩
 |.sl t,o=>dF (V.fW t o) dE
 |.mW,o=>dF (V.cw true) λ_=>abE o
 |.Cf g,o=>dF (V.cw false) λ_=>dF (V.E1 g) λ_=>dF V.br dE
 |.Cg g,o=>dF (V.cw false) λ_=>dF (V.E1 g) λ_=>abD o
 |.Ch g,o=>dF (V.cw false) λ_=>dF (V.E1 g) λ_=>abB o
 |.fnCommand g,o=>dF (V.cw false) λ_=>dF (V.E1 g) λ_=>abC o
def shp:TC->Nat->aa V
 |.cK,o=>E0 ⟨⟨⟨0,0,0,0⟩,⟨0,0,0,0,0,0,0,0,0,0,0,0,0,0,0,0,0⟩,⟨0,false⟩,0,0,0,⟨0,0⟩⟩,⟨⟨0,0,0,0,0,[],⟨0,0⟩⟩,⟨0,0,0,0,0,[],⟨0,0⟩⟩,false⟩,0,⟨[],0⟩,⟨[],[]⟩,⟨[],[],[]⟩,⟨0,[]⟩,⟨[],0,false⟩,[],[],[],[],[],⟨false,0,0⟩,⟨0,0,0⟩,⟨0,0,0⟩,[],[],[]⟩ o
 |_,_=>[]
def mX(t:TC)(o:Nat)(x:T t):(enc t o x).length=aH t:=by cases t<;>rfl
def pE(t:TC):0<aH t:=by cases t<;>simp[aH]
def aos(t:TC)(o:Nat):DQ (enc t o) id (dec t o):=by
 cases t<;>dsimp only[dec]<;>(repeat' first|exact aop rfl|refine Ci V.aol λ_=>?_|refine Ci V.aon λ_=>?_|refine Ci V.Io λ_=>?_|refine Ci V.aoo λ_=>?_|refine Ci V.aom λ_=>?_|refine Ci V.aoq λ_=>?_|refine Ci V.aor λ_=>?_)
def mY(t:TC)(o:Nat)(cs:aa V)(x:T t)(h:dec t o cs=some x):mA cs (enc t o x):=by
 obtain⟨L,C,D⟩:=aos t o cs x h;rw[C];exact D
def V.low(n:Nat):V->Bool
 |.sl t _ _ _=>Nat.ble (full t+2) n
 |_=>true
def Oo(t:TC)(o:Nat)(x:T t):∀ y∈enc t o x,y.low (full t)=true:=by
 cases t<;>simp[enc,V.low,full,EX,EY,EZ,E0]
def V.plain:V->Bool
 |.int _ _|.bool _|.str _=>true
 |_=>false
def zY(t:TC)(o:Nat)(x:T t)(h:full t=0):∀ y∈enc t o x,y.plain=true:=by
 cases t<;>first|(simp[full]at h;done)|simp[enc,V.plain,EX,EY,EZ]
def V.lu:V->Bool
 |.nil=>false
 |_=>true
def US(t:TC)(o:Nat)(x:T t):∀ y∈enc t o x,y.lu=true:=by
 cases t<;>simp[enc,V.lu,EX,EY,EZ,E0]
def tcs:aa TC:=[.int,.u8,.bool,.str,.sl .int,.sl .bool,.sl .str,.gd,.Addr,.tv,.Command,.ko,.kK,.ji,.Event,.oA,.Cell,.Array,.tw,.jL,.qj,.ld,.dx,.hD,.qk,.Power,.uF,.iD,.sx,.nP,.pq,.Config,.oB,.cK,.Act,.tA]
def abF(e:TypeId):ah TC:=tcs.find? λt=>Nat.beq (tid t) e
def aot{e:TypeId}{t:TC}(h:abF e=some t):tid t=e:=cL (List.find?_some (p:=λt=>Nat.beq (tid t) e) h)
def V.gr(o:Nat):V->Bool
 |.sl _ C _ _=>C==o
 |_=>true
def zZ(t:TC)(o:Nat)(x:T t):∀ y∈enc t o x,y.gr o=true:=by
 cases t<;>simp[enc,V.gr,EX,EY,EZ,E0]
def V.aI:V->Bool
 |.sl _ o _ _=>decide (o<2)
 |_=>true
def V.gT:V->V
 |.sl t _ q l=>.sl t 0 q l
 |x=>x
def aou(t:TC)(o:Nat)(x y:T t):(enc t o x).map (λv=>(v.plain,v.aI))=(enc t o y).map (λv=>(v.plain,v.aI)):=by cases t<;>rfl
def V.aov(x:V):x.gT.aI=true:=by cases x<;>simp[V.gT,V.aI]
def sy(t:TC)(o:Nat)(x:T t)(C:o<2)(j:Nat)(y:V)(h:(enc t o x)[j]?=some y):y.aI=true:=by
 have:=zZ t o x y (iB h);cases y<;>simp_all [V.gr,V.aI]
def abG(t:TC)(o:Nat)(x:T t):enc t 0 x=(enc t o x).map V.gT:=by cases t<;>rfl
def yd(t:TC)(o:Nat)(x:T t)(j:Nat)(y:V)(h:(enc t 0 x)[j]?=some y):∃ z,(enc t o x)[j]?=some z/\y=z.gT:=by
 rw[abG t o x,fh]at h
 grind
def inner:Nat->Nat
 |0=>0
 |1=>1
 |n+2=>n
abbrev bJ:=Nat->ah (aa Nat)
inductive RV (w:World) (B:Nat) (aj:bJ):List Nat->V->Value->Prop
 |int (q:List Nat) (k:IntKind) (n:Int):RV w B aj q (.int k n) (.int k n)
 |bool (q:List Nat) (b:Bool):RV w B aj q (.bool b) (.bool b)
 |str (q:List Nat) (s:ByteArray):RV w B aj q (.str s) (.string s)
 |nil (q:List Nat):RV w B aj q .nil (.slice none 0 0)
 |fq (q:List Nat) (t:TC) (o:Nat):RV w B aj q (.sl t o false []) (.slice none 0 0)
 |gy (q:List Nat) (t:TC) (o:Nat) (A:Addr) (c:Nat) (ho:o<2):RV w B aj q (.sl t o false []) (.slice (some A) 0 c)
 |gL (q:List Nat) (t:TC) (o:Nat) (A:Addr) (c:Nat) (ho:o<2):RV w B aj q (.sl t o true []) (.slice (some A) 0 c)
 | aI (q:List Nat) (t:TC) (o:Nat) (qn:Bool) (l:List (T t)) (b off cap:Nat) (u:Nat->Nat->Value) (ho:o<2) (hl:aj b=none) (hb:b<w.heap.size) (h1:o=1->B<=b) (jM:l.length<=cap)
   (hc:∀i (h:i<l.length) j x,(enc t o l[i])[j]?=some x->w.cell? ⟨b,off+(i*aH t+j),none⟩=some (u i j))
   (hr:∀i (h:i<l.length) j x,(enc t o l[i])[j]?=some x->RV w B aj [] x (u i j)):RV w B aj q (.sl t o qn l) (.slice (some ⟨b,off,none⟩) l.length cap)
 | own (q:List Nat) (t:TC) (o:Nat) (qn:Bool) (l:List (T t)) (b cap:Nat) (cs:Array Value) (u:Nat->Nat->Value) (hl:aj b=some q) (hh:w.heap[b]?=some (.cells cs (tid t) (0,0)))
   (hs:cs.size=cap*aH t) (hn:l.length<=cap) (hm:cap<=maxLen/\(qn=true->cap=l.length))
   (hc:∀i (h:i<l.length) j x,(enc t o l[i])[j]?=some x->cs[i*aH t+j]?=some (u i j))
   (hr:∀i (h:i<l.length) j x,(enc t o l[i])[j]?=some x->RV w B aj (j::i::aH t::q) x (u i j)):RV w B aj q (.sl t (o+2) qn l) (.slice (some ⟨b,0,none⟩) l.length cap)
section
variable {w w':World} {B:Nat} {aj aD:bJ}
def V.Is(n:Nat):V->V
 |.sl t _ q l=>.sl t n q l
 |x=>x
def aow(t:TC)(o n:Nat)(x:T t):enc t n x=(enc t o x).map (V.Is n):=by cases t<;>rfl
def V.fu(n:Nat):V->Prop
 |.sl t o _ _=>full t+2<=o/\full t+2<=n
 |_=>True
def RV.Is{q:aa Nat}{x:V}{v:Value}(h:RV w B aj q x v):∀ n,x.fu n -> RV w B aj q (x.Is n) v:=by
 induction h with
 |int=>exact λ_ _=>.int _ _ _
 |bool=>exact λ_ _=>.bool _ _
 |str=>exact λ_ _=>.str _ _
 |nil=>exact λ_ _=>.nil _
 |fq=>exact λ_ _=>.fq _ _ _
 |gy q t o A c I=>exact λn C=>by have:=C.1;omega
 |gL q t o A c I=>exact λn C=>by have:=C.1;omega
 |aI q t o O l b off cap u I hl hb U jM Y hr ih=>exact λn C=>by have:=C.1;omega
 | own q t o O l b cap cs u hl hh hs C hm Y hr ih=>
  intro n hf;obtain⟨U,h2⟩:=hf;obtain⟨m,rfl⟩:∃m,n=m+2:=⟨n-2,by omega⟩
  have key:∀ (i:Nat) (h:i<l.length) (j:Nat) (x:V),(enc t m l[i])[j]?=some x -> ∃ y:V,(enc t o l[i])[j]?=some y/\y.Is m=x/\y.fu m:=by
   intro i h j x D;rw[aow t o m l[i],fh]at D;cases E:(enc t o l[i])[j]? with
   |none=>simp_all
   | some y=>
    rw[E]at D;injection D with D;refine⟨y,rfl,D,?_⟩;have g1:=zZ t o l[i] y (iB E);have g2:=Oo t o l[i] y (iB E);cases y with
    | sl t' o' q' l'=>
     have e:o'=o:=by simpa [V.gr]using g1
     have:=dj (show Nat.ble _ _=true from g2);exact⟨by omega,by omega⟩
    |_=>trivial
  refine .own _ _ _ _ _ _ _ cs u hl hh hs C hm (λi h j x D=>?_) (λi h j x D=>?_)
  ·grind
  ·grind
def RV.wk{q:aa Nat}{x y:V}{v:Value}(h:RV w B aj q x v)(k:Wk x y):RV w B aj q y v:=by
 cases k with
 |same=>exact h
 |nil t o=>cases h;exact .fq _ _ _
 | gr t o o' I l O h2=>
  have h:=h.Is o ⟨h2,O⟩;cases h with
  |fq=>exact .fq _ _ _
  |gy q t o A c C=>grind
  |gL q t o A c C=>grind
  |aI q t o I l b off cap u C hl hb O jM D E=>grind
  |own q t o I l b cap cs u hl U Y hn hm D E=>exact .own _ _ _ _ _ _ _ cs u hl U Y hn ⟨hm.1,λh=>by cases h⟩ D E
 | q t o l=>
  cases h with
  |gL q t o A c C=>exact .gy _ _ _ _ _ C
  |aI q t o I l b off cap u C hl hb O jM D E=>exact .aI _ _ _ _ _ _ _ _ u C hl hb O jM D E
  |own q t o I l b cap cs u hl U Y hn hm D E=>exact .own _ _ _ _ _ _ _ cs u hl U Y hn ⟨hm.1,λh=>by cases h⟩ D E
def RV.map{Q:aa Nat->aa Nat->Prop}(hz:w.heap.size<=w'.heap.size)(h0:∀ b,b<w.heap.size->aj b=none->w'.heap[b]?=w.heap[b]?/\aD b=none)
  (h1:∀b q C,b<w.heap.size->aj b=some q->Q q C->w'.heap[b]?=w.heap[b]?/\aD b=some C/\∀j i s,Q (j::i::s::q) (j::i::s::C)) {q C:aa Nat} {x:V} {v:Value} (h:RV w B aj q x v) (hq:x.aI=true\/Q q C):RV w' B aD C x v:=by
 induction h generalizing C with
 |int=>exact .int _ _ _
 |bool=>exact .bool _ _
 |str=>exact .str _ _
 |nil=>exact .nil _
 |fq=>exact .fq _ _ _
 |gy _ _ _ _ _ D=>exact .gy _ _ _ _ _ D
 |gL _ _ _ _ _ D=>exact .gL _ _ _ _ _ D
 | aI q t o qn l b off cap u D hl hb h1' jM I hr O=>
  obtain⟨U,Y⟩:=h0 b hb hl;exact .aI _ _ _ _ _ _ _ _ u D Y (Nat.lt_of_lt_of_le hb hz) h1' jM (λi h j x E=>(World.cell?_of_block (a:=⟨b,_,none⟩) U).trans (I i h j x E)) (λi h j x E=>O i h j x E (.inl (sy t o l[i] D j x E)))
 | own q t o qn l b cap cs u hl hh hs hn hm I hr O=>
  obtain⟨U,Y,e3⟩:=h1 b q C (jU.1 hh).1 hl (hq.resolve_left (by simp[V.aI]));exact .own _ _ _ _ _ _ _ cs u Y (U.trans hh) hs hn hm I (λi h j x E=>O i h j x E (.inr (e3 _ _ _)))
def RV.abH{q C:aa Nat}{x:V}{v:Value}(h:RV w B aj q x v)(D:x.aI=true)(hl:∀ b,aj b=none->aD b=none):RV w B aD C x v:=
 h.map (Q:=λ_ _=>False) (dc _) (λb _ h=>⟨rfl,hl b h⟩) (λ_ _ _ _ _ h=>h.elim) (.inl D)
def RV.Oq{q:aa Nat}{x:V}{v:Value}(h:RV w B aj q x v)(C:x.aI=true)(hl:∀b,aj b=none->aD b=none):RV w B aD q x v:=h.abH C hl
def RV.key{q C:aa Nat}{x:V}{v:Value}(h:RV w B aj q x v)(D:x.aI=true):RV w B aj C x v:=h.abH D λ_ h=>h
def pF:Value->Bool
 |.slice ..=>true
 |_=>false
def RV.UT{q:aa Nat}{x:V}{u:Value}(h:RV w B aj q x u)(C:x.aI=false):pF u=true:=by
 cases h<;>first|rfl|cases C
def RV.one{q:aa Nat}{x:V}{u:Value}(h:RV w B aj q x u):u.oneCell'=true:=by
 cases h<;>rfl
def RV.nQ{q:aa Nat}{x:V}{v:Value}(h:RV w B aj q x v)(D:w.heap.size<=w'.heap.size)(C:∀ b,b<w.heap.size->w'.heap[b]?=w.heap[b]?/\aD b=aj b):RV w' B aD q x v:=
 h.map (Q:=Eq) D (λb hb hl=>⟨(C b hb).1,(C b hb).2.trans hl⟩) (λb q E hb hl e=>by subst e;exact⟨(C b hb).1,(C b hb).2.trans hl,λ_ _ _=>rfl⟩) (.inr rfl)
def RV.apart{q kt:aa Nat}{x:V}{v:Value}{bt:Nat}(h:RV w B aj q x v)(C:aj bt=some kt)(I:¬ q <:+ kt\/x.aI=true)(O:w.heap.size<=w'.heap.size)(D:∀ b,b≠bt->w'.heap[b]?=w.heap[b]?):RV w' B aj q x v:=
 h.map (Q:=λq E=>q=E/\¬ q <:+ kt) O (λb _ hl=>⟨D b (by rintro rfl;rw[hl]at C;cases C),hl⟩) (λb q E _ hl e=>by
  obtain⟨rfl,e⟩:=e;exact⟨D b (by rintro rfl;rw[hl]at C;injection C with C;subst C;exact e (List.suffix_refl _)),hl,λj i s=>⟨rfl,λU=>e (List.IsSuffix.trans ⟨[j,i,s],rfl⟩ U)⟩⟩) (I.symm.imp_right λh=>⟨rfl,h⟩)
def RV.gT{q E:aa Nat}{x:V}{v:Value}(h:RV w B aj q x v){B':Nat}:RV w B' (λ_=>none) E x.gT v:=by
 induction h generalizing E with
 |int=>exact .int _ _ _
 |bool=>exact .bool _ _
 |str=>exact .str _ _
 |nil=>exact .nil _
 |fq=>exact .fq _ _ _
 |gy=>exact .gy _ _ _ _ _ (by first|assumption|omega)
 |gL=>exact .gL _ _ _ _ _ (by first|assumption|omega)
 | aI q t o U l b off cap u ho hl hb h1 Y I hr ih=>
  refine .aI _ _ _ _ _ _ _ _ u (by omega) rfl hb (by omega) Y (λi h j x C=>?_) (λi h j x C=>?_)
  ·obtain⟨y,D,_⟩:=yd t o l[i] j x C;simp_all
  ·obtain⟨y,D,rfl⟩:=yd t o l[i] j x C;simp_all
 | own q t o U l b cap cs u hl O hs hn hm I hr ih=>
  refine .aI _ _ _ _ _ _ _ _ u (by omega) rfl (jU.1 O).1 (by omega) hn (λi h j x C=>?_) (λi h j x C=>?_)
  ·obtain⟨y,D,_⟩:=yd t o l[i] j x C;have:=I i h j y D;rw[fB,cell_of_row w b _ cs _ _ O];exact this
  ·obtain⟨y,D,rfl⟩:=yd t o l[i] j x C;simp_all
end
set_option linter.unusedVariables false
inductive Lf where
 |v (x:V)
 |own (k:List Nat)
 |dead
inductive A where
 |undef
 |skip
 |lf (x:Lf)
 |agg (cs:List Lf)
 |fO (xs:List (Bool×List Lf))
 |ptr (k:List Nat)
 |aE (r j:Nat)
 |jW (cs:List V)
 |oC (f:Nat) (cs:List V)
 |pk (r n:Nat)
 |view (k:List Nat) (s i j:Nat)
 |fn (f:Nat) (cap:List (Nat×Nat))
inductive aX where
 |aB (cs:List Lf)
 |sl (y:V)
 |mp (l:List (Int×Bool))
 |gh (xs:List A)
structure S where
 t:Nat->A
 m:Nat->Option aX
inductive Loc where
 |aB (b off:Nat)
 |eU (v:Value)
 |cE (us:List Value)
def addrAt(w:World)(aj:bJ)(ρ:Nat->Loc):aa Nat->ah Addr
 | j :: i :: s :: [r]=>match ρ r with
  |.eU (.slice (some ⟨b,0,none⟩) _ _)=>if aj b=some [r]then some ⟨b,i*s+j,none⟩else none
  |_=>none
 | j :: i :: s :: q=>match (addrAt w aj ρ q).bind w.cell? with
  |some (.slice (some ⟨b,0,none⟩) _ _)=>if aj b=some q then some ⟨b,i*s+j,none⟩else none
  |_=>none
 |_=>none
def dn(w:World)(aj:bJ)(ρ:Nat->Loc):aa Nat->ah Value
 | [r]=>match ρ r with
  |.eU v=>some v
  |_=>none
 |q=>(addrAt w aj ρ q).bind w.cell?
def eS(w:World)(B:Nat)(aj:bJ)(ρ:Nat->Loc):Lf->Value->Prop
 |.v x,u=>x.aI=true/\RV w B aj [] x u
 |.own k,u=>pF u=true/\dn w aj ρ k=some u
 |.dead,_=>True
def fy(w:World)(B:Nat)(aj:bJ)(ρ:Nat->Loc)(cs:aa Lf)(us:Array Value):Prop:=
 us.size=cs.length/\∀(j:Nat) x,cs[j]?=some x->∃u,us[j]?=some u/\eS w B aj ρ x u
def RP(w:World)(B:Nat)(aj:bJ)(ρ:Nat->Loc)(p:Bool×aa Lf)(u:Value):Prop:=
 match p with
 |(true,cs)=>∃us,u = .agg us/\fy w B aj ρ cs us
 |(false,cs)=>fy w B aj ρ cs #[u]
def sA:Nat:=4294967296
def Ot(b n:Nat):Value:=bif Nat.beq n sA then .map (some b)else .slice (some ⟨b,0,none⟩) n n
def UU{b n:Nat}(h:n<sA):Ot b n = .slice (some ⟨b,0,none⟩) n n:=by
 unfold Ot;cases hb:Nat.beq n sA with
 |true=>simp_all
 |false=>rfl
def UW(b:Nat):Ot b sA = .map (some b):=rfl
def RF(w:World)(B:Nat)(aj:bJ)(cs:aa V)(u:Value):Prop:=
 ∃b off,u = .pointer (some ⟨b,off,none⟩)/\b<w.heap.size/\aj b=none/\∀(j:Nat) x,cs[j]?=some x->x.aI=true/\∃v,w.cell? ⟨b,off+j,none⟩=some v/\RV w B aj [] x v
def RA(w:World)(B:Nat)(aj:bJ)(ρ:Nat->Loc):A->Value->Prop
 |.undef,_=>True
 |.skip,u=>u=Go.undef
 |.lf x,u=>eS w B aj ρ x u
 |.agg cs,u=>RP w B aj ρ (true,cs) u
 |.fO xs,u=>∃us:Array Value,u = .tuple us/\us.size=xs.length/\∀(j:Nat) p,xs[j]?=some p->∃v,us[j]?=some v/\RP w B aj ρ p v
 |.ptr k,u=>∃ad,u = .pointer (some ad)/\addrAt w aj ρ k=some ad
 |.aE r j,u=>∃b off,ρ r = .aB b off/\u = .pointer (some ⟨b,off+j,none⟩)
 |.jW cs,u=>RF w B aj cs u
 |.oC f cs,u=>∃pv,u = .func (.func f) #[] #[pv]/\RF w B aj cs pv
 |.pk r n,u=>∃b,ρ r = .aB b 0/\u=Ot b n
 |.view k s i j,u=>∃A n c,dn w aj ρ k=some (.slice A n c)/\i<=j/\j<=n/\u=sliced A i j c s
 |.fn f cap,u=>∃C:Array Value,u = .func (.func f) #[] C/\C.size=cap.length/\∀(j:Nat) p,cap[j]?=some p->∃b off,ρ p.1 = .aB b off/\C[j]?=some (.pointer (some ⟨b,off+p.2,none⟩))
inductive eV (w:World) (B:Nat) (aj:bJ) (ρ:Nat->Loc) (r:Nat):aX->Prop
 | aB (b off:Nat) (cells:Array Value) (e:TypeId) (cs:List Lf) (us:Nat->Value) (cu:ρ r = .aB b off) (hl:aj b=some [r]) (hh:w.heap[b]?=some (.cells cells e (0,0))) (hs:off+cs.length<=cells.size)
   (hc:∀(j:Nat) x,cs[j]?=some x->cells[off+j]?=some (us j)/\eS w B aj ρ x (us j)):eV w B aj ρ r (.aB cs)
 |sl (v:Value) (y:V) (cu:ρ r = .eU v) (hr:RV w B aj [r] y v):eV w B aj ρ r (.sl y)
 |mp (b clock:Nat) (es:Array MapEntry) (l:List (Int×Bool)) (cu:ρ r = .aB b 0) (hl:aj b=some [r]) (hh:w.heap[b]?=some (.map es clock)) (he:es.toList.map (λe=>(e.key,e.val))=l.map λp=>(.int .i64 p.1,.bool p.2)):eV w B aj ρ r (.mp l)
 |gh (us:List Value) (xs:List A) (cu:ρ r = .cE us) (hx:∀(j:Nat) x,xs[j]?=some x->RA w B aj ρ x (us.getD j undef)):eV w B aj ρ r (.gh xs)
def Qw(_:World):Prop:=True
structure aox (n:Nat) (L:bJ) (w w':World):Prop where
 os:w'.os=w.os
 tape:w'.tape=w.tape
 output:w'.output=w.output
 size:w.heap.size<=w'.heap.size
 block:∀k,k<n->L k=none->w'.heap[k]?=w.heap[k]?
def Hd(w:World)(L:bJ):Prop:=∀w',aox w.heap.size L w w'->Qw w'
def aoy(w:World)(L:bJ):Hd w L:=λ_ _=>trivial
structure Wd where
 w:World
 L:bJ
 F:Nat->Option Loc
 held:Hd w L
 low:∀r,r<20000->F r=none
def Wd.heap(d:Wd):Array Obj:=d.w.heap
def Wd.of(w:World)(h:Hd w λ_=>none):Wd:=⟨w,λ_=>none,λ_=>none,h,λ_ _=>rfl⟩
structure lz (d:Wd) (w w':World):Prop where
 os:w'.os=w.os
 tape:w'.tape=w.tape
 output:w'.output=w.output
 size:w.heap.size<=w'.heap.size
 block:∀k,k<d.heap.size->d.L k=none->w'.heap[k]?=w.heap[k]?
def lz.trans{d:Wd}{a b c:World}(h:lz d a b)(k:lz d b c):lz d a c:=
 ⟨k.os.trans h.os,k.tape.trans h.tape,k.output.trans h.output,Nat.le_trans h.size k.size,λi hi hl=>(k.block i hi hl).trans (h.block i hi hl)⟩
def Wd.on(d:Wd){w:World}(h:lz d d.w w){L:bJ}(D:∀ b k,L b=some k->d.heap.size<=b\/d.L b≠none):Hd w L:=λw' hb=>
 d.held w' ⟨hb.os.trans h.os,hb.tape.trans h.tape,hb.output.trans h.output,Nat.le_trans h.size hb.size,λk C hl=>by
  have e:L k=none:=by
   cases e:L k with
   |none=>rfl
   | some q=>
    rcases D k q e with h1|h1
    ·exact absurd C (Nat.not_lt.2 h1)
    ·exact absurd hl h1
  exact(hb.block k (Nat.lt_of_lt_of_le C h.size) e).trans (h.block k C hl)⟩
def lz.of{d:Wd}{a b:World}{B:Nat}(h:Below B a b)(hB:d.heap.size<=B):lz d a b:=
 ⟨h.os,h.tape,h.output,h.size,λi hi _=>h.block i (Nat.lt_of_lt_of_le hi hB)⟩
structure Rl (w0:Wd) (N:Nat) (aj:bJ) (ρ:Nat->Loc) (σ:S) (a:Act) (w:World):Prop where
 below:lz w0 w0.w w
 dI:∀b k,aj b=some k->(w0.heap.size<=b\/w0.L b≠none)/\b<w.heap.size/\k≠[]
 root:∀r x,σ.m r=some x->eV w w0.heap.size aj ρ r x
 tmp:∀k,RA w w0.heap.size aj ρ (σ.t k) (a.tmps.getD k undef)
 size:a.tmps.size=N
 defers:a.defers=[]
 fix:∀r l,w0.F r=some l->ρ r=l
 dY:∀r,(r<N\/60000<=r)->w0.F r=none
def R(w0:Wd)(N:Nat)(σ:S)(a:Act)(w:World):Prop:=∃aj ρ,Rl w0 N aj ρ σ a w
/-! Reading along a key. -/
inductive z0 (m:Nat->Option aX):List Nat->V->Prop
 |root (r:Nat) (y:V) (h:m r=some (.sl y)):z0 m [r] y
 |elem (j i:Nat) (q:List Nat) (t:TC) (o:Nat) (qn:Bool) (l:List (T t)) (y:V) (h:z0 m q (.sl t (o+2) qn l)) (hi:i<l.length) (hy:(enc t o l[i])[j]?=some y):z0 m (j::i::aH t::q) y
section
variable {w w':World} {w0:Wd} {B N:Nat} {aj aD:bJ} {ρ ρ':Nat->Loc} {m:Nat->ah aX} {σ:S} {a:Act}
def E2{q:aa Nat}(j i s:Nat){b n c:Nat}(h:dn w aj ρ q=some (.slice (some ⟨b,0,none⟩) n c))(hl:aj b=some q):addrAt w aj ρ (j :: i :: s :: q)=some ⟨b,i*s+j,none⟩:=by
 match q,h,hl with
 | [r],h,hl=>
  simp[dn]at h;simp[addrAt]
  grind
 | x :: y :: q,h,hl=>
  simp[dn]at h;simp[addrAt,h,hl,if_true]
def UX{j i s:Nat}{q:aa Nat}:dn w aj ρ (j::i::s::q)=(addrAt w aj ρ (j::i::s::q)).bind w.cell?:=rfl
def z0.ok{k:aa Nat}{y:V}(h:z0 m k y)(D:∀ r x,m r=some x -> eV w B aj ρ r x):∃ u,dn w aj ρ k=some u/\RV w B aj k y u:=by
 induction h with
 | root r y h=>
  cases D _ _ h with
  |sl v y E C=>exact⟨v,by simp[dn,E],C⟩
 | elem j i q t o qn l y h hi I O=>
  obtain⟨u,U,C⟩:=O;cases C with
  |fq=>simp at hi
  |gy=>simp at hi
  |gL=>simp at hi
  |aI _ _ _ _ _ _ _ _ _ ho=>omega
  | own _ _ _ _ _ b cap cs us hl Y hs hn D hc C=>
   refine⟨us i j,?_,C i hi j y I⟩;rw[UX,E2 j i _ U hl];show w.cell? _=_;rw[cell_of_row w b _ cs _ _ Y];simp_all
def Cj:∀ (k:aa Nat) (ad:Addr),addrAt w aj ρ k=some ad -> ∃ j i s q,k=j :: i :: s :: q/\aj ad.block=some q/\ad.off=i*s+j/\ad.spot=none/\(∀ r,q=[r] -> ∃ v,ρ r = .eU v)
 |[],_,h=>by simp[addrAt]at h
 | [j,i,s,r],ad,h=>by
  simp only[addrAt]at h
  grind
 | j :: i :: s :: x :: y :: q,ad,h=>by
  simp only[addrAt]at h
  grind
/-! What is forgotten: keys of leaves,of addresses,roots. -/
structure oD where
 l:List Nat->Bool
 p:List Nat->Bool
 r:Nat->Bool
def Lf.cG(f:aa Nat->Bool):Lf->Lf
 |.own k=>bif f k then .dead else .own k
 |x=>x
def A.cG(K:oD):A->A
 |.lf x=>.lf (x.cG K.l)
 |.agg cs=>.agg (cs.map (Lf.cG K.l))
 |.fO xs=>.fO (xs.map λp=>(p.1,p.2.map (Lf.cG K.l)))
 |.ptr k=>bif K.p k then .undef else .ptr k
 |.aE r j=>bif K.r r then .undef else .aE r j
 |.pk r n=>bif K.r r then .undef else .pk r n
 |.view k s i j=>bif K.p k then .undef else .view k s i j
 |.fn f cap=>bif cap.any (λp=>K.r p.1)then .undef else .fn f cap
 |x=>x
def aX.cG(K:oD):aX->aX
 |.aB cs=>.aB (cs.map (Lf.cG K.l))
 |.gh xs=>.gh (xs.map (A.cG K))
 |x=>x
/-! What names nothing that is forgotten. -/
def Lf.fr(f:aa Nat->Bool):Lf->Bool
 |.own k=>!f k
 |_=>true
def A.fr(K:oD):A->Bool
 |.lf x=>x.fr K.l
 |.agg cs=>cs.all (Lf.fr K.l)
 |.fO xs=>xs.all λq=>q.2.all (Lf.fr K.l)
 |.ptr k=>!K.p k
 |.aE r _=>!K.r r
 |.pk r _=>!K.r r
 |.view k _ _ _=>!K.p k
 |.fn _ cap=>cap.all λq=>!K.r q.1
 |_=>true
def Lf.qm{f:aa Nat->Bool}{x:Lf}(h:x.fr f=true):x.cG f=x:=by
 cases x with
 |own k=>simp only[Lf.cG,show f k=false by simpa [Lf.fr]using h,av]
 |_=>rfl
def sB.qm{f:aa Nat->Bool}{cs:aa Lf}(h:cs.all (Lf.fr f)=true):cs.map (Lf.cG f)=cs:=
 (List.map_congr_left λx C=>Lf.qm (ck.1 h x C)).trans (List.map_id cs)
def A.qm{K:oD}{x:A}(h:x.fr K=true):x.cG K=x:=by
 cases x with
 |lf x=>exact bC A.lf (Lf.qm h)
 |agg cs=>exact bC A.agg (sB.qm h)
 |fO xs=>exact bC A.fO ((List.map_congr_left λq C=>by rw[sB.qm (ck.1 h q C)];rfl).trans (List.map_id xs))
 |ptr k=>simp only[A.cG,show K.p k=false by simpa [A.fr]using h,av]
 |view k=>simp only[A.cG,show K.p k=false by simpa [A.fr]using h,av]
 |aE r=>simp only[A.cG,show K.r r=false by simpa [A.fr]using h,av]
 |pk r=>simp only[A.cG,show K.r r=false by simpa [A.fr]using h,av]
 |fn f cap=>simp only[A.cG,show (cap.any λp=>K.r p.1)=false from mz.2 λp D=>by simpa using ck.1 h p D,av]
 |_=>rfl
def Lf.tC{f g:aa Nat->Bool}(hl:∀ k,f k=true->g k=true){x:Lf}(h:x.fr g=true):x.fr f=true:=by
 cases x with
 | own k=>
  have h:(!g k)=true:=h;show (!f k)=true;cases C:f k with
  |false=>rfl
  |true=>rw[hl k C]at h;cases h
 |_=>rfl
def A.tC{K J:oD}(hl:∀ k,K.l k=true->J.l k=true)(I:∀ k,K.p k=true->J.p k=true)(O:∀ r,K.r r=true->J.r r=true){x:A}(h:x.fr J=true):x.fr K=true:=by
 have C:∀r,(!J.r r)=true->(!K.r r)=true:=λr h=>Lf.tC (x:=.own []) (f:=λ_=>K.r r) (λ_=>O r) h
 cases x with
 |lf x=>exact Lf.tC hl h
 |agg cs=>exact ck.2 λc D=>Lf.tC hl (ck.1 h c D)
 |fO xs=>exact ck.2 λq E=>ck.2 λc D=>Lf.tC hl (ck.1 (ck.1 h q E) c D)
 |ptr k=>exact Lf.tC (x:=.own k) I h
 |view k=>exact Lf.tC (x:=.own k) I h
 |aE r=>exact C r h
 |pk r=>exact C r h
 |fn f cap=>exact ck.2 λq E=>C _ (ck.1 h q E)
 |_=>rfl
def Lf.qp(x:Lf)(f g:aa Nat->Bool):(x.cG f).cG g=(x.cG g).cG f:=by
 cases x with
 |own k=>cases C:f k<;>cases D:g k<;>simp[Lf.cG,C,D]
 |_=>rfl
def sB.qp(cs:aa Lf)(f g:aa Nat->Bool):(cs.map (Lf.cG f)).map (Lf.cG g)=(cs.map (Lf.cG g)).map (Lf.cG f):=by
 rw[List.map_map,List.map_map];exact List.map_congr_left λx _=>Lf.qp x f g
def A.qp(x:A)(K J:oD):(x.cG K).cG J=(x.cG J).cG K:=by
 cases x with
 |lf x=>exact bC A.lf (Lf.qp x _ _)
 |agg cs=>exact bC A.agg (sB.qp cs _ _)
 | fO xs=>
  refine bC A.fO ?_;rw[List.map_map,List.map_map];exact List.map_congr_left λq _=>bC (Prod.mk q.1) (sB.qp q.2 _ _)
 |ptr k=>cases C:K.p k<;>cases D:J.p k<;>simp[A.cG,C,D]
 |view k=>cases C:K.p k<;>cases D:J.p k<;>simp[A.cG,C,D]
 |aE r=>cases C:K.r r<;>cases D:J.r r<;>simp[A.cG,C,D]
 |pk r=>cases C:K.r r<;>cases D:J.r r<;>simp[A.cG,C,D]
 |fn f cap=>cases C:(cap.any λp=>K.r p.1)<;>cases D:(cap.any λp=>J.r p.1)<;>simp only[A.cG,C,D,aq,av]
 |_=>rfl
def aX.qp(x:aX)(K J:oD):(x.cG K).cG J=(x.cG J).cG K:=by
 cases x with
 |aB cs=>exact bC aX.aB (sB.qp cs _ _)
 | gh xs=>
  refine bC aX.gh ?_;rw[List.map_map,List.map_map];exact List.map_congr_left λx _=>A.qp x K J
 |_=>rfl
def dZ(d:Nat)(k:aa Nat):Bool:=k.getLast?==some d
def ye(d:Nat):oD:=⟨dZ d,dZ d,λr=>Nat.beq r d⟩
def Lf.drop(d:Nat):Lf->Lf:=Lf.cG (dZ d)
def A.drop(d:Nat):A->A:=A.cG (ye d)
def aX.drop(d:Nat):aX->aX:=aX.cG (ye d)
def jN(c:Nat->Bool)(k:aa Nat):Bool:=match k.getLast? with
 |some r=>c r
 |none=>false
structure Tr (w w':World) (aj aD:bJ) (ρ ρ':Nat->Loc) (t:List Nat->Bool) (c:Nat->Bool):Prop where
 size:w.heap.size<=w'.heap.size
 no:∀b,b<w.heap.size->aj b=none->w'.heap[b]?=w.heap[b]?/\aD b=none
 so:∀b k,aj b=some k->t k=false->w'.heap[b]?=w.heap[b]?/\aD b=some k
 gf:∀r,c r=false->ρ' r=ρ r
 up:∀j i s x q,t (j::i::s::x::q)=t (x::q)
 ne:∀b,aj b=some []->∀k,t k=false
structure oD.OK (K:oD) (t:List Nat->Bool) (c:Nat->Bool):Prop where
 l:∀k,K.l k=false->(k.length=1\/t k=false)/\jN c k=false
 p:∀k,K.p k=false->t k=false/\jN c k=false
 r:∀r,K.r r=false->c r=false
section
variable {t:aa Nat->Bool} {c:Nat->Bool} {K:oD}
def RV.tr(T:Tr w w' aj aD ρ ρ' t c){q:aa Nat}{x:V}{v:Value}(h:RV w B aj q x v)(D:x.aI=true\/t q=false):RV w' B aD q x v:=
 h.map (Q:=λq C=>q=C/\t q=false) T.size T.no (λb q C _ hl e=>by
  obtain⟨rfl,e⟩:=e;exact⟨(T.so b q hl e).1,(T.so b q hl e).2,λj i s=>⟨rfl,by
   cases q with
   |nil=>exact T.ne b hl _
   |cons x q=>rw[T.up];exact e⟩⟩) (D.imp_right λh=>⟨rfl,h⟩)
def Ou(j i s x:Nat)(q:aa Nat):jN c (j::i::s::x::q)=jN c (x::q):=by simp[jN,List.getLast?_cons_cons]
def UY(T:Tr w w' aj aD ρ ρ' t c):∀ (k:aa Nat) (ad:Addr),t k=false->jN c k=false->addrAt w aj ρ k=some ad->addrAt w' aD ρ' k=some ad
 |[],_,_,_,h=>by simp[addrAt]at h
 |[_],_,_,_,h=>by simp[addrAt]at h
 |[_,_],_,_,_,h=>by simp[addrAt]at h
 |[_,_,_],_,_,_,h=>by simp[addrAt]at h
 | [j,i,s,r],_,C,D,h=>by
  rw[T.up]at C;rw[Ou]at D;simp only[addrAt]at h ⊢;rw[T.gf r D];split at h
  ·split at h
   next hl=>rw[bg (T.so _ _ hl C).2];exact h
   ·cases h
  ·cases h
 | j :: i :: s :: x :: y :: q,ad,C,D,h=>by
  rw[T.up]at C;rw[Ou]at D;simp only[addrAt]at h ⊢;cases E:addrAt w aj ρ (x::y::q)with
  |none=>rw[E]at h;cases h
  | some U=>
   rw[UY T _ _ C D E];rw[E]at h;cases I:w.cell? U with
   |none=>simp[I]at h
   | some v=>
    obtain⟨j',i',s',O,hk,Y,_,_⟩:=Cj _ _ E;have Cl:t O=false:=by
     cases O with
     |nil=>exact T.ne _ Y _
     |cons z O=>rw[<-T.up j' i' s',<-hk];exact C
    have e:w'.cell? U=some v:=(World.cell?_of_block (T.so _ _ Y Cl).1).trans I;simp only[Option.bind_some,I]at h;simp only[Option.bind_some,e];split at h
    ·split at h
     next hl=>rw[bg (T.so _ _ hl C).2];exact h
     ·cases h
    ·cases h
def UZ(T:Tr w w' aj aD ρ ρ' t c)(k:aa Nat)(u:Value)(C:k.length=1\/t k=false)(D:jN c k=false)(h:dn w aj ρ k=some u):dn w' aD ρ' k=some u:=by
 match k,C,D,h with
 |[],_,_,h=>simp[dn,addrAt]at h
 | [r],_,D,h=>
  simp only[dn]at h ⊢;rw[T.gf r D];exact h
 | x :: y :: q,C,D,h=>
  have C:t (x::y::q)=false:=C.resolve_left (by simp);simp only[dn]at h ⊢;cases E:addrAt w aj ρ (x::y::q)with
  |none=>rw[E]at h;cases h
  | some ad=>
   rw[UY T _ _ C D E];rw[E]at h;have h:w.cell? ad=some u:=h;obtain⟨U,Y,s',I,hk,O,_,_⟩:=Cj _ _ E;have Cl:t I=false:=by
    cases I with
    |nil=>exact T.ne _ O _
    |cons z I=>rw[<-T.up U Y s',<-hk];exact C
   exact(World.cell?_of_block (T.so _ _ O Cl).1).trans h
def eS.tr(T:Tr w w' aj aD ρ ρ' t c)(C:K.OK t c){x:Lf}{u:Value}(h:eS w B aj ρ x u):eS w' B aD ρ' (x.cG K.l) u:=by
 cases x with
 |v x=>exact⟨h.1,h.2.tr T (.inl h.1)⟩
 |dead=>trivial
 | own k=>
  show eS w' B aD ρ' (bif K.l k then .dead else .own k) u;cases hl:K.l k with
  |true=>trivial
  |false=>exact⟨h.1,UZ T k u (C.l k hl).1 (C.l k hl).2 h.2⟩
def fy.tr(T:Tr w w' aj aD ρ ρ' t c)(D:K.OK t c){cs:aa Lf}{us:Array Value}(h:fy w B aj ρ cs us):fy w' B aD ρ' (cs.map (Lf.cG K.l)) us:=by
 refine⟨by rw[fN];exact h.1,λj x C=>?_⟩
 rw[fh]at C;obtain⟨y,E,rfl⟩:=Option.map_eq_some_iff.1 C;obtain⟨u,I,r⟩:=h.2 j y E;exact⟨u,I,r.tr T D⟩
def RP.tr(T:Tr w w' aj aD ρ ρ' t c)(C:K.OK t c){p:Bool×aa Lf}{u:Value}(h:RP w B aj ρ p u):RP w' B aD ρ' (p.1,p.2.map (Lf.cG K.l)) u:=by
 obtain⟨b,cs⟩:=p;cases b with
 |true=>obtain⟨us,e,h⟩:=h;exact⟨us,e,h.tr T C⟩
 |false=>exact fy.tr T C h
def RF.tr(T:Tr w w' aj aD ρ ρ' t c){cs:aa V}{u:Value}(h:RF w B aj cs u):RF w' B aD cs u:=by
 obtain⟨b,off,e,hb,hl,h⟩:=h;obtain⟨D,E⟩:=T.no b hb hl
 refine⟨b,off,e,Nat.lt_of_lt_of_le hb T.size,E,λj x I=>?_⟩
 obtain⟨C,v,O,U⟩:=h j x I;exact⟨C,v,(World.cell?_of_block (a:=⟨b,_,none⟩) D).trans O,U.tr T (.inl C)⟩
def RA.tr(T:Tr w w' aj aD ρ ρ' t c)(C:K.OK t c){x:A}{u:Value}(h:RA w B aj ρ x u):RA w' B aD ρ' (x.cG K) u:=by
 cases x with
 |undef=>trivial
 |skip=>exact h
 |lf x=>exact eS.tr T C h
 |agg cs=>exact RP.tr T C (p:=(true,cs)) h
 | fO xs=>
  obtain⟨us,e,E,h⟩:=h
  refine⟨us,e,by rw[fN];exact E,λj p D=>?_⟩
  rw[fh]at D;obtain⟨y,I,rfl⟩:=Option.map_eq_some_iff.1 D;obtain⟨v,O,r⟩:=h j y I;exact⟨v,O,r.tr T C⟩
 | ptr k=>
  simp only[A.cG];cases hl:K.p k with
  |true=>trivial
  |false=>obtain⟨ad,e,h⟩:=h;exact⟨ad,e,UY T k ad (C.p k hl).1 (C.p k hl).2 h⟩
 | view k s i j=>
  simp only[A.cG];cases hl:K.p k with
  |true=>trivial
  |false=>obtain⟨A,n,c,h,g⟩:=h;exact⟨A,n,c,UZ T k _ (.inr (C.p k hl).1) (C.p k hl).2 h,g⟩
 | pk r n=>
  simp only[A.cG];cases hl:K.r r with
  |true=>trivial
  |false=>obtain⟨b,e,h⟩:=h;exact⟨b,(T.gf r (C.r r hl)).trans e,h⟩
 | aE r j=>
  simp only[A.cG];cases hl:K.r r with
  |true=>trivial
  |false=>obtain⟨b,off,e,h⟩:=h;exact⟨b,off,(T.gf r (C.r r hl)).trans e,h⟩
 |jW cs=>exact RF.tr T h
 |oC f cs=>obtain⟨pv,e,h⟩:=h;exact⟨pv,e,h.tr T⟩
 | fn f cap=>
  simp only[A.cG];cases hl:cap.any (λp=>K.r p.1)with
  |true=>trivial
  | false=>
   obtain⟨U,e,E,h⟩:=h
   refine⟨U,e,E,λj p D=>?_⟩
   obtain⟨b,off,Y,h2⟩:=h j p D;exact⟨b,off,(T.gf _ (C.r _ (by simpa using mz.1 hl p (iB D)))).trans Y,h2⟩
def eV.tr(T:Tr w w' aj aD ρ ρ' t c)(Y:K.OK t c){r:Nat}{x:aX}(h:eV w B aj ρ r x)(D:t [r]=false)(E:c r=false):eV w' B aD ρ' r (x.cG K):=by
 cases h with
 | aB b off cells e cs us C hl U hs hc=>
  refine .aB b off cells e _ us ((T.gf r E).trans C) (T.so b _ hl D).2 ((T.so b _ hl D).1.trans U) (by rw[fN];exact hs) (λj x I=>?_)
  rw[fh]at I;obtain⟨y,O,rfl⟩:=Option.map_eq_some_iff.1 I;exact⟨(hc j y O).1,(hc j y O).2.tr T Y⟩
 |sl v y C hr=>exact .sl v y ((T.gf r E).trans C) (hr.tr T (.inr D))
 |mp b clock es l C hl U he=>exact .mp b clock es l ((T.gf r E).trans C) (T.so b _ hl D).2 ((T.so b _ hl D).1.trans U) he
 | gh us xs C I=>
  refine .gh us _ ((T.gf r E).trans C) (λj x hj=>?_)
  rw[fh]at hj;obtain⟨y,O,rfl⟩:=Option.map_eq_some_iff.1 hj;exact(I j y O).tr T Y
end
/-! Nothing is forgotten where old memory stays. -/
def Ov:oD:=⟨λ_=>false,λ_=>false,λ_=>false⟩
def A.It(x:A):x.cG Ov=x:=by
 have h:∀cs:aa Lf,cs.all (Lf.fr Ov.l)=true:=λcs=>ck.2 λc _=>by cases c<;>rfl
 refine A.qm ?_;cases x with
 |lf x=>cases x<;>rfl
 |agg cs=>exact h cs
 |fO xs=>exact ck.2 λq _=>h q.2
 |fn f cap=>exact ck.2 λ_ _=>rfl
 |_=>rfl
def aX.It(x:aX):x.cG Ov=x:=by
 cases x with
 |aB cs=>exact bC aX.aB (A.agg.inj (A.It (.agg cs)))
 |gh xs=>exact bC aX.gh ((List.map_congr_left λx _=>A.It x).trans (List.map_id xs))
 |_=>rfl
def U0(k:aa Nat):jN (λ_=>false) k=false:=by unfold jN;split<;>rfl
def abI:Ov.OK (λ_=>false) (λ_=>false):=⟨λk _=>⟨.inr rfl,U0 k⟩,λk _=>⟨rfl,U0 k⟩,λ_ _=>rfl⟩
def Tr.nQ(E:w.heap.size<=w'.heap.size)(C:∀ b,b<w.heap.size->w'.heap[b]?=w.heap[b]?/\aD b=aj b)(D:∀ b k,aj b=some k->b<w.heap.size):Tr w w' aj aD ρ ρ (λ_=>false) (λ_=>false):=
 ⟨E,λb hb hl=>⟨(C b hb).1,(C b hb).2.trans hl⟩,λb k hl _=>⟨(C b (D b k hl)).1,(C b (D b k hl)).2.trans hl⟩,λ_ _=>rfl,λ_ _ _ _ _=>rfl,λ_ _ _=>rfl⟩
def RA.nQ{x:A}{u:Value}(h:RA w B aj ρ x u)(C:w.heap.size<=w'.heap.size)(D:∀ b,b<w.heap.size->w'.heap[b]?=w.heap[b]?/\aD b=aj b)(E:∀ b k,aj b=some k->b<w.heap.size):RA w' B aD ρ x u:=by
 have:=h.tr (.nQ C D E) abI
 rwa [A.It]at this
def eS.nQ{x:Lf}{u:Value}(h:eS w B aj ρ x u)(C:w.heap.size<=w'.heap.size)(D:∀b,b<w.heap.size->w'.heap[b]?=w.heap[b]?/\aD b=aj b)(E:∀b k,aj b=some k->b<w.heap.size):eS w' B aD ρ x u:=RA.nQ (x:=.lf x) h C D E
def fy.nQ{cs:aa Lf}{us:Array Value}(h:fy w B aj ρ cs us)(C:w.heap.size<=w'.heap.size)(D:∀ b,b<w.heap.size->w'.heap[b]?=w.heap[b]?/\aD b=aj b)(E:∀ b k,aj b=some k->b<w.heap.size):fy w' B aD ρ cs us:=
 ⟨h.1,λj x I=>let ⟨u,hu,r⟩:=h.2 j x I;⟨u,hu,r.nQ C D E⟩⟩
def eV.nQ{r:Nat}{x:aX}(h:eV w B aj ρ r x)(C:w.heap.size<=w'.heap.size)(D:∀ b,b<w.heap.size->w'.heap[b]?=w.heap[b]?/\aD b=aj b)(E:∀ b k,aj b=some k->b<w.heap.size):eV w' B aD ρ r x:=by
 have:=h.tr (.nQ C D E) abI rfl rfl
 rwa [aX.It]at this
/-! A root's name is given anew. -/
def v9{d:Nat}{t:aa Nat->Bool}{c:Nat->Bool}(E:∀ k,dZ d k=false->t k=false)(I:∀ r,r≠d->c r=false):(ye d).OK t c:=by
 have h:∀ k,dZ d k=false->jN c k=false:=λk C=>by
  unfold jN;split
  next r D=>exact I r (by rintro rfl;simp[dZ,D]at C)
  ·rfl
 exact⟨λk C=>⟨.inr (E k C),h k C⟩,λk C=>⟨E k C,h k C⟩,λr D=>I r (by rintro rfl;simp[ye]at D)⟩
def qq{d r:Nat}(h:r≠d):Nat.beq r d=false:=Bool.eq_false_iff.2 λe=>h (cL e)
def Tr.Iu{d:Nat}(C:∀ r,r≠d->ρ' r=ρ r):Tr w w aj aj ρ ρ' (λ_=>false) (λr=>Nat.beq r d):=
 ⟨dc _,λ_ _ h=>⟨rfl,h⟩,λ_ _ h _=>⟨rfl,h⟩,λr D=>C r (by rintro rfl;simp at D),λ_ _ _ _ _=>rfl,λ_ _ _=>rfl⟩
def RP.gf{d:Nat}(C:∀r,r≠d->ρ' r=ρ r){p:Bool×aa Lf}{u:Value}(h:RP w B aj ρ p u):RP w B aj ρ' (p.1,p.2.map (Lf.drop d)) u:=h.tr (.Iu C) (v9 (λ_ _=>rfl) λ_=>qq)
def RA.gf{d:Nat}(C:∀r,r≠d->ρ' r=ρ r){x:A}{u:Value}(h:RA w B aj ρ x u):RA w B aj ρ' (x.drop d) u:=h.tr (.Iu C) (v9 (λ_ _=>rfl) λ_=>qq)
def fy.gf{d:Nat}(C:∀r,r≠d->ρ' r=ρ r){cs:aa Lf}{us:Array Value}(h:fy w B aj ρ cs us):fy w B aj ρ' (cs.map (Lf.drop d)) us:=h.tr (.Iu C) (v9 (λ_ _=>rfl) λ_=>qq)
def eS.gf{d:Nat}(C:∀r,r≠d->ρ' r=ρ r){x:Lf}{u:Value}(h:eS w B aj ρ x u):eS w B aj ρ' (x.drop d) u:=h.tr (.Iu C) (v9 (λ_ _=>rfl) λ_=>qq)
def eV.gf{d r:Nat}(C:∀r,r≠d->ρ' r=ρ r)(D:r≠d){x:aX}(h:eV w B aj ρ r x):eV w B aj ρ' r (x.drop d):=h.tr (.Iu C) (v9 (λ_ _=>rfl) λ_=>qq) rfl (qq D)
def cc{α:Type}(f:Nat->α)(d:Nat)(x:α):Nat->α:=λk=>bif Nat.beq k d then x else f k
def cm{α:Type}(f:Nat->α)(d:Nat)(x:α):cc f d x d=x:=by simp[cc]
def cN{α:Type}(f:Nat -> α)(d:Nat)(x:α){k:Nat}(h:k≠d):cc f d x k=f k:=by
 have:Nat.beq k d=false:=by
  cases hb:Nat.beq k d with
  |false=>rfl
  |true=>simp_all
 simp[cc,this,av]
def S.set(σ:S)(d:Nat)(x:A):S:={ σ with t:=cc σ.t d x }
def S.drop(σ:S)(d:Nat):S:=⟨λk=>(σ.t k).drop d,λr=>bif Nat.beq r d then none else (σ.m r).map (aX.drop d)⟩
def S.root(σ:S)(d:Nat)(x:aX):S:={ σ with m:=cc σ.m d (some x) }
def Rl.set{x:A}{v:Value}{d:Nat}(h:Rl w0 N aj ρ σ a w)(E:RA w w0.heap.size aj ρ x v)(D:d<N):Rl w0 N aj ρ (σ.set d x) (a.put (some d) v) w:=by
 refine⟨h.below,h.dI,h.root,λk=>?_,?_,h.defers,h.fix,h.dY⟩
 ·show RA w _ aj ρ (cc σ.t d x k) ((a.tmps.setIfInBounds d v).getD k undef);by_cases C:k=d
  ·subst C;rw[cm,jv,Array.getElem?_setIfInBounds_self];have:k<a.tmps.size:=by rw[h.size];exact D
   simp_all
  ·rw[cN _ _ _ C,jv,Array.getElem?_setIfInBounds_ne (Ne.symm C),<- jv];exact h.tmp k
 ·show (a.tmps.setIfInBounds d v).size=N;rw[Array.size_setIfInBounds];exact h.size
def Rl.grow(h:Rl w0 N aj ρ σ a w)(hb:Below w.heap.size w w')(hl:∀ b,b<w.heap.size -> aD b=aj b)(I:∀ b k,w.heap.size <= b -> aD b=some k -> b<w'.heap.size/\k≠[]):Rl w0 N aD ρ σ a w':=by
 have D:∀b,b<w.heap.size -> w'.heap[b]?=w.heap[b]?/\aD b=aj b:=λb E=>⟨hb.block b E,hl b E⟩
 refine⟨h.below.trans (.of hb h.below.size),λb k C=>?_,λr x O=>(h.root r x O).nQ hb.size D (λb k hb=>(h.dI b k hb).2.1),λk=>(h.tmp k).nQ hb.size D (λb k hb=>(h.dI b k hb).2.1),h.size,h.defers,h.fix,h.dY⟩
 rcases Nat.lt_or_ge b _ with U|qt
 ·rw[hl b U]at C;have:=h.dI b k C
  grind
 ·have:=I b k qt C;exact⟨.inl (Nat.le_trans h.below.size qt),this.1,this.2⟩
def Rl.new{d:Nat}{x:aX}(h:Rl w0 N aj ρ σ a w)(l:Loc)(U:eV w w0.heap.size aj (cc ρ d l) d x)(I:w0.F d=none):Rl w0 N aj (cc ρ d l) ((σ.drop d).root d x) a w:=by
 have E:∀r,r≠d -> cc ρ d l r=ρ r:=λr D=>cN _ _ _ D
 refine⟨h.below,h.dI,λr y C=>?_,λk=>(h.tmp k).gf E,h.size,h.defers,λr O D=>(E r (by rintro rfl;rw[I]at D;cases D)).trans (h.fix r O D),h.dY⟩
 by_cases D:r=d
 ·subst D;have e:(cc (σ.drop r).m r _) r=some x:=cm _ _ _;have C:(cc (σ.drop r).m r _) r=some y:=C;simp_all
 ·have C:(cc (σ.drop d).m d _) r=some y:=C;rw[cN _ _ _ D]at C;have hb:Nat.beq r d=false:=by
   cases hb:Nat.beq r d with
   |false=>rfl
   |true=>simp_all
  simp only[S.drop,hb,av]at C;cases hm:σ.m r with
  |none=>simp_all
  | some z=>
   rw[hm]at C;injection C with C;subst C;exact(h.root r z hm).gf E D
end
def splice{α:Type}(l:aa α)(j:Nat)(xs:aa α):aa α:=l.take j++xs++l.drop (j+xs.length)
def uG{α:Type}(l:aa α)(j:Nat)(xs:aa α)(h:j+xs.length<=l.length):(splice l j xs).length=l.length:=by
 simp[splice];omega
def yf{α:Type}(l:aa α)(j:Nat)(xs:aa α)(h:j+xs.length <= l.length)(n:Nat):
  (splice l j xs)[n]?=if n<j then l[n]? else if n<j+xs.length then xs[n-j]? else l[n]?:=by
 unfold splice
 grind
structure we (w w':World) (bt:Nat):Prop where
 size:w'.heap.size=w.heap.size
 os:w'.os=w.os
 tape:w'.tape=w.tape
 output:w'.output=w.output
 block:∀k,k≠bt->w'.heap[k]?=w.heap[k]?
def Ow(w:World)(b o:Nat)(l:aa Value):we w (w.setCells b o l) b:=by
 have g:=abA b l o w;have s:=abz b l o w
 refine⟨s,g.os,g.tape,g.output,λk C=>?_⟩
 rcases Nat.lt_or_ge k _ with D|qt
 ·exact g.block k D (by intro e;injection e with e;exact C e)
 ·simp_all
section
variable {w w':World} {w0:Wd} {B N:Nat} {aj:bJ} {ρ:Nat->Loc} {m m':Nat->ah aX} {σ:S} {a:Act} {bt:Nat} {kt:aa Nat}
def sC(w w':World)(aj:bJ)(ρ:Nat->Loc):Prop:=∀k ad v,addrAt w aj ρ k=some ad->w.cell? ad=some v->pF v=true->w'.cell? ad=some v
def U1(D:sC w w' aj ρ):∀ (k:aa Nat) (ad:Addr),addrAt w aj ρ k=some ad -> addrAt w' aj ρ k=some ad
 |[],_,h=>h
 |[_],_,h=>h
 |[_,_],_,h=>h
 |[j,i,s,r],_,h=>by simp only[addrAt]at h ⊢;exact h
 | j :: i :: s :: x :: y :: q,ad,h=>by
  simp only[addrAt]at h ⊢;cases C:addrAt w aj ρ (x::y::q)with
  |none=>simp_all
  | some I=>
   rw[U1 D _ _ C];rw[C]at h;cases E:w.cell? I with
   |none=>simp_all
   | some v=>
    simp only[Option.bind_some,E]at h;have O:pF v=true:=by
     split at h
     next e=>injection e with e;subst e;rfl
     ·cases h
    simp only[Option.bind_some,D _ _ _ C E O];exact h
def abJ(D:sC w w' aj ρ)(k:aa Nat)(u:Value)(E:pF u=true)(h:dn w aj ρ k=some u):dn w' aj ρ k=some u:=by
 match k,h with
 |[r],h=>exact h
 | x :: y :: q,h=>
  simp[dn]at h ⊢;cases C:addrAt w aj ρ _ with
  |none=>rw[C]at h;cases h
  | some ad=>
   rw[U1 D _ _ C];rw[C]at h;exact D _ _ _ C h E
def eS.wrote{x:Lf}{u:Value}(h:eS w B aj ρ x u)(C:we w w' bt)(hl:aj bt=some kt)(D:sC w w' aj ρ):eS w' B aj ρ x u:=by
 cases x with
 |v x=>exact⟨h.1,h.2.apart hl (.inr h.1) (Nat.le_of_eq C.size.symm) C.block⟩
 |own k=>exact⟨h.1,abJ D k u h.1 h.2⟩
 |dead=>trivial
def fy.wrote{cs:aa Lf}{us:Array Value}(h:fy w B aj ρ cs us)(C:we w w' bt)(hl:aj bt=some kt)(D:sC w w' aj ρ):fy w' B aj ρ cs us:=
 ⟨h.1,λj x E=>let ⟨u,hu,r⟩:=h.2 j x E;⟨u,hu,r.wrote C hl D⟩⟩
def RP.wrote{p:Bool×aa Lf}{u:Value}(h:RP w B aj ρ p u)(C:we w w' bt)(hl:aj bt=some kt)(D:sC w w' aj ρ):RP w' B aj ρ p u:=by
 obtain⟨b,cs⟩:=p;cases b with
 |true=>obtain⟨us,e,h⟩:=h;exact⟨us,e,h.wrote C hl D⟩
 |false=>exact fy.wrote h C hl D
def RF.wrote{cs:aa V}{u:Value}(h:RF w B aj cs u)(C:we w w' bt)(hl:aj bt=some kt):RF w' B aj cs u:=by
 obtain⟨b,off,e,hb,D,h⟩:=h;have I:b≠bt:=by rintro rfl;rw[hl]at D;cases D
 refine⟨b,off,e,by rw[C.size];exact hb,D,λj x O=>?_⟩
 obtain⟨E,v,U,Y⟩:=h j x O;exact⟨E,v,(World.cell?_of_block (C.block b I)).trans U,Y.apart hl (.inr E) (Nat.le_of_eq C.size.symm) C.block⟩
def RA.wrote{x:A}{u:Value}(h:RA w B aj ρ x u)(C:we w w' bt)(hl:aj bt=some kt)(D:sC w w' aj ρ):RA w' B aj ρ x u:=by
 cases x with
 |undef=>trivial
 |skip=>exact h
 |lf x=>exact eS.wrote h C hl D
 |agg cs=>exact RP.wrote (p:=(true,cs)) h C hl D
 |fO xs=>obtain⟨us,e,E,h⟩:=h;exact⟨us,e,E,λj p I=>let ⟨v,O,r⟩:=h j p I;⟨v,O,r.wrote C hl D⟩⟩
 |ptr k=>obtain⟨ad,e,h⟩:=h;exact⟨ad,e,U1 D _ _ h⟩
 |view k s i j=>obtain⟨A,n,c,h,g⟩:=h;exact⟨A,n,c,abJ D k _ rfl h,g⟩
 |pk r n=>exact h
 |aE r j=>exact h
 |jW cs=>exact RF.wrote h C hl
 |oC f cs=>obtain⟨pv,e,h⟩:=h;exact⟨pv,e,h.wrote C hl⟩
 |fn f cap=>exact h
def eV.wrote{r:Nat}{x:aX}(h:eV w B aj ρ r x)(E:we w w' bt)(hl:aj bt=some kt)(hC:sC w w' aj ρ)(O:¬ [r] <:+ kt):eV w' B aj ρ r x:=by
 cases h with
 | aB b off cells e cs us D C U hs hc=>
  have Y:b≠bt:=by rintro rfl;rw[hl]at C;injection C with C;subst C;exact O (List.suffix_refl _)
  exact .aB b off cells e cs us D C ((E.block b Y).trans U) hs (λj x I=>⟨(hc j x I).1,(hc j x I).2.wrote E hl hC⟩)
 |sl v y D gz=>exact .sl v y D (gz.apart hl (.inl O) (Nat.le_of_eq E.size.symm) E.block)
 | mp b c es l D C U he=>
  have Y:b≠bt:=by rintro rfl;rw[hl]at C;injection C with C;subst C;exact O (List.suffix_refl _)
  exact .mp b c es l D C ((E.block b Y).trans U) he
 |gh us xs D I=>exact .gh us xs D λj x hj=>(I j x hj).wrote E hl hC
def Rl.wrote(h:Rl w0 N aj ρ σ a w)(C:we w w' bt)(hl:aj bt=some kt)(I:sC w w' aj ρ)(O:∀ r x,m' r=some x -> eV w' w0.heap.size aj ρ r x):Rl w0 N aj ρ ⟨σ.t,m'⟩ a w':=by
 have hb:=(h.dI bt kt hl).1;have U:∀ k,k<w0.heap.size -> w0.L k=none -> k≠bt:=by
  grind
 refine⟨⟨C.os.trans h.below.os,C.tape.trans h.below.tape,C.output.trans h.below.output,by rw[C.size];exact h.below.size,λk D E=>(C.block k (U k D E)).trans (h.below.block k D E)⟩,λb k Y=>?_,O,λk=>(h.tmp k).wrote C hl I,h.size,h.defers,h.fix,h.dY⟩
 rw[C.size];exact h.dI b k Y
def abK{r C:Nat}(h:C≠r):¬ [C] <:+ [r]:=by
 intro D;have:=D.eq_of_length rfl;simp_all
def Rl.Iv{r j:Nat}{cs xs:aa Lf}{us:Array Value}(h:Rl w0 N aj ρ σ a w)(hm:σ.m r=some (.aB cs))(hx:fy w w0.heap.size aj ρ xs us)(hj:j+xs.length <= cs.length):
  ∃b off,ρ r = .aB b off/\w.there b (off+j) us.size/\Rl w0 N aj ρ ⟨σ.t,cc σ.m r (some (.aB (splice cs j xs)))⟩ a (w.setCells b (off+j) us.toList):=by
 have U:=h.root r _ hm;generalize D:aX.aB cs=x at U;cases U with
 |sl=>cases D
 |mp=>cases D
 |gh=>cases D
 | aB b off cells e fM u cu hl hh hs hc=>
  injection D with D;subst D;have hlen:us.size=xs.length:=hx.1;have mZ:off+j+us.toList.length <= cells.size:=by rw[mR,hlen];omega
  have E:=Ow w b (off+j) us.toList;obtain⟨Y,iT,pG⟩:=Im b e us.toList (off+j) w cells hh mZ;have O:sC w (w.setCells b (off+j) us.toList) aj ρ:=by
   intro k ad v ha hv ia;obtain⟨j',i',s',q,rfl,hq,_,_,hh'⟩:=Cj k ad ha;have cx:ad.block≠b:=by
    intro e
    grind
   exact(World.cell?_of_block (E.block _ cx)).trans hv
  refine⟨b,off,cu,λn hn=>⟨?_,frozen_of_row w b _ cells e hh⟩,h.wrote E hl O λr' y I=>?_⟩
  ·rw[cell_of_row w b _ cells e _ hh];simp;omega
  ·by_cases qv:r'=r
   ·subst qv;rw[cm]at I;injection I with I;subst I
    refine .aB b off Y e _ (λn=>if n<j then u n else if n<j+xs.length then us.getD (n-j) undef else u n) cu hl iT ?_ λn x C=>?_
    ·rw[uG _ _ _ hj,<- mR,pG]
     grind
    ·have e2:Y[off+n]?=(splice cells.toList (off+j) us.toList)[off+n]?:=by
      rw[show Y[off+n]?=Y.toList[off+n]? by simp,pG];rfl
     rw[e2,yf _ _ _ (by simpa using mZ)];rw[yf _ _ _ hj]at C;by_cases h1:n<j
     ·rw[bg];simp only[h1]at C ⊢;refine⟨?_,(hc n x C).2.wrote E hl O⟩;simp_all
     ·by_cases h2:n<j+xs.length
      ·rw[bk,bg (by rw[mR,hlen];omega)];simp only[h1,h2,if_true,if_false]at C ⊢;obtain⟨v,hv,U⟩:=hx.2 (n-j) x C;have hg:us.getD (n-j) undef=v:=by rw[jv,hv];rfl
       rw[hg];refine⟨?_,U.wrote E hl O⟩
       grind
      ·rw[bk,bk (by rw[mR];omega)];simp only[h1,h2]at C ⊢;refine⟨?_,(hc n x C).2.wrote E hl O⟩
       grind
   ·rw[cN _ _ _ qv]at I;exact(h.root r' y I).wrote E hl O (abK qv)
inductive Aa (m:Nat->Option aX):List Nat->V->(Nat->Option aX)->Prop
 |root (r:Nat) (y0 y:V) (h:m r=some (.sl y0)):Aa m [r] y (cc m r (some (.sl y)))
 | elem (j i:Nat) (q:List Nat) (t:TC) (o:Nat) (qn:Bool) (l:List (T t)) (y:V) (e:T t) (m':Nat->Option aX) (h:z0 m q (.sl t (o+2) qn l)) (hi:i<l.length) (hj:j<aH t)
   (hd:dec t o (splice (enc t o l[i]) j [y])=some e) (hp:Aa m q (.sl t (o+2) qn (l.set i e)) m'):Aa m (j::i::aH t::q) y m'
def abL{α:Type}{a b c:aa α}(D:a <:+ c)(hb:b <:+ c)(h:a.length=b.length):a=b:=by
 obtain⟨x,E⟩:=D;obtain⟨y,C⟩:=hb;rw[<-E]at C;exact((List.append_inj' C h.symm).2).symm
def RV.U2{q:aa Nat}{t:TC}{o:Nat}{Y:Bool}{l:aa (T t)}{i j:Nat}{xs:aa V}{e:T t}{b cap:Nat}{cs fM:Array Value}{u us:Nat -> Nat -> Value}
  (hl:aj b=some q) (hh:w'.heap[b]?=some (.cells fM (tid t) (0,0))) (hs:fM.size=cap*aH t) (hn:l.length <= cap) (hm:cap <= maxLen/\(Y=true -> cap=l.length)) (hi:i<l.length) (hj:j+xs.length <= aH t)
  (hd:dec t o (splice (enc t o l[i]) j xs)=some e)
  (hc:∀D (h:D<l.length) (C:Nat) x,(enc t o l[D])[C]?=some x -> ¬ (D=i/\j <= C/\C<j+xs.length) -> fM[D*aH t+C]?=some (u D C)/\RV w' B aj (C::D::aH t::q) x (u D C))
  (hx:∀(n:Nat) x,xs[n]?=some x -> fM[i*aH t+(j+n)]?=some (us i (j+n))/\RV w' B aj ((j+n)::i::aH t::q) x (us i (j+n))):
  RV w' B aj q (.sl t (o+2) Y (l.set i e)) (.slice (some ⟨b,0,none⟩) l.length cap):=by
 have hlen:(l.set i e).length=l.length:=ki;have key:∀ D (h:D<(l.set i e).length) (C:Nat) x,(enc t o (l.set i e)[D])[C]?=some x ->
   ∃v,fM[D*aH t+C]?=some v/\RV w' B aj (C::D::aH t::q) x v:=by
  intro D h C x I;rw[List.getElem_set]at I;by_cases hii:i=D
  ·subst hii;rw[bg rfl]at I;have hk:=mY t o _ e hd;have qw:C<(enc t o e).length:=(eO.1 I).1;rw[<- hk.1]at qw;have E:=bT qw;generalize (splice (enc t o l[i]) j xs)[C]=y at E;have hw:=hk.2 C y x E I;rw[yf _ _ _ (by rw[mX];exact hj)]at E;by_cases h1:C<j
   ·rw[bg h1]at E;obtain⟨O,U⟩:=hc i hi C y E (by omega);exact⟨_,O,U.wk hw⟩
   ·by_cases h2:C<j+xs.length
    ·rw[bk h1,bg h2]at E;obtain⟨O,U⟩:=hx _ y E;rw[show j+(C-j)=C by omega]at O U;exact⟨_,O,U.wk hw⟩
    ·rw[bk h1,bk h2]at E;obtain⟨O,U⟩:=hc i hi C y E (by omega);exact⟨_,O,U.wk hw⟩
  ·grind
 rw[<- hlen]
 refine .own q t o Y (l.set i e) b cap fM (λD C=>(fM[D*aH t+C]?).getD undef) hl hh hs (by rw[hlen];exact hn) ⟨hm.1,λh=>by rw[hlen];exact hm.2 h⟩ (λD h C x I=>?_) (λD h C x I=>?_)
 ·grind
 ·obtain⟨v,hv,hr⟩:=key D h C x I;simp_all
def abM{r:Nat}{q:aa Nat}(h:[r] <:+ q){C:Nat}(D:[C] <:+ q):C=r:=by
 have:=abL D h rfl;injection this
def Aa.ok{q:aa Nat}{y:V}(h:Aa m q y m')(hm:∀ r x,m r=some x -> eV w B aj ρ r x)(U:we w w' bt)(hl:aj bt=some kt)(Y:q <:+ kt)(hC:sC w w' aj ρ){I:Value}(D:dn w aj ρ q=some I)(hy:RV w' B aj q y I):
  ∀r x,m' r=some x -> eV w' B aj ρ r x:=by
 induction h generalizing I with
 | root r y0 y h=>
  intro r' x C;by_cases O:r'=r
  ·subst O;rw[cm]at C;injection C with C;subst C;simp only[dn]at D;cases cu:ρ r' with
   |aB b off=>grind
   |cE us=>grind
   | eU v=>
    rw[cu]at D;injection D with D;subst D;exact .sl v y cu hy
  ·rw[cN _ _ _ O]at C;exact(hm r' x C).wrote U hl hC (λhs=>O (abM Y hs))
 | elem j i q t o qn l y e m' h hi hj hd hp ih=>
  obtain⟨uH,Cm,gz⟩:=h.ok hm;have hqk:q <:+ kt:=List.IsSuffix.trans ⟨[j,i,aH t],rfl⟩ Y;cases gz with
  |fq=>simp at hi
  |gy=>simp at hi
  |gL=>simp at hi
  |aI _ _ _ _ _ _ _ _ _ ho=>omega
  | own _ _ _ _ _ b cap cs us E hh hs hn wg hc O=>
   have cx:b≠bt:=by
    rintro rfl;rw[hl]at E;injection E with E;subst E;have:=Y.length_le
    grind
   have hz:=Nat.le_of_eq U.size.symm
   refine ih hqk Cm (RV.U2 (us:=λ_ _=>I) (u:=us) (cs:=cs) (xs:=[y]) E ((U.block b cx).trans hh) hs hn wg hi (show j+1 <= aH t from hj) hd (λi' h' j' x C Ox=>⟨hc i' h' j' x C,(O i' h' j' x C).apart hl (.inl λyg=>Ox ?_) hz U.block⟩) (λn x C=>?_))
   ·have:=abL yg Y rfl
    grind
   ·cases n with
    |succ n=>simp at C
    | zero=>
     simp at C;subst C;refine⟨?_,hy⟩;rw[UX,E2 j i _ Cm E]at D;have D:w.cell? ⟨b,i*aH t+j,none⟩=some I:=D;rw[cell_of_row w b _ cs _ _ hh]at D;exact D
def RV.abN{q:aa Nat}{x:V}{v:Value}(h:RV w B aj q x v)(C:x.plain=true):pF v=false:=by
 cases h<;>first|rfl|cases C
def RV.uI{q C:aa Nat}{x:V}{v:Value}{B':Nat}{aD:bJ}(h:RV w B aj q x v)(D:x.plain=true):RV w' B' aD C x v:=by
 cases h<;>first|exact .int _ _ _|exact .bool _ _|exact .str _ _|cases D
def Rl.aoz{j i:Nat}{q:aa Nat}{t:TC}{o:Nat}{qn:Bool}{l:aa (T t)}{xs:aa V}{us:Array Value}{e:T t}(h:Rl w0 N aj ρ σ a w)(hg:z0 σ.m q (.sl t (o+2) qn l))(hi:i<l.length)(hj:j+xs.length <= aH t)
  (hd:dec t o (splice (enc t o l[i]) j xs)=some e) (hold:∀(n:Nat) x,n<xs.length -> (enc t o l[i])[j+n]?=some x -> x.plain=true) (hxp:∀x∈xs,x.plain=true) (m0:us.size=xs.length) (hx:∀(n:Nat) x,xs[n]?=some x -> ∃u,us[n]?=some u/\RV w w0.heap.size aj [] x u)
  (hp:Aa σ.m q (.sl t (o+2) qn (l.set i e)) m'):
  ∃b,addrAt w aj ρ (j::i::aH t::q)=some ⟨b,i*aH t+j,none⟩/\w.there b (i*aH t+j) us.size/\Rl w0 N aj ρ ⟨σ.t,m'⟩ a (w.setCells b (i*aH t+j) us.toList):=by
 obtain⟨uH,Cm,gz⟩:=hg.ok h.root;cases gz with
 |fq=>simp at hi
 |gy=>simp at hi
 |gL=>simp at hi
 |aI _ _ _ _ _ _ _ _ _ ho=>omega
 | own _ _ _ _ _ b cap cs u U hh hs hn wg hc hr=>
  have uJ:i*aH t+aH t <= cap*aH t:=by
   have:(i+1)*aH t <= cap*aH t:=jd _ (by omega);rw[jV]at this;exact this
  have mZ:i*aH t+j+us.toList.length <= cs.size:=by rw[mR,m0,hs];omega
  have Y:=Ow w b (i*aH t+j) us.toList;obtain⟨O,iT,pG⟩:=Im b (tid t) us.toList (i*aH t+j) w cs hh mZ;have uK:∀ n,O[n]?=if n<i*aH t+j then cs[n]? else if n<i*aH t+j+xs.length then us[n-(i*aH t+j)]? else cs[n]?:=by
   intro n;have e2:O[n]?=(splice cs.toList (i*aH t+j) us.toList)[n]?:=by
    rw[show O[n]?=O.toList[n]? by simp,pG];rfl
   rw[e2,yf _ _ _ (by simpa using mZ),mR,m0];simp
  have Iw:O.size=cs.size:=by
   rw[<- mR,pG];have:=uG cs.toList _ us.toList (by simpa using mZ)
   grind
  have hC:sC w (w.setCells b (i*aH t+j) us.toList) aj ρ:=by
   intro k ad v ha D ia;by_cases cx:ad.block=b
   ·obtain⟨I,C,s',q',rfl,Cl,aoA,uL,_⟩:=Cj k ad ha;have qx:ad=⟨b,ad.off,none⟩:=by cases ad;simp_all
    rw[qx,cell_of_row w b _ cs _ _ hh]at D;rw[qx,cell_of_row _ b _ O _ _ iT,uK];by_cases h1:ad.off<i*aH t+j
    ·rw[bg h1];exact D
    ·by_cases h2:ad.off<i*aH t+j+xs.length
     ·exfalso;have hjs:ad.off-(i*aH t+j)<xs.length:=by omega
      have yh:j+(ad.off-(i*aH t+j))<(enc t o l[i]).length:=by rw[mX];omega
      have hy:=bT yh;generalize (enc t o l[i])[j+(ad.off-(i*aH t+j))]=y at hy;have Ab:=hold _ y hjs hy;have h3:=hc i hi _ y hy;rw[show i*aH t+(j+(ad.off-(i*aH t+j)))=ad.off by omega]at h3;rw[D]at h3;injection h3 with h3;have:=(hr i hi _ y hy).abN Ab;rw[<- h3,ia]at this;cases this
     ·rw[bk h1,bk h2];exact D
   ·exact(World.cell?_of_block (Y.block _ cx)).trans D
  refine⟨b,E2 j i (aH t) Cm U,λn rj=>⟨?_,frozen_of_row w b _ cs _ hh⟩,h.wrote Y U hC (hp.ok h.root Y U (List.suffix_refl _) hC Cm ?_)⟩
  ·rw[cell_of_row w b _ cs _ _ hh];simp;omega
  ·refine RV.U2 (u:=u) (us:=λ_ n=>us.getD (n-j) undef) (cs:=cs) (xs:=xs) U iT (Iw.trans hs) hn wg hi hj hd (λC h' I x E Ox=>?_) (λn x E=>?_)
   ·have qw:I<aH t:=by have:=(eO.1 E).1;rwa [mX]at this
    refine⟨?_,(hr C h' I x E).apart U (.inl λyg=>?_) (Nat.le_of_eq Y.size.symm) Y.block⟩
    ·rw[uK];have Ac:¬ (¬ C*aH t+I<i*aH t+j/\C*aH t+I<i*aH t+j+xs.length):=by
      rintro⟨h1,h2⟩;rcases Nat.lt_trichotomy C i with dQ|heq|U3
      ·have:(C+1)*aH t <= i*aH t:=jd _ dQ;rw[jV]at this;omega
      ·subst heq
       grind
      ·have:(i+1)*aH t <= C*aH t:=jd _ U3;rw[jV]at this;omega
     split
     ·exact hc C h' I x E
     ·rw[bk];exact hc C h' I x E
    ·have:=yg.length_le;simp at this;omega
   ·obtain⟨v,D,iL⟩:=hx n x E;have rj:n<xs.length:=(eO.1 E).1;have Ad:us.getD (j+n-j) undef=v:=by rw[show j+n-j=n by omega,jv,D];rfl
    rw[Ad,uK,bk,bg];refine⟨?_,iL.uI (hxp x (iB E))⟩;rw[show i*aH t+(j+n)-(i*aH t+j)=n by omega];exact D
end
def U4:Value->A
 |.bool b=>.lf (.v (.bool b))
 |.int k n=>.lf (.v (.int k n))
 |.string s=>.lf (.v (.str s))
 |.slice none 0 0=>.lf (.v .nil)
 |_=>.undef
def aL(σ:S):Operand->A
 |.tmp t=>σ.t t
 |.const v=>U4 v
 |.func f=>.fn f []
 |.global _=>.undef
def iU{X:Type}(N:Nat)(σ:S)(C:ah Tmp)(x:A)(k:S->ah X):ah X:=
 match C with
 |none=>k σ
 |some d=>bif Nat.blt d N then k (σ.set d x)else none
def nR(P:Program)(w0:Wd)(N:Nat)(o:Oper)(σ D:S):Prop:=
 ∀a w K Q,R w0 N σ a w->(∀C w',R w0 N D C w'->K C w')->o.wp P a w K Q
section
variable {P:Program} {w:World} {w0:Wd} {B N:Nat} {aj:bJ} {ρ:Nat->Loc} {σ:S} {a:Act} {X:Type} {r:X} {k:S->ah X} {o:Oper}
def aoB(v:Value):RA w B aj ρ (U4 v) v:=by
 unfold U4;split
 ·exact⟨rfl,.bool _ _⟩
 ·exact⟨rfl,.int _ _ _⟩
 ·exact⟨rfl,.str _ _⟩
 ·exact⟨rfl,.nil _⟩
 ·trivial
def Rl.aL(h:Rl w0 N aj ρ σ a w)(x:Operand):RA w w0.heap.size aj ρ (aL σ x) (a.eval x):=by
 cases x with
 |tmp t=>exact h.tmp t
 |const v=>exact aoB v
 |func f=>exact⟨#[],rfl,rfl,by simp⟩
 |global g=>trivial
def nR.val{x:A}(C:iU N σ o.dst x k=some r)(h:∀ aj ρ a w,Rl w0 N aj ρ σ a w -> ∃ v,(execOp a.eval o).run P w = .ok (.value v) w/\RA w w0.heap.size aj ρ x v):∃ O,k O=some r/\nR P w0 N o σ O:=by
 unfold iU at C;split at C
 ·rename_i D
  refine⟨σ,C,λa w K Q hR E=>?_⟩
  obtain⟨aj,ρ,hl⟩:=hR;obtain⟨v,I,U⟩:=h aj ρ a w hl;unfold Oper.wp;rw[I,Oper.upon_value,D];exact E _ _ ⟨aj,ρ,hl⟩
 ·rename_i d D;cases Y:Nat.blt d N with
  |false=>simp_all
  | true=>
   rw[Y]at C
   refine⟨_,C,λa w K Q hR E=>?_⟩
   obtain⟨aj,ρ,hl⟩:=hR;obtain⟨v,I,U⟩:=h aj ρ a w hl;unfold Oper.wp;rw[I,Oper.upon_value,D];exact E _ _ ⟨aj,ρ,hl.set U (by have:=dj Y;omega)⟩
/-! What does the same whatever comes behind. -/
def nS{α:Type}(f:(X:Type)->(α->ah X)->ah X)(y:α):Prop:=∀(X:Type) (k:α->ah X),f X k=k y
def nS.at_{α:Type}{f:(X:Type)->(α->ah X)->ah X}{y:α}(h:nS f y){X:Type}(k:α->ah X):f X k=k y:=h X k
def cU{α:Type}(f:(X:Type)->(α->ah X)->ah X):Prop:=∀(X Y:Type) (k:α->ah X) (g:X->ah Y),(f X k).bind g=f Y λy=>(k y).bind g
def cU.m6{α:Type}{f:(X:Type)->(α->ah X)->ah X}(n:cU f){X:Type}{k:α->ah X}{r:X}(h:f X k=some r):∃ y,k y=some r/\nS f y:=by
 have e:∀(Y:Type) (k:α->ah Y),f Y k=(f α some).bind k:=λY k=>(n α Y some k).symm
 rw[e]at h;cases C:f α some with
 |none=>rw[C]at h;cases h
 |some y=>rw[C]at h;exact⟨y,h,λX k=>by rw[e,C];rfl⟩
def cU.comp{α β:Type}{f:(X:Type)->(α->ah X)->ah X}{b:(X:Type)->(β->ah X)->α->ah X}(n:cU f)(m:∀y,cU λX k=>b X k y):cU λX k=>f X (b X k):=λX Y k g=>(n X Y _ g).trans (bC _ (funext λy=>m y X Y k g))
def dN{X Y:Type}{b:Bool}{x y:ah X}{C D:ah Y}{g:X->ah Y}(E:x.bind g=C)(I:y.bind g=D):(bif b then x else y).bind g=bif b then C else D:=by
 cases b
 ·exact I
 ·exact E
/-! Contents of leaves. -/
def jX{X:Type}(m:Nat->ah aX):aa Nat->(V->ah X)->ah X
 | [r],k=>match m r with
  |some (.sl y)=>k y
  |_=>none
 | j :: i :: s :: q,k=>jX m q λy=>match y with
  |.sl t (o+2) _ l=>if s=aH t then (if h:i<l.length then (match (enc t o l[i])[j]? with|some z=>k z|none=>none)else none)else none
  |_=>none
 |_,_=>none
def tD{m:Nat -> ah aX}:∀ (q:aa Nat) (k:V -> ah X),jX m q k=some r -> ∃ y,z0 m q y/\k y=some r
 |[],_,h=>by simp[jX]at h
 | [x],k,h=>by
  simp only[jX]at h;split at h
  next y D=>exact⟨y,.root x y D,h⟩
  ·cases h
 | j :: i :: s :: q,k,h=>by
  obtain⟨y,D,C⟩:=tD q _ h;clear h;split at C
  ·split at C
   ·rename_i E;subst E;split at C
    ·rename_i hi;split at C
     next z I=>exact⟨z,.elem j i q _ _ _ _ z D hi I,C⟩
     ·cases C
    ·cases C
   ·cases C
  ·cases C
def qy{X:Type}(σ:S)(x:Lf)(k:V->ah X):ah X:=
 match x with
 |.v y=>k y
 |.own q=>jX σ.m q k
 |.dead=>none
def RV.part{q:aa Nat}{tc:TC}{g:Nat}{U:Bool}{xs:aa (T tc)}{A:ah Addr}{n c a h:Nat}(I:RV w B aj q (.sl tc g U xs) (.slice A n c))(E:g<2)(h1:a <= h)(C:h <= xs.length):RV w B aj q (.sl tc g false ((xs.take h).drop a)) (sliced A a h c (aH tc))/\n=xs.length/\xs.length <= c:=by
 have hlen:((xs.take h).drop a).length=h-a:=by simp;omega
 cases I with
 | fq=>
  have:a=0:=by simp at C;omega
  have:h=0:=by simpa using C
  subst_vars
  exact⟨.fq _ _ _,rfl,dc _⟩
 | gy=>
  have:h=0:=by simpa using C
  subst this;have:a=0:=by omega
  subst this;exact⟨by unfold sliced;split<;>exact .gy _ _ _ _ _ E,rfl,jG _⟩
 | gL=>
  have:h=0:=by simpa using C
  subst this;have:a=0:=by omega
  subst this;exact⟨by unfold sliced;split<;>exact .gy _ _ _ _ _ E,rfl,jG _⟩
 |own=>omega
 | aI _ _ _ _ _ b off cap u Y hl hb hB jM hc I=>
  refine⟨?_,rfl,jM⟩;by_cases he:a=h
  ·subst he;have e0:=List.eq_nil_of_length_eq_zero (by rw[hlen];omega);rw[e0];unfold sliced;rw[Nat.sub_self];split<;>exact .gy _ _ _ _ _ E
  ·unfold sliced;rw[bk,<- hlen];have Om:(some (⟨b,off,none⟩:Addr)).map (·.add (a*aH tc))=some ⟨b,off+a*aH tc,none⟩:=by
    simp;unfold Addr.add;simp_all
   rw[Om];have O:∀ i (hi:i<((xs.take h).drop a).length),((xs.take h).drop a)[i]=xs[a+i]'(by omega):=by
    intro i hi;simp_all
   refine .aI _ _ _ _ _ b (off+a*aH tc) (c-a) (λi j=>u (a+i) j) Y hl hb hB (by omega) (λi hi j x D=>?_) (λi hi j x D=>?_)
   ·rw[O]at D;have:=hc _ _ j x D
    grind
   ·rw[O i]at D
    grind
def abO(s i j:Nat):V->ah V
 |.sl t _ _ l=>bif Nat.beq s (aH t)then some (.sl t 0 false ((l.take j).drop i))else none
 |_=>none
def wh{X:Type}(σ:S)(q:aa Nat)(s i j:Nat)(k:V->ah X):ah X:=
 jX σ.m q λy=>match abO s i j y with
  |some z=>k z
  |none=>none
def tE{X:Type}(σ:S)(y:A)(k:V->ah X):ah X:=
 match y with
 |.lf l=>qy σ l k
 |.view q s i j=>wh σ q s i j k
 |_=>none
def abP{q:aa Nat}{s i j:Nat}{k:V -> ah X}(h:wh σ q s i j k=some r):∃ z,k z=some r/\z.aI=true /\ ∀ w0 N aj ρ a w,Rl w0 N aj ρ σ a w -> ∀ u,RA w w0.heap.size aj ρ (.view q s i j) u -> ∀ B',RV w B' (λ_=>none) [] z u:=by
 obtain⟨y,U,E⟩:=tD q _ h;clear h;split at E
 ·rename_i z C;unfold abO at C;split at C
  ·rename_i t g Y l;cases I:Nat.beq s (aH t)with
   |false=>simp_all
   | true=>
    rw[I,aq]at C;obtain rfl:=cL I;injection C with C;subst C
    refine⟨_,E,rfl,λw0 N aj ρ a w hR u hu B'=>?_⟩
    obtain⟨A,n,c,hv,h1,h3,rfl⟩:=hu;obtain⟨v,D,hr⟩:=U.ok hR.root;rw[hv]at D;injection D with D;subst D;have O:RV w B' (λ_=>none) [] (.sl t 0 Y l) (.slice A n c):=hr.gT;have hn:n=l.length:=by cases O<;>rfl
    exact(O.part (by omega) h1 (by omega)).1
  ·cases C
 ·cases E
def vK{X:Type}(x:A)(k:V->ah X):ah X:=
 match x with
 |.lf (.v y)=>k y
 |_=>none
def U5{x:A}{k:V -> ah X}(h:vK x k=some r):∃ y,x = .lf (.v y)/\k y=some r:=by
 unfold vK at h
 grind
def RV.iE{q:aa Nat}{k:IntKind}{n:Int}{u:Value}(h:RV w B aj q (.int k n) u):u = .int k n:=by cases h;rfl
def RV.Ae{q:aa Nat}{n:Bool}{u:Value}(h:RV w B aj q (.bool n) u):u = .bool n:=by cases h;rfl
def RV.yj{q:aa Nat}{n:ByteArray}{u:Value}(h:RV w B aj q (.str n) u):u = .string n:=by cases h;rfl
/-! Arithmetic and comparison. -/
def bE(n:Nat):Bool:=decide (n<1073741824)
def Ix{X:Type}(P:Program)(ty:TypeId)(op:BinOp)(x y:V)(k:V->ah X):ah X:=
 match x,y with
 | .int C a,.int D b=>match op with
  |.shl=>if b<0 then none else k (.int C (C.wrap (a*2 ^ (min b.toNat C.bits))))
  |.shr=>if b<0 then none else k (.int C (a.fdiv (2 ^ (min b.toNat C.bits))))
  | op=>if C=D then (match op with
   |.add=>k (.int C (C.wrap (a+b)))
   |.sub=>k (.int C (C.wrap (a-b)))
   |.mul=>k (.int C (C.wrap (a*b)))
   |.quo=>if b=0 then none else k (.int C (C.wrap (a.tdiv b)))
   |.rem=>if b=0 then none else k (.int C (a.tmod b))
   |.and=>k (.int C (bits .and C a b))
   |.or=>k (.int C (bits .or C a b))
   |.xor=>k (.int C (bits .xor C a b))
   |.andNot=>k (.int C (bits .andNot C a b))
   |.eql=>k (.bool (a==b))
   |.neq=>k (.bool (a != b))
   |.lss=>k (.bool (decide (a<b)))
   |.leq=>k (.bool (decide (a<=b)))
   |.gtr=>k (.bool (decide (a > b)))
   |.geq=>k (.bool (decide (a >= b)))
   |_=>none)else none
 | .bool a,.bool b=>match P.underlying ty with
  | some .bool=>(match op with
   |.eql=>k (.bool (a==b))
   |.neq=>k (.bool (!(a==b)))
   |_=>none)
  |_=>none
 | .str a,.str b=>match op with
  |.add=>bif bE (a.size+b.size)then k (.str (a++b))else none
  |.eql=>k (.bool (a.toList==b.toList))
  |.neq=>k (.bool (!(a.toList==b.toList)))
  |_=>none
 |_,_=>none
def aoC{ty:TypeId}{U:BinOp}{x y:V}{k:V -> ah X}(h:Ix P ty U x y k=some r):∃ z,k z=some r/\z.plain=true /\ ∀ (w:World) (B:Nat) (aj:bJ) (E I:Operand) (q O:aa Nat) (u v:Value),RV w B aj q x u -> RV w B aj O y v ->
  ∃t,(do eqGuard U ty E I u v;binOp U ty u v:Sem Value).run P w = .ok t w/\RV w B aj [] z t:=by
 unfold Ix at h;split at h
 ·rename_i kx a ky b;split at h
  ·split at h
   ·cases h
   ·rename_i hb
    refine⟨_,h,rfl,λw B aj E I q O u v C D=>?_⟩
    obtain rfl:=C.iE;obtain rfl:=D.iE;exact⟨_,by simp[eqGuard,binOp,Op.shift,hb],.int _ _ _⟩
  ·split at h
   ·cases h
   ·rename_i hb
    refine⟨_,h,rfl,λw B aj E I q O u v C D=>?_⟩
    obtain rfl:=C.iE;obtain rfl:=D.iE;exact⟨_,by simp[eqGuard,binOp,Op.shift,hb],.int _ _ _⟩
  ·rename_i h1 h2;split at h
   ·rename_i hk;subst hk;cases U
    case shl=>exact absurd rfl h1
    case shr=>exact absurd rfl h2
    case quo=>
     by_cases hb:b=0
     ·simp only[hb,if_true]at h;cases h
     ·simp[hb]at h
      refine⟨_,h,rfl,λw B aj E I q O u v C D=>?_⟩
      obtain rfl:=C.iE;obtain rfl:=D.iE;exact⟨_,by simp[eqGuard,binOp,Op.intDiv,hb],.int _ _ _⟩
    case rem=>
     by_cases hb:b=0
     ·simp only[hb,if_true]at h;cases h
     ·simp[hb]at h
      refine⟨_,h,rfl,λw B aj E I q O u v C D=>?_⟩
      obtain rfl:=C.iE;obtain rfl:=D.iE;exact⟨_,by simp[eqGuard,binOp,Op.intDiv,hb],.int _ _ _⟩
    all_goals first
     | (refine⟨_,h,rfl,λw B aj E I q O u v C D=>?_⟩
        obtain rfl:=C.iE;obtain rfl:=D.iE
        first
         |(refine⟨_,?_,.int _ _ _⟩;simp[eqGuard,binOp,Op.intArith];done)
         |(refine⟨_,?_,.int _ _ _⟩;simp[eqGuard,binOp,intBits_and,intBits_or,intBits_xor,intBits_andNot];done)
         |(refine⟨_,?_,.bool _ _⟩;simp[eqGuard,binOp,Op.intCmp];done))
     |cases h
   ·cases h
 ·rename_i a b;split at h
  ·rename_i hty;split at h
   ·refine⟨_,h,rfl,λw B aj E I q O u v C D=>?_⟩
    obtain rfl:=C.Ae;obtain rfl:=D.Ae;have e:binOp .eql ty (.bool a) (.bool b)=(do pure (.bool (<- Op.equal ty (.bool a) (.bool b)))):=rfl;have g:eqGuard .eql ty E I (.bool a) (.bool b)=pure ():=rfl;exact⟨_,by rw[e,g,gN,Sem.run_pure,mS,gN,run_equal_bool _ _ _ _ hty];rfl,.bool _ _⟩
   ·refine⟨_,h,rfl,λw B aj E I q O u v C D=>?_⟩
    obtain rfl:=C.Ae;obtain rfl:=D.Ae;have e:binOp .neq ty (.bool a) (.bool b)=(do pure (.bool (!(<- Op.equal ty (.bool a) (.bool b))))):=rfl;have g:eqGuard .neq ty E I (.bool a) (.bool b)=pure ():=rfl;exact⟨_,by rw[e,g,gN,Sem.run_pure,mS,gN,run_equal_bool _ _ _ _ hty];rfl,.bool _ _⟩
   ·cases h
  ·cases h
 ·rename_i a b;split at h
  ·cases Y:bE (a.size+b.size)with
   |false=>rw[Y]at h;cases h
   | true=>
    rw[Y]at h
    refine⟨_,h,rfl,λw B aj E I q O u v C D=>?_⟩
    obtain rfl:=C.yj;obtain rfl:=D.yj;have hL':a.size+b.size<1073741824:=by simpa [bE]using Y
    refine⟨_,?_,.str _ _⟩;have h9:IntKind.i64.max=9223372036854775807:=rfl;simp only[eqGuard,binOp,Op.stringOp,h9];simp;omega
  ·refine⟨_,h,rfl,λw B aj E I q O u v C D=>?_⟩
   obtain rfl:=C.yj;obtain rfl:=D.yj;exact⟨_,by simp[eqGuard,binOp,Op.stringOp],.bool _ _⟩
  ·refine⟨_,h,rfl,λw B aj E I q O u v C D=>?_⟩
   obtain rfl:=C.yj;obtain rfl:=D.yj;exact⟨_,by simp[eqGuard,binOp,Op.stringOp],.bool _ _⟩
  ·cases h
 ·cases h
def Iy{X:Type}(D:UnOp)(x:V)(k:V->ah X):ah X:=
 match D,x with
 |.not,.bool b=>k (.bool (!b))
 |.neg,.int C n=>k (.int C (C.wrap (0-n)))
 |_,_=>none
def aoD{D:UnOp}{x:V}{k:V->ah X}(h:Iy D x k=some r):∃ z,k z=some r/\z.plain=true/\∀ (w:World) (B:Nat) (aj:bJ) (q:aa Nat) (u:Value),RV w B aj q x u->∃ t,(Op.unary D u).run P w = .ok t w/\RV w B aj [] z t:=by
 unfold Iy at h;split at h
 ·refine⟨_,h,rfl,λw B aj q u C=>?_⟩
  obtain rfl:=C.Ae;exact⟨_,by simp[Op.unary],.bool _ _⟩
 ·refine⟨_,h,rfl,λw B aj q u C=>?_⟩
  obtain rfl:=C.iE;exact⟨_,by simp[Op.unary,Op.intArith],.int _ _ _⟩
 ·cases h
def V.Iz{x:V}(h:x.plain=true):x.aI=true:=by cases x<;>first|rfl|cases h
end
def kr(P:Program)(t:TypeId):ah Nat:=(P.info? t).map (·.size)
def E3(P:Program)(t:TypeId):ah Bool:=
 match P.underlying t with
 |some (.struct _)|some (.array _ _)=>some true
 |some _=>some false
 |none=>none
def rm(P:Program)(t:TypeId):ah TypeId:=
 match P.underlying t with
 |some (.slice e)=>some e
 |_=>none
def IA(P:Program)(s:TypeId)(f:Nat):ah Field:=
 match P.underlying s with
 |some (.struct C)=>C[f]?
 |_=>none
def yl{X:Type}(P:Program)(t:TypeId)(cs:aa Lf)(k:A->ah X):ah X:=
 match kr P t with
 | some n=>if cs.length=n then (match E3 P t with
  |some true=>k (.agg cs)
  | some false=>(match cs with
   |[y]=>k (.lf y)
   |_=>none)
  |none=>none)else none
 |none=>none
def leaves(key:Nat->aa Nat):Nat->aa V->aa Lf
 |_,[]=>[]
 |j,z::C=>(bif z.aI then .v z else .own (key j))::leaves key (j+1) C
def pH{X:Type}(P:Program)(σ:S)(t:TypeId)(x:A)(k:A->ah X):ah X:=
 match kr P t with
 |none=>none
 | some n=>match x with
  | .aE r j=>(match σ.m r with
   |some (.aB cs)=>yl P t ((cs.drop j).take n) k
   |_=>none)
  |.jW cs=>yl P t ((cs.take n).map .v) k
  | .ptr (j :: i :: s :: q)=>jX σ.m q λy=>(match y with
   |.sl C (o+2) _ l=>if s=aH C then (if h:i<l.length then yl P t (leaves (λD=>D::i::s::q) j (((enc C o l[i]).drop j).take n)) k else none)else none
   |_=>none)
  |_=>none
section
variable {P:Program} {w:World} {w0:Wd} {B N:Nat} {aj:bJ} {ρ:Nat->Loc} {σ:S} {a:Act} {X:Type} {r:X} {o:Oper}
def abQ(key:Nat -> aa Nat):∀ (j:Nat) (C:aa V) (n:Nat),(leaves key j C)[n]?=(C[n]?).map λz=>bif z.aI then .v z else .own (key (j+n))
 |_,[],n=>by simp[leaves]
 |j,z::C,0=>by simp[leaves]
 | j,z :: C,n+1=>by
  simp[leaves,List.getElem?_cons_succ,abQ]
  grind
def U6{t:TypeId}{cs:aa Lf}{k:A -> ah X}(h:yl P t cs k=some r):∃ x,k x=some r /\ ∀ (w:World) (B:Nat) (aj:bJ) (ρ:Nat -> Loc) (b o:Nat) (D:aa Value),fy w B aj ρ cs D.toArray -> w.rangeAt b o D ->
  ∃v,(Instr.loadAt t (.pointer (some ⟨b,o,none⟩))).run P w = .ok v w/\RA w B aj ρ x v:=by
 unfold yl at h;split at h
 ·rename_i n U;split at h
  ·rename_i hlen;split at h
   ·rename_i C
    refine⟨_,h,λw B aj ρ b o D hl I=>?_⟩
    have O:D.length=n:=by have:=hl.1;simpa [hlen]using this
    unfold E3 at C;split at C
    next fs E=>exact⟨_,run_loadAt_mid w b o t D _ I E rfl (by rw[O];exact U),_,rfl,hl⟩
    next c e E=>exact⟨_,run_loadAt_mid w b o t D _ I E rfl (by rw[O];exact U),_,rfl,hl⟩
    ·cases C
    ·cases C
   ·rename_i C;split at h
    ·rename_i y
     refine⟨_,h,λw B aj ρ b o D hl I=>?_⟩
     have O:D.length=1:=by have:=hl.1;simpa using this
     obtain⟨v,rfl⟩:=List.length_eq_one_iff.1 O;have Y:w.cell? ⟨b,o,none⟩=some v:=I 0 v rfl;obtain⟨u,E,hR⟩:=hl.2 0 y rfl;have:v=u:=by simpa using E
     subst this;refine⟨v,?_,hR⟩;unfold E3 at C;split at C
     ·cases C
     ·cases C
     ·rename_i d hs ha E;have aoE:(isAgg t).run P w = .ok false w:=by
       unfold isAgg;rw[gN,iJ E];simp_all
      simp[Instr.loadAt,Instr.sureAddr,loadVar,gN,aoE,load,Sem.run,Y]
     ·cases C
    ·cases h
   ·cases h
  ·cases h
 ·cases h
def Oy{α:Type}(l:aa α)(j n i:Nat)(x:α)(h:((l.drop j).take n)[i]?=some x):i<n/\l[j+i]?=some x:=by grind
def abR{t:TypeId}{x:A}{k:A -> ah X}(h:pH P σ t x k=some r):∃ y,k y=some r /\ ∀ aj ρ a w,Rl w0 N aj ρ σ a w -> ∀ u,RA w w0.heap.size aj ρ x u ->
  ∃v,(Instr.loadAt t u).run P w = .ok v w/\RA w w0.heap.size aj ρ y v:=by
 unfold pH at h;split at h
 ·cases h
 ·rename_i n hn;split at h
  ·rename_i r' j;split at h
   ·rename_i cs gA;obtain⟨y,hy,hf⟩:=U6 h
    refine⟨y,hy,λaj ρ a w hR u hu=>?_⟩
    obtain⟨b,off,cu,rfl⟩:=hu;have O:=hR.root r' _ gA;generalize Y:aX.aB cs=x at O;cases O with
    |sl=>cases Y
    |mp=>cases Y
    |gh=>cases Y
    | aB b' Cn cells e fM us jO hl hh hs hc=>
     injection Y with Y;subst Y;rw[cu]at jO;injection jO with e1 e2;subst e1 e2
     refine hf w _ aj ρ b (off+j) (((cs.drop j).take n).mapIdx λi _=>us (j+i)) ⟨by simp,λi x C=>?_⟩ (λi v D=>?_)
     ·obtain⟨hi,l5⟩:=Oy _ _ _ _ _ C;simp_all
     ·rw[List.getElem?_mapIdx]at D;cases C:((cs.drop j).take n)[i]? with
      |none=>rw[C]at D;cases D
      | some x=>
       rw[C]at D;injection D with D;subst D;obtain⟨hi,l5⟩:=Oy _ _ _ _ _ C;rw[cell_of_row w b _ cells _ _ hh,Nat.add_assoc];simp_all
   ·cases h
  ·rename_i cs;obtain⟨y,hy,hf⟩:=U6 h
   refine⟨y,hy,λaj ρ a w hR u hu=>?_⟩
   obtain⟨b,off,rfl,hb,hl,hc⟩:=hu;have tF:∀ (i:Nat) (x:Lf),((cs.take n).map Lf.v)[i]?=some x -> ∃ z v,x = .v z/\z.aI=true/\w.cell? ⟨b,off+i,none⟩=some v/\RV w w0.heap.size aj [] z v:=by
    intro i x C;rw[fh]at C;cases I:(cs.take n)[i]? with
    |none=>rw[I]at C;cases C
    | some z=>
     rw[I]at C;injection C with C;rw[List.getElem?_take]at I;split at I
     ·obtain⟨E4,v,D,O⟩:=hc i z I
      grind
     ·cases I
   refine hf w _ aj ρ b off (((cs.take n).map Lf.v).mapIdx λi _=>(w.cell? ⟨b,off+i,none⟩).getD undef) ⟨by simp,λi x C=>?_⟩ (λi v D=>?_)
   ·obtain⟨z,v,rfl,E4,D,O⟩:=tF i x C;refine⟨v,?_,E4,O⟩;simp_all
   ·rw[List.getElem?_mapIdx]at D;cases C:((cs.take n).map Lf.v)[i]? with
    |none=>rw[C]at D;cases D
    |some x =>grind
  ·rename_i j i s q;obtain⟨y0,hg,U⟩:=tD _ _ h;clear h;split at U
   ·rename_i E o' qn l;split at U
    ·rename_i hs;subst hs;split at U
     ·rename_i hi;obtain⟨y,hy,hf⟩:=U6 U
      refine⟨y,hy,λaj ρ a w hR u hu=>?_⟩
      obtain⟨ad,rfl,qx⟩:=hu;obtain⟨D,mB,mC⟩:=hg.ok hR.root;cases mC with
      |fq=>simp at hi
      |gy=>simp at hi
      |gL=>simp at hi
      |aI _ _ _ _ _ _ _ _ _ ho=>omega
      | own _ _ _ _ _ b cap cs us qz hh hs hn wg hc O=>
       rw[E2 j i (aH E) mB qz]at qx;injection qx with qx;subst qx;have tF:∀ (m:Nat) (x:Lf),(leaves (λj'=>j' :: i :: aH E :: q) j (((enc E o' l[i]).drop j).take n))[m]?=some x -> cs[i*aH E+(j+m)]?=some (us i (j+m))/\eS w w0.heap.size aj ρ x (us i (j+m)):=by
        intro m x C;rw[abQ]at C;cases I:(((enc E o' l[i]).drop j).take n)[m]? with
        |none=>rw[I]at C;cases C
        | some z=>
         rw[I]at C;injection C with C;have C:(bif z.aI then Lf.v z else Lf.own ((j+m)::i::aH E::q))=x:=C;obtain⟨_,E5⟩:=Oy _ _ _ _ _ I;have h3:=hc i hi _ z E5;have h4:=O i hi _ z E5;refine⟨h3,?_⟩;cases E6:z.aI with
         | true=>
          rw[E6]at C;subst C;exact⟨E6,h4.key E6⟩
         | false=>
          rw[E6]at C;have C:Lf.own ((j+m)::i::aH E::q)=x:=C;subst C;refine⟨?_,?_⟩
          ·exact h4.UT E6
          ·rw[UX,E2 _ i _ mB qz];show w.cell? _=_;rw[cell_of_row w b _ cs _ _ hh];exact h3
       refine hf w _ aj ρ b (i*aH E+j) ((leaves (λj'=>j'::i::aH E::q) j (((enc E o' l[i]).drop j).take n)).mapIdx λm _=>us i (j+m)) ⟨by simp,λm x C=>?_⟩ (λm v D=>?_)
       ·simp[*]
       ·rw[List.getElem?_mapIdx]at D;cases C:(leaves (λj'=>j' :: i :: aH E :: q) j (((enc E o' l[i]).drop j).take n))[m]? with
        |none=>rw[C]at D;cases D
        | some x=>
         rw[C]at D;injection D with D;subst D;rw[cell_of_row w b _ cs _ _ hh,Nat.add_assoc];simp_all
     ·cases U
    ·cases U
   ·cases U
  ·cases h
end
def A.Af:A->ah (aa Lf)
 |.lf x=>some [x]
 |.agg xs=>some xs
 |_=>none
def Lf.live:Lf->Bool
 |.dead=>false
 |_=>true
def Lf.pl:Lf->ah V
 |.v x=>bif x.plain then some x else none
 |_=>none
def sD:aa Lf->ah (aa V)
 |[]=>some []
 | x :: xs=>match x.pl,sD xs with
  |some y,some ys=>some (y::ys)
  |_,_=>none
def ym{X:Type}(m:Nat->ah aX):aa Nat->V->((Nat->ah aX)->ah X)->ah X
 | [r],y,k=>match m r with
  |some (.sl _)=>k (cc m r (some (.sl y)))
  |_=>none
 | j :: i :: s :: q,y,k=>jX m q λz=>match z with
  | .sl t (o+2) C l=>if s=aH t then (if h:i<l.length then (if j<aH t then (match dec t o (splice (enc t o l[i]) j [y])with
   |some e=>ym m q (.sl t (o+2) C (l.set i e)) k
   |none=>none)else none)else none)else none
  |_=>none
 |_,_,_=>none
def rq{X:Type}(P:Program)(σ:S)(t:TypeId)(x y:A)(k:S->ah X):ah X:=
 match kr P t,y.Af with
 | some n,some xs=>if xs.length=n then (match x with
  | .aE r j=>(match σ.m r with
   |some (.aB cs)=>if j+n<=cs.length then (bif xs.all Lf.live then k ⟨σ.t,cc σ.m r (some (.aB (splice cs j xs)))⟩else none)else none
   |_=>none)
  | .ptr (j :: i :: s :: q)=>(match sD xs with
   |none=>none
   | some D=>jX σ.m q λy=>(match y with
    | .sl C (o+2) E l=>if s=aH C then (if h:i<l.length then (if j+D.length<=aH C then (bif (((enc C o l[i]).drop j).take D.length).all V.plain then (match dec C o (splice (enc C o l[i]) j D)with
     |some e=>ym σ.m q (.sl C (o+2) E (l.set i e)) λm=>k ⟨σ.t,m⟩
     |none=>none)else none)else none)else none)else none
    |_=>none))
  |_=>none)else none
 |_,_=>none
section
variable {P:Program} {w:World} {w0:Wd} {B N:Nat} {aj:bJ} {ρ:Nat->Loc} {σ:S} {a:Act} {X:Type} {r:X} {o:Oper}
def abS{m:Nat -> ah aX}:∀ (q:aa Nat) (y:V) (k:(Nat -> ah aX) -> ah X),ym m q y k=some r -> ∃ m',Aa m q y m'/\k m'=some r
 |[],_,_,h=>by simp[ym]at h
 | [x],y,k,h=>by
  simp only[ym]at h;split at h
  next D E=>exact⟨_,.root x D y E,h⟩
  ·cases h
 | j :: i :: s :: q,y,k,h=>by
  simp only[ym]at h;obtain⟨z,I,C⟩:=tD q _ h;clear h;split at C
  ·split at C
   ·rename_i O;subst O;split at C
    ·rename_i hi;split at C
     ·rename_i U;split at C
      next e Y=>obtain⟨m',ru,h3⟩:=abS q _ k C;exact⟨m',.elem j i q _ _ _ _ y e m' I hi U Y ru,h3⟩
      ·cases C
     ·cases C
    ·cases C
   ·cases C
  ·cases C
def Oz:∀ (xs:aa Lf) (C:aa V),sD xs=some C -> xs=C.map .v /\ ∀ v∈C,v.plain=true
 | [],C,h=>by
  simp[sD]at h;subst h;exact⟨rfl,by simp⟩
 | x :: xs,C,h=>by
  unfold sD at h;split at h
  ·rename_i y ys D E;injection h with h;subst h;obtain⟨I,O⟩:=Oz xs ys E;have:x = .v y/\y.plain=true:=by
    cases x with
    | v z=>
     unfold Lf.pl at D
     grind
    |own q=>cases D
    |dead=>cases D
   simp_all
  ·cases h
def aoF{u:Value}(h:u.oneCell'=true):u.cells = #[u]:=by cases u<;>first|rfl|cases h
def eS.one{x:Lf}{u:Value}(h:eS w B aj ρ x u)(C:x.live=true):u.oneCell'=true:=by
 cases x with
 |v z=>exact h.2.one
 | own k=>
  have:=h.1;cases u<;>first|rfl|cases this
 |dead=>cases C
def IB{y:A}{xs:aa Lf}(h:y.Af=some xs)(D:xs.all Lf.live=true){u:Value}(C:RA w B aj ρ y u):fy w B aj ρ xs u.cells/\u.cells.all (·.oneCell')=true:=by
 have key:∀ us:Array Value,fy w B aj ρ xs us -> us.all (·.oneCell')=true:=by
  intro us E;rw[Array.all_eq_true];intro i hi;have O:=bT (by rw[<- E.1];exact hi);obtain⟨v,I,U⟩:=E.2 i _ O;have:us[i]=v:=by rw[Array.getElem?_eq_getElem hi]at I;injection I
  rw[this];exact U.one (ck.1 D _ (cQ _))
 cases y with
 | lf x=>
  injection h with h;subst h;have C:eS w B aj ρ x u:=C;have Y:=C.one (by simpa using D);have:fy w B aj ρ [x] u.cells:=by
   rw[aoF Y]
   refine⟨rfl,λj y hy=>?_⟩
   grind
  simp_all
 | agg xs'=>
  injection h with h;subst h;obtain⟨us,rfl,h⟩:=C;exact⟨h,key _ h⟩
 |_=>cases h
def U7(w:World)(b o:Nat)(ty:TypeId)(v:Value)(D:w.there b o v.cells.size)(hi:(P.info? ty).map (·.size)=some v.cells.size)(I:v.cells.all (·.oneCell')=true):
  (Instr.storeAt ty (.pointer (some ⟨b,o,none⟩)) v).run P w = .ok () (w.setCells b o v.cells.toList):=by
 have:=run_storeCells_cells (P:=P) b o v.cells.toList 0 w (λj C=>by simpa using (D j (by simpa using C)).1) (λj C=>by simpa using (D j (by simpa using C)).2)
  (λv O=>(Array.all_eq_true_iff_forall_mem.1 I) v (by simpa using O))
 cases E:P.info? ty with
 |none=>simp_all
 | some i=>
  have U:v.cells.size=i.size:=by simp[E]at hi;omega
  simp[Instr.storeAt,Instr.sureAddr,storeVar,sizeOf,typeInfo,E,U,this]
def abT{t:TypeId}{x y:A}{k:S -> ah X}(h:rq P σ t x y k=some r):∃ cW,k cW=some r /\ ∀ aj ρ a w,Rl w0 N aj ρ σ a w -> ∀ u v,RA w w0.heap.size aj ρ x u -> RA w w0.heap.size aj ρ y v ->
  ∃w',(Instr.storeAt t u v).run P w = .ok () w'/\Rl w0 N aj ρ cW a w':=by
 unfold rq at h;split at h
 ·rename_i n xs hn oE;split at h
  ·rename_i hlen;split at h
   ·rename_i r' j;split at h
    ·rename_i cs gA;split at h
     ·rename_i Y;cases I:xs.all Lf.live with
      |false=>grind
      | true=>
       rw[I]at h
       refine⟨_,h,λaj ρ a w hR u v hu hv=>?_⟩
       obtain⟨b,off,cu,rfl⟩:=hu;obtain⟨hl,m7⟩:=IB oE I hv;obtain⟨b',Cn,jO,IC,fz⟩:=hR.Iv gA hl (by rw[hlen];exact Y);rw[cu]at jO;injection jO with e1 e2;subst e1 e2;exact⟨_,U7 w b (off+j) t v IC (by rw[hl.1,hlen];exact hn) m7,fz⟩
     ·cases h
    ·cases h
   ·rename_i j i s q;split at h
    ·cases h
    ·rename_i E jz;obtain⟨y0,hg,C⟩:=tD _ _ h;clear h;split at C
     ·rename_i t' o' qn l;split at C
      ·rename_i hs;subst hs;split at C
       ·rename_i hi;split at C
        ·rename_i Y;cases hold:(((enc t' o' l[i]).drop j).take E.length).all V.plain with
         |false=>grind
         | true=>
          rw[hold,aq]at C;split at C
          ·rename_i e he;obtain⟨m',ru,h3⟩:=abS q _ _ C
           refine⟨_,h3,λaj ρ a w hR u v hu hv=>?_⟩
           obtain⟨ad,rfl,qx⟩:=hu;obtain⟨O,OA⟩:=Oz xs E jz;have I:xs.all Lf.live=true:=by rw[O];simp[Lf.live]
           obtain⟨hl,m7⟩:=IB oE I hv;have yo:E.length=n:=by rw[<- hlen,O,fN]
           have q1:∀ (D:Nat) x,D<E.length -> (enc t' o' l[i])[j+D]?=some x -> x.plain=true:=by
            intro D x rj hx;refine ck.1 hold x (iB (i:=D) ?_);simp_all
           have q2:∀ (D:Nat) x,E[D]?=some x -> ∃ U,v.cells[D]?=some U/\RV w w0.heap.size aj [] x U:=by
            intro D x hx;obtain⟨U,tG,gz⟩:=hl.2 D (.v x) (by rw[O,fh,hx];rfl);exact⟨U,tG,gz.2⟩
           obtain⟨b,hb,IC,fz⟩:=hR.aoz (xs:=E) (us:=v.cells) hg hi Y he q1 OA (by rw[hl.1,O,fN]) q2 ru;rw[qx]at hb;injection hb with hb;subst hb;exact⟨_,U7 w b _ t v IC (by rw[hl.1,hlen];exact hn) m7,fz⟩
          ·cases C
        ·cases C
       ·cases C
      ·cases C
     ·cases C
   ·cases h
  ·cases h
 ·cases h
end
def E7{X:Type}(P:Program)(s:TypeId)(x:A)(f:Nat)(k:A->ah X):ah X:=
 match IA P s f with
 |none=>none
 | some C=>match kr P C.type with
  | some (_+1)=>(match x with
   |.aE r j=>k (.aE r (j+C.offset))
   |.jW cs=>k (.jW (cs.drop C.offset))
   |.ptr (j::i::s::q)=>k (.ptr ((j+C.offset)::i::s::q))
   |_=>none)
  |_=>none
def Ag{X:Type}(P:Program)(σ:S)(t:TypeId)(x i:A)(k:A->ah X):ah X:=
 match rm P t with
 |none=>none
 | some e=>match kr P e,i with
  | some n,.lf (.v (.int _ iv))=>(match x with
   |.lf (.v (.sl C g _ l))=>if n=aH C then (bif Nat.blt g 2 then (if h:0<=iv/\iv.toNat<l.length then k (.jW (enc C g (l[iv.toNat]'h.2)))else none)else none)else none
   | .lf (.own q)=>jX σ.m q λy=>(match y with
    |.sl C g _ l=>if n=aH C then (if h:0<=iv/\iv.toNat<l.length then (bif Nat.blt g 2 then k (.jW (enc C g (l[iv.toNat]'h.2)))else k (.ptr (0::iv.toNat::aH C::q)))else none)else none
    |_=>none)
   |_=>none)
  |_,_=>none
def Co{X:Type}(P:Program)(σ:S)(t:TypeId)(x:A)(k:A->ah X):ah X:=
 match x with
 | .lf y=>qy σ y λz=>(match z with
  |.sl _ _ _ l=>(match P.underlying t with|some (.slice _)=>k (.lf (.v (.int .i64 (l.length:Int))))|_=>none)
  |.nil=>(match P.underlying t with|some (.slice _)=>k (.lf (.v (.int .i64 0)))|_=>none)
  |.str s=>(match P.underlying t with|some .string=>k (.lf (.v (.int .i64 (s.size:Int))))|_=>none)
  |_=>none)
 |.view _ _ i j=>(match P.underlying t with|some (.slice _)=>k (.lf (.v (.int .i64 ((j-i:Nat):Int))))|_=>none)
 |_=>none
def Ah:Bool×aa Lf->ah A
 |(true,cs)=>some (.agg cs)
 |(false,[y])=>some (.lf y)
 |_=>none
def Cp{X:Type}(x:A)(i:Nat)(k:A->ah X):ah X:=
 match x with
 | .fO xs=>match (xs[i]?).bind Ah with
  |some y=>k y
  |none=>none
 |_=>none
section
variable {P:Program} {w:World} {w0:Wd} {B N:Nat} {aj:bJ} {ρ:Nat->Loc} {σ:S} {a:Act} {X:Type} {r:X} {o:Oper} {w':World} {aD:bJ} {ρ':Nat->Loc} {d:Nat}
def aoG(n:Nat){j i s:Nat}{q:aa Nat}{ad:Addr}(h:addrAt w aj ρ (j :: i :: s :: q)=some ad):addrAt w aj ρ ((j+n) :: i :: s :: q)=some ⟨ad.block,ad.off+n,none⟩:=by
 match q,h with
 | [r],h=>
  simp[addrAt]at h ⊢;split at h
  ·grind
  ·cases h
 | x :: y :: q,h=>
  simp[addrAt]at h ⊢;split at h
  ·grind
  ·cases h
def U8(w:World)(s:TypeId)(f:Nat)(C:Field)(n b off:Nat)(D:IA P s f=some C)(E:kr P C.type=some (n+1)):
  (Instr.fieldAt s (.pointer (some ⟨b,off,none⟩)) f).run P w = .ok (.pointer (some ⟨b,off+C.offset,none⟩)) w:=by
 unfold IA at D;split at D
 ·rename_i U O;unfold kr at E;cases I:P.info? C.type with
  |none=>simp_all
  | some i=>
   have hi:i.size=n+1:=by simpa [I]using E
   simp[Instr.fieldAt,iJ O,D,Instr.sureAddr,fieldPlace,sizeOf,typeInfo,I,hi,Addr.add_mid]
 ·cases D
def aoH{s:TypeId}{x:A}{f:Nat}{k:A -> ah X}(h:E7 P s x f k=some r):∃ y,k y=some r /\ ∀ (w:World) (B:Nat) (aj:bJ) (ρ:Nat -> Loc) (u:Value),RA w B aj ρ x u ->
  ∃v,(Instr.fieldAt s u f).run P w = .ok v w/\RA w B aj ρ y v:=by
 unfold E7 at h;split at h
 ·cases h
 ·rename_i D E;split at h
  ·rename_i n I;split at h
   ·rename_i r' j
    refine⟨_,h,λw B aj ρ u C=>?_⟩
    obtain⟨b,off,Y,rfl⟩:=C;exact⟨_,U8 w s f D n b _ E I,b,off,Y,by rw[Nat.add_assoc]⟩
   ·rename_i cs
    refine⟨_,h,λw B aj ρ u C=>?_⟩
    obtain⟨b,off,rfl,hb,hl,hc⟩:=C
    refine⟨_,U8 w s f D n b _ E I,b,_,rfl,hb,hl,λj x hx=>?_⟩
    grind
   ·rename_i j i s' q
    refine⟨_,h,λw B aj ρ u C=>?_⟩
    obtain⟨ad,rfl,O⟩:=C;have h2:=aoG D.offset O;obtain⟨_,_,_,_,_,_,_,U,_⟩:=Cj _ _ O;obtain⟨b,off,sp⟩:=ad;simp only at U;subst U;exact⟨_,U8 w s f D n b off E I,_,rfl,h2⟩
   ·cases h
  ·cases h
def U9(w:World)(t e:TypeId)(n b off len cap:Nat)(I:IntKind)(iv:Int)(C:rm P t=some e)(D:kr P e=some n)(O:0 <= iv)(h1:iv.toNat<len):
  (Instr.indexAt t (.slice (some ⟨b,off,none⟩) len cap) (.int I iv)).run P w = .ok (.pointer (some ⟨b,off+iv.toNat*n,none⟩)) w:=by
 unfold rm at C;split at C
 ·rename_i U Y;injection C with C;subst C;unfold kr at D;cases E:P.info? U with
  |none=>simp_all
  | some i=>
   have hi:i.size=n:=by simpa [E]using D
   have h2:iv<len:=by omega
   simp[Instr.indexAt,iJ Y,asIntOf,O,h2,sizeOf,typeInfo,E,hi,Addr.add_mid]
 ·cases C
def aoI{t:TypeId}{x i:A}{k:A -> ah X}(h:Ag P σ t x i k=some r):∃ y,k y=some r /\ ∀ aj ρ a w,Rl w0 N aj ρ σ a w -> ∀ u v,RA w w0.heap.size aj ρ x u -> RA w w0.heap.size aj ρ i v ->
  ∃p,(Instr.indexAt t u v).run P w = .ok p w/\RA w w0.heap.size aj ρ y p:=by
 unfold Ag at h;split at h
 ·cases h
 ·rename_i e he;split at h
  ·rename_i n kk iv hn;split at h
   ·rename_i t' g qn l;split at h
    ·rename_i Cq;subst Cq;cases D:Nat.blt g 2 with
     |false=>grind
     | true=>
      rw[D,aq]at h;split at h
      ·rename_i hb
       refine⟨_,h,λaj ρ a w hR u v E I=>?_⟩
       obtain rfl:=I.2.iE;have oF:g<2:=by have:=dj D;omega
       cases E.2 with
       |fq=>simp at hb
       |gy=>simp at hb
       |gL=>simp at hb
       |own=>grind
       | aI _ _ _ _ _ b off cap us ho hl E8 h1 jM hc hr=>
        refine⟨_,U9 w t e _ b off _ cap kk iv he hn hb.1 hb.2,b,_,rfl,E8,hl,λj x O=>⟨sy t' g _ oF j x O,us _ j,?_,hr _ hb.2 j x O⟩⟩
        grind
      ·cases h
    ·cases h
   ·rename_i q;obtain⟨y0,D,C⟩:=tD _ _ h;clear h;split at C
    ·rename_i t' U qn l;split at C
     ·rename_i Cq;subst Cq;split at C
      ·rename_i hb;cases Y:Nat.blt U 2 with
       | true=>
        rw[Y,aq]at C;have ho2:U<2:=dj Y
        refine⟨_,C,λaj ρ a w hR u v E I=>?_⟩
        obtain rfl:=I.2.iE;obtain⟨uH,mB,mC⟩:=D.ok hR.root;have:uH=u:=by
         have h3:=E.2;simp_all
        subst this;cases mC with
        |fq=>simp at hb
        |gy=>simp at hb
        |gL=>simp at hb
        |own=>grind
        | aI _ _ _ _ _ b off cap us ho hl E8 h1 jM hc hr=>
         refine⟨_,U9 w t e _ b off _ cap kk iv he hn hb.1 hb.2,b,_,rfl,E8,hl,λj x O=>⟨sy t' U _ ho2 j x O,us _ j,?_,hr _ hb.2 j x O⟩⟩
         grind
       | false=>
        rw[Y,av]at C;have ho2:¬ U<2:=λdQ=>by have h9:Nat.blt U 2=true:=mT dQ;rw[h9]at Y;cases Y
        refine⟨_,C,λaj ρ a w hR u v E I=>?_⟩
        obtain rfl:=I.2.iE;obtain⟨uH,mB,mC⟩:=D.ok hR.root;have:uH=u:=by
         have h3:=E.2;simp_all
        subst this;cases mC with
        |fq=>simp at hb
        |gy=>simp at hb
        |gL=>simp at hb
        |aI _ _ _ _ _ _ _ _ _ ho=>omega
        | own _ _ _ _ _ b cap cs us qz hh hs rj wg hc hr=>
         refine⟨_,U9 w t e _ b 0 _ cap kk iv he hn hb.1 hb.2,_,rfl,?_⟩;rw[E2 0 _ _ mB qz];simp
      ·cases C
     ·cases C
    ·cases C
   ·cases h
  ·cases h
def aoJ{t ty:TypeId}{x:A}{k:A->ah X}(h:Co P σ t x k=some r):∃ y,k y=some r/\∀ aj ρ a w,Rl w0 N aj ρ σ a w->∀ u,RA w w0.heap.size aj ρ x u->
  ∃v,(Builtin.len_ #[t] ty #[u]).run P w = .ok v w/\RA w w0.heap.size aj ρ y v:=by
 unfold Co at h;split at h
 ·rename_i y;have key:∃ z,(∀ aj ρ a w,Rl w0 N aj ρ σ a w->∀ u,eS w w0.heap.size aj ρ y u->∃ q,RV w w0.heap.size aj q z u)/\(match z with
    |.sl _ _ _ l=>(match P.underlying t with|some (.slice _)=>k (.lf (.v (.int .i64 (l.length:Int))))|_=>none)
    |.nil=>(match P.underlying t with|some (.slice _)=>k (.lf (.v (.int .i64 0)))|_=>none)
    |.str s=>(match P.underlying t with|some .string=>k (.lf (.v (.int .i64 (s.size:Int))))|_=>none)
    |_=>none)=some r:=by
   cases y with
   |v z=>exact⟨z,λaj ρ a w _ u D=>⟨[],D.2⟩,h⟩
   |dead=>cases h
   | own q=>
    obtain⟨z,O,h⟩:=tD q _ h
    refine⟨z,λaj ρ a w hR u D=>?_,h⟩
    obtain⟨v,Y,I⟩:=O.ok hR.root;have U:=D.2;rw[Y]at U;injection U with U;subst U;exact⟨q,I⟩
  obtain⟨z,O,C⟩:=key;clear h;split at C
  ·rename_i t' g qn l;split at C
   ·rename_i e E
    refine⟨_,C,λaj ρ a w hR u D=>?_⟩
    obtain⟨q,I⟩:=O aj ρ a w hR u D;cases I with
    |fq=>exact⟨_,by simp[Builtin.len_,iJ E,goInt],rfl,.int _ _ _⟩
    |gy=>exact⟨_,by simp[Builtin.len_,iJ E,goInt],rfl,.int _ _ _⟩
    |gL=>exact⟨_,by simp[Builtin.len_,iJ E,goInt],rfl,.int _ _ _⟩
    |aI=>exact⟨_,by simp[Builtin.len_,iJ E,goInt],rfl,.int _ _ _⟩
    |own=>exact⟨_,by simp[Builtin.len_,iJ E,goInt],rfl,.int _ _ _⟩
   ·cases C
  ·split at C
   ·rename_i e E
    refine⟨_,C,λaj ρ a w hR u D=>?_⟩
    obtain⟨q,I⟩:=O aj ρ a w hR u D;cases I;exact⟨_,by simp[Builtin.len_,iJ E,goInt],rfl,.int _ _ _⟩
   ·cases C
  ·split at C
   ·rename_i E
    refine⟨_,C,λaj ρ a w hR u D=>?_⟩
    obtain⟨q,I⟩:=O aj ρ a w hR u D;obtain rfl:=I.yj;exact⟨_,by simp[Builtin.len_,iJ E,goInt],rfl,.int _ _ _⟩
   ·cases C
  ·cases C
 ·split at h
  ·rename_i e E
   refine⟨_,h,λaj ρ a w hR u D=>?_⟩
   obtain⟨A,n,c,Y,h1,C,rfl⟩:=D;exact⟨_,by cases A<;>simp[sliced,Builtin.len_,iJ E,goInt],rfl,.int _ _ _⟩
  ·cases h
 ·cases h
def Va{p:Bool×aa Lf}{y:A}(h:Ah p=some y){u:Value}(C:RP w B aj ρ p u):RA w B aj ρ y u:=by
 unfold Ah at h;split at h
 ·injection h with h;subst h;exact C
 ·rename_i z;injection h with h;subst h;obtain⟨D,E,I⟩:=C.2 0 z rfl;have:u=D:=by simpa using E
  subst this;exact I
 ·cases h
def aoK{x:A}{i:Nat}{k:A -> ah X}(h:Cp x i k=some r):∃ y,k y=some r /\ ∀ (w:World) (B:Nat) (aj:bJ) (ρ:Nat -> Loc) (u:Value),RA w B aj ρ x u ->
  ∃v,(Instr.extract u i).run P w = .ok v w/\RA w B aj ρ y v:=by
 unfold Cp at h;split at h
 ·rename_i xs;split at h
  ·rename_i y C
   refine⟨y,h,λw B aj ρ u E=>?_⟩
   obtain⟨us,rfl,Y,I⟩:=E;cases D:xs[i]? with
   |none=>simp_all
   | some p=>
    rw[D]at C;obtain⟨v,O,U⟩:=I i p D;exact⟨v,by simp[Instr.extract,O],Va C U⟩
  ·cases h
 ·cases h
def abU{k:aa Nat}(h:dZ d k=true):[d] <:+ k:=by
 have h:k.getLast?=some d:=by simpa [dZ]using h
 obtain⟨y,C⟩:=List.getLast?_eq_some_iff.1 h;simp_all
def Vb{j i s:Nat}{q:aa Nat}(C:q≠[]):dZ d (j :: i :: s :: q)=dZ d q:=by
 cases q with
 |nil=>simp_all
 |cons x q=>simp[dZ]
structure E9 (w w':World) (aj aD:bJ) (d:Nat):Prop where
 size:w.heap.size<=w'.heap.size
 block:∀b,b<w.heap.size->aj b≠some [d]->w'.heap[b]?=w.heap[b]?
 Vc:∀b,b<w.heap.size->aD b=aj b
 ne:∀b,aj b≠some []
def E9.tr(C:E9 w w' aj aD d)(D:∀ b k,aj b=some k->b<w.heap.size)(E:∀ r,r≠d->ρ' r=ρ r):Tr w w' aj aD ρ ρ' (dZ d) (λr=>Nat.beq r d):=by
 refine⟨C.size,λb hb hl=>⟨C.block b hb (by rw[hl];simp),(C.Vc b hb).trans hl⟩,λb k hl I=>⟨C.block b (D b k hl) ?_,(C.Vc b (D b k hl)).trans hl⟩,λr O=>E r (by rintro rfl;simp at O),λj i s x q=>Vb (by simp),λb hb=>absurd hb (C.ne b)⟩
 rw[hl];intro e;injection e with e;subst e;simp[dZ]at I
def RA.Vd{x:A}{u:Value}(h:RA w B aj ρ x u)(C:E9 w w' aj aD d)(D:∀b k,aj b=some k->b<w.heap.size)(E:∀r,r≠d->ρ' r=ρ r):RA w' B aD ρ' (x.drop d) u:=h.tr (C.tr D E) (v9 (λ_ h=>h) λ_=>qq)
def eV.Vd{r:Nat}(C:r≠d){x:aX}(h:eV w B aj ρ r x)(D:E9 w w' aj aD d)(E:∀b k,aj b=some k->b<w.heap.size)(I:∀r,r≠d->ρ' r=ρ r):eV w' B aD ρ' r (x.drop d):=h.tr (D.tr E I) (v9 (λ_ h=>h) λ_=>qq) (by simpa [dZ]using C) (qq C)
def Rl.Ai{x:aX}(h:Rl w0 N aj ρ σ a w)(Y:w0.F d=none)(hb:lz w0 w w')(E:E9 w w' aj aD d)(hg:∀ b k,w.heap.size <= b -> aD b=some k -> b<w'.heap.size/\k≠[])(I:∀ r,r≠d -> ρ' r=ρ r)(hx:eV w' w0.heap.size aD ρ' d x):
  Rl w0 N aD ρ' ((σ.drop d).root d x) a w':=by
 have U:=λb k hb=>(h.dI b k hb).2.1
 refine⟨h.below.trans hb,λb k O=>?_,λr y C=>?_,λk=>(h.tmp k).Vd E U I,h.size,h.defers,λr l' D=>(I r (by rintro rfl;rw[Y]at D;cases D)).trans (h.fix r l' D),h.dY⟩
 ·rcases Nat.lt_or_ge b w.heap.size with dQ | qt
  ·rw[E.Vc b dQ]at O;have:=h.dI b k O;exact⟨this.1,Nat.lt_of_lt_of_le this.2.1 E.size,this.2.2⟩
  ·have:=hg b k qt O;exact⟨.inl (Nat.le_trans h.below.size qt),this.1,this.2⟩
 ·by_cases D:r=d
  ·subst D;have C:(cc (σ.drop r).m r _) r=some y:=C;rw[cm]at C;simp_all
  ·have C:(cc (σ.drop d).m d (some x)) r=some y:=C;rw[cN _ _ _ D]at C;have hb:Nat.beq r d=false:=by
    cases hb:Nat.beq r d with
    |false=>rfl
    |true=>simp_all
   simp only[S.drop,hb,av]at C;cases hm:σ.m r with
   |none=>simp_all
   | some z=>
    rw[hm]at C;injection C with C;subst C;exact(h.root r z hm).Vd D E U I
end
def jP(q:Nat)(nk k:aa Nat):aa Nat:=bif dZ q k then k.dropLast++nk else k
def bJ.jP(aj:bJ)(q:Nat)(nk:aa Nat):bJ:=λb=>(aj b).map (Proofs.YtdfkhfiglknaoaaGreat.jP q nk)
section
variable {P:Program} {w w':World} {w0:Wd} {B N:Nat} {aj aD:bJ} {ρ ρ':Nat->Loc} {σ:S} {a:Act} {X:Type} {d q:Nat} {nk:aa Nat}
def aoL:jP q nk [q]=nk:=by simp[jP,dZ]
def aoM{k:aa Nat}(h:dZ q k=false):jP q nk k=k:=by simp[jP,h]
def aoN{j i s:Nat}{k:aa Nat}(C:k≠[]):jP q nk (j :: i :: s :: k)=j :: i :: s :: jP q nk k:=by
 unfold jP;rw[Vb C];cases dZ q k with
 |false=>rfl
 | true=>
  cases k with
  |nil=>simp_all
  |cons x k=>simp
def aoO{k:aa Nat}(C:nk≠[])(D:k≠[]):jP q nk k≠[]:=by
 unfold jP;cases dZ q k with
 |false=>simp_all
 |true=>simp[C]
def bJ.Ve{b:Nat}(h:aj b=none):aj.jP q nk b=none:=by simp[bJ.jP,h]
def bJ.abV{b:Nat}{k:aa Nat}(h:aj b=some k):aj.jP q nk b=some (Proofs.YtdfkhfiglknaoaaGreat.jP q nk k):=by simp[bJ.jP,h]
def bJ.abW{b:Nat}{k:aa Nat}(h:aj b=some k)(C:dZ q k=false):aj.jP q nk b=some k:=by rw[bJ.abV h,aoM C]
def RV.jP{k:aa Nat}{x:V}{v:Value}(h:RV w B aj k x v)(D:∀ b,aj b≠some []):RV w B (aj.jP q nk) (Proofs.YtdfkhfiglknaoaaGreat.jP q nk k) x v:=
 h.map (Q:=λk C=>C=Proofs.YtdfkhfiglknaoaaGreat.jP q nk k) (dc _) (λb _ h=>⟨rfl,bJ.Ve h⟩) (λb k C _ hl e=>by
  subst e;exact⟨rfl,bJ.abV hl,λj i s=>(aoN λe=>D b (e ▸ hl)).symm⟩) (.inr rfl)
structure Rel (q:Nat) (aj aD:bJ):Prop where
 ne:∀b,aj b≠some []
 none:∀b,aj b=none->aD b=Option.none
 nQ:∀b k,aj b=some k->dZ q k=false->aD b=some k
def OB(C:∀b,aj b≠some []):Rel q aj (aj.jP q nk):=⟨C,λ_ h=>bJ.Ve h,λ_ _ h D=>bJ.abW h D⟩
def Rel.tr(C:Rel q aj aD):Tr w w aj aD ρ ρ (dZ q) (λ_=>false):=
 ⟨dc _,λb _ hl=>⟨rfl,C.none b hl⟩,λb k hl D=>⟨rfl,C.nQ b k hl D⟩,λ_ _=>rfl,λj i s x q=>Vb (by simp),λb hb=>absurd hb (C.ne b)⟩
def RV.rel(C:Rel q aj aD){k:aa Nat}{x:V}{v:Value}(h:RV w B aj k x v)(D:dZ q k=false\/x.aI=true):RV w B aD k x v:=h.tr (ρ:=λ_=>.eU undef) C.tr D.symm
def aoP(C:Rel q aj aD)(k:aa Nat)(u:Value)(D:dZ q k=false)(h:dn w aj ρ k=some u):dn w aD ρ k=some u:=UZ C.tr k u (.inr D) (U0 k) h
def fy.rel(C:Rel q aj aD){cs:aa Lf}{us:Array Value}(h:fy w B aj ρ cs us):fy w B aD ρ (cs.map (Lf.drop q)) us:=h.tr C.tr (v9 (λ_ h=>h) λ_ _=>rfl)
def RA.rel(C:Rel q aj aD){x:A}{u:Value}(h:RA w B aj ρ x u):RA w B aD ρ (x.drop q) u:=h.tr C.tr (v9 (λ_ h=>h) λ_ _=>rfl)
def eV.rel(C:Rel q aj aD){r:Nat}(D:r≠q){x:aX}(h:eV w B aj ρ r x):eV w B aD ρ r (x.drop q):=h.tr C.tr (v9 (λ_ h=>h) λ_ _=>rfl) (by simpa [dZ]using D) rfl
def Rl.Cr(h:Rl w0 N aj ρ σ a w):∀b,aj b≠some []:=λb hb=>(h.dI b [] hb).2.2 rfl
def Rl.rel(h:Rl w0 N aj ρ σ a w)(E:Rel q aj aD)(O:∀ b k,aD b=some k -> (∃ D,aj b=some D)/\k≠[]):Rl w0 N aD ρ (σ.drop q) a w:=by
 refine⟨h.below,λb k U=>?_,λr x C=>?_,λk=>(h.tmp k).rel E,h.size,h.defers,h.fix,h.dY⟩
 ·obtain⟨⟨D,hl⟩,hk⟩:=O b k U;have:=h.dI b D hl;simp_all
 ·have C:(bif Nat.beq r q then none else (σ.m r).map _)=some x:=C;cases hb:Nat.beq r q with
  |true=>simp_all
  | false=>
   rw[hb]at C;have Y:r≠q:=by rintro rfl;simp at hb
   cases I:σ.m r with
   |none=>simp_all
   | some y=>
    rw[I]at C;injection C with C;subst C;exact(h.root r y I).rel E Y
def Rl.aoQ{z:V}(h:Rl w0 N aj ρ σ a w)(O:σ.m q=some (.sl z))(U:nk≠[]):∃ u,ρ q = .eU u/\Rl w0 N (aj.jP q nk) ρ (σ.drop q) a w/\RV w w0.heap.size (aj.jP q nk) nk z u:=by
 have E:=h.Cr;have I:=h.root q _ O;generalize C:aX.sl z=x at I;cases I with
 |aB=>cases C
 |mp=>cases C
 |gh=>cases C
 | sl u y Y hr=>
  injection C with C;subst C
  refine⟨u,Y,h.rel (OB E) λb k D=>?_,?_⟩
  ·unfold bJ.jP at D;cases hl:aj b with
   |none=>simp_all
   | some k'=>
    rw[hl]at D;injection D with D;subst D;exact⟨⟨k',rfl⟩,aoO U (λe=>E b (by rw[hl,e]))⟩
  ·have:=hr.jP (q:=q) (nk:=nk) E
   rwa [aoL]at this
def iV(r:Nat)(key:Nat->aa Nat):Nat->Nat->aa Lf->S->ah (aa V×S)
 |_,_,[],σ=>some ([],σ)
 |f+1,j,.v x::xs,σ=>(iV r key f (j+1) xs σ).map λp=>(x::p.1,p.2)
 | f+1,j,.own [q] :: xs,σ=>match σ.m q with
  |some (.sl z)=>bif Nat.beq q r then none else (iV r key f (j+1) (xs.map (Lf.drop q)) (σ.drop q)).map λp=>(z::p.1,p.2)
  |_=>none
 |_,_,_,_=>none
def OC{r:Nat}{key:Nat->aa Nat}(Cs:∀ j,dZ r (key j)=true):∀ (f j:Nat) (xs:aa Lf) (σ E:S) (I:aa V),iV r key f j xs σ=some (I,E)->∀ aj ρ a w,Rl w0 N aj ρ σ a w->∀ us:aa Value,fy w w0.heap.size aj ρ xs us.toArray->
  ∃ aD,Rl w0 N aD ρ E a w/\I.length=xs.length/\(∀ (n:Nat) x,I[n]?=some x->∃ u,us[n]?=some u/\RV w w0.heap.size aD (key (j+n)) x u)/\(∀ k x v,dZ r k=true->RV w w0.heap.size aj k x v->RV w w0.heap.size aD k x v)/\
   (∀x,σ.m r=some (.sl x)->E.m r=some (.sl x))/\(∀k u,dZ r k=true->dn w aj ρ k=some u->dn w aD ρ k=some u)/\(∀b,aj b=some [r]->aD b=some [r])/\(∀b,aj b=none->aD b=none)
 | 0,j,[],σ,E,I,h,aj,ρ,a,w,hR,us,O=>by
  simp only[iV,kI,Prod.mk.injEq]at h;obtain⟨rfl,rfl⟩:=h;exact⟨aj,hR,rfl,by simp,λ_ _ _ _ h=>h,λ_ h=>h,λ_ _ _ h=>h,λ_ h=>h,λ_ h=>h⟩
 | f+1,j,[],σ,E,I,h,aj,ρ,a,w,hR,us,O=>by
  simp only[iV,kI,Prod.mk.injEq]at h;obtain⟨rfl,rfl⟩:=h;exact⟨aj,hR,rfl,by simp,λ_ _ _ _ h=>h,λ_ h=>h,λ_ _ _ h=>h,λ_ h=>h,λ_ h=>h⟩
 |0,j,x::xs,σ,E,I,h,aj,ρ,a,w,hR,us,O=>by simp[iV]at h
 | f+1,j,x :: xs,σ,E,I,h,aj,ρ,a,w,hR,us,O=>by
  obtain⟨Y,us,rfl⟩:∃ Y OD,us=Y :: OD:=by
   cases us with
   |nil=>have:=O.1;simp at this
   |cons Y us=>exact⟨_,_,rfl⟩
  have wj:eS w w0.heap.size aj ρ x Y:=by
   obtain⟨u,e,h⟩:=O.2 0 x rfl;simp at e;subst e;exact h
  have m0:fy w w0.heap.size aj ρ xs us.toArray:=⟨by have:=O.1;simpa using this,λn y C=>by
   obtain⟨u,e,h⟩:=O.2 (n+1) y C;exact⟨u,by simpa using e,h⟩⟩
  cases x with
  | v x=>
   simp only[iV,Option.map_eq_some_iff]at h;obtain⟨⟨OE,tH⟩,h,e⟩:=h;simp only[Prod.mk.injEq]at e;obtain⟨rfl,rfl⟩:=e;obtain⟨aD,h1,h2,h3,D,h5⟩:=OC Cs f (j+1) xs σ tH OE h aj ρ a w hR us m0
   refine⟨aD,h1,by simp[h2],λn y C=>?_,D,h5⟩
   cases n with
   | zero=>
    simp at C;subst C;refine⟨Y,rfl,D _ _ _ (Cs _) (wj.2.key wj.1)⟩
   | succ n=>
    obtain⟨u,e,h⟩:=h3 n y (by simpa using C);exact⟨u,by simpa using e,by rw[show j+(n+1)=j+1+n by omega];exact h⟩
  |dead=>simp[iV]at h
  | own k=>
   match k,wj,h with
   |[],_,h=>simp[iV]at h
   |_::_::_,_,h=>simp[iV]at h
   | [q],wj,h=>
    simp only[iV]at h;split at h
    ·rename_i z hz;cases Vf:Nat.beq q r with
     |true=>rw[Vf]at h;cases h
     | false=>
      rw[Vf,av,Option.map_eq_some_iff]at h;obtain⟨⟨OE,tH⟩,aoR,e⟩:=h;simp only[Prod.mk.injEq]at e;obtain⟨rfl,rfl⟩:=e;have cx:q≠r:=by rintro rfl;simp at Vf
      have hkj:key j≠[]:=by intro e;have:=Cs j;rw[e]at this;simp[dZ]at this
      obtain⟨u,cu,fz,mC⟩:=hR.aoQ hz hkj;have ID:u=Y:=by
       have D:=wj.2;simp only[dn,cu]at D;injection D
      subst ID;have jj:∀ k,dZ r k=true->dZ q k=false:=by
       intro k U;cases hq:dZ q k with
       |false=>rfl
       | true=>
        exfalso;have h1:=abU U;have h2:=abU hq;exact cx (abM h1 h2)
      obtain⟨aD,h1,h2,h3,D,h5,h6,h7,h8⟩:=OC Cs f (j+1) (xs.map (Lf.drop q)) (σ.drop q) tH OE aoR _ ρ a w fz us (m0.rel (OB hR.Cr))
      refine⟨aD,h1,by simp[h2],λn y C=>?_,λk x v U hv=>D _ _ _ U (hv.rel (OB hR.Cr) (.inl (jj k U))),λx hx=>h5 x ?_,λk v U hv=>h6 k v U (aoP (OB hR.Cr) k v (jj k U) hv),λb hb=>h7 b (bJ.abW hb (by simpa [dZ]using λe=>cx e.symm)),λb hb=>h8 b (bJ.Ve hb)⟩
      ·cases n with
       | zero=>
        simp at C;subst C;exact⟨u,rfl,D _ _ _ (Cs _) mC⟩
       | succ n=>
        obtain⟨u,e,h⟩:=h3 n y (by simpa using C);exact⟨u,by simpa using e,by rw[show j+(n+1)=j+1+n by omega];exact h⟩
      ·have hb:Nat.beq r q=false:=by
        cases hb:Nat.beq r q with
        |false=>rfl
        |true=>exact absurd (cL hb).symm cx
       show (bif Nat.beq r q then none else (σ.m r).map (aX.drop q))=_;rw[hb,hx];rfl
    ·cases h
end
def pI:Value->Lf
 |.int k n=>.v (.int k n)
 |.bool b=>.v (.bool b)
 |.string s=>.v (.str s)
 |.slice none 0 0=>.v .nil
 |_=>.dead
def zeroV:Value->ah V
 |.int k n=>some (.int k n)
 |.bool b=>some (.bool b)
 |.string s=>some (.str s)
 |.slice none 0 0=>some .nil
 |_=>none
def IE:aa Value->ah (aa V)
 |[]=>some []
 | v :: C=>match zeroV v,IE C with
  |some x,some xs=>some (x::xs)
  |_,_=>none
def zeroOf(P:Program)(e:TypeId):ah Value:=(P.info? e).bind (·.zero)
def bytesOf(P:Program)(e:TypeId):ah Nat:=(P.info? e).map (·.bytes)
def iF{X:Type}(N:Nat)(σ:S)(d:Nat)(x:aX)(y:A)(k:S->ah X):ah X:=
 bif Nat.blt d N then k (((σ.drop d).root d x).set d y)else none
def sE{X:Type}(P:Program)(N:Nat)(σ:S)(d:Nat)(e:TypeId)(k:S->ah X):ah X:=
 match zeroOf P e with
 |some z=>iF N σ d (.aB (z.cells.toList.map pI)) (.aE d 0) k
 |none=>none
def wm(P:Program)(t:TypeId):ah (TypeId×TC):=
 match rm P t with
 |none=>none
 | some e=>match abF e,kr P e,bytesOf P e with
  |some tc,some n,some b=>bif Nat.beq n (aH tc)&&Nat.ble b 65536 then some (e,tc)else none
  |_,_,_=>none
def OF(P:Program)(e:TypeId)(tc:TC):ah (T tc):=
 match zeroOf P e with
 |none=>none
 | some z=>match IE z.cells.toList with
  |none=>none
  |some C=>dec tc (full tc) C
def Aj{X:Type}(P:Program)(N:Nat)(σ:S)(d:Nat)(t:TypeId)(l c:A)(k:S->ah X):ah X:=
 match wm P t,l,c with
 | some (e,tc),.lf (.v (.int _ n)),.lf (.v (.int _ c))=>match OF P e tc with
  |none=>none
  |some z=>if 0<=n/\n<=c/\c<1073741824 then iF N σ d (.sl (.sl tc (full tc+2) false (List.replicate n.toNat z))) (.lf (.own [d])) k else none
 |_,_,_=>none
def V.OG(t:TC):V->ah (aa (T t))
 |.sl C _ _ l=>if h:C=t then some (h ▸ l)else none
 |.nil=>some []
 |_=>none
def uM{X:Type}(P:Program)(N:Nat)(σ:S)(d:Nat)(t:TypeId)(x y:A)(k:S->ah X):ah X:=
 match wm P t with
 | some (e,tc)=>bif Nat.beq (full tc) 0&&(zeroOf P e).any (λz=>Nat.beq z.cells.size (aH tc))then tE σ y λC=>(match C.OG tc with
  |none=>none
  | some l2=>match x with
   |.lf (.v .nil)=>bif bE l2.length then iF N σ d (.sl (.sl tc 2 false l2)) (.lf (.own [d])) k else none
   | .lf (.own [r])=>(match σ.m r with
    |some (.sl (.sl D (o+2) q l))=>if h:D=tc then (bif Nat.blt d N&&(Nat.blt r N ||Nat.ble 60000 r)&&bE (l.length+l2.length)then k (((σ.drop r).root r (.sl (.sl tc (o+2) false ((h ▸ l)++l2)))).set d (.lf (.own [r])))else none)else none
    |_=>none)
   |_=>none)else none
 |none=>none
section
variable {P:Program} {w w':World} {w0:Wd} {B N:Nat} {aj aD:bJ} {ρ ρ':Nat->Loc} {σ:S} {a:Act} {X:Type} {d:Nat} {r:X} {q:Nat} {o:Oper}
def OH(v:Value):eS w B aj ρ (pI v) v:=by
 unfold pI;split
 ·exact⟨rfl,.int _ _ _⟩
 ·exact⟨rfl,.bool _ _⟩
 ·exact⟨rfl,.str _ _⟩
 ·exact⟨rfl,.nil _⟩
 ·trivial
def abX{v:Value}{x:V}(h:zeroV v=some x)(q:aa Nat):RV w B aj q x v:=by
 unfold zeroV at h;split at h<;>first|(injection h with h;subst h;first|exact .int _ _ _|exact .bool _ _|exact .str _ _|exact .nil _)|cases h
def Vg:∀ (C:aa Value) (xs:aa V),IE C=some xs -> xs.length=C.length /\ ∀ (j:Nat) x,xs[j]?=some x -> ∃ v,C[j]?=some v/\zeroV v=some x
 | [],xs,h=>by
  simp[IE]at h;simp_all
 | v :: C,xs,h=>by
  unfold IE at h;split at h
  ·rename_i y ys E D;injection h with h;subst h;obtain⟨I,O⟩:=Vg C ys D
   grind
  ·cases h
def lz.abY(w0:Wd)(w:World)(o:Obj)(h:w0.heap.size<=w.heap.size):lz w0 w (w.alloc o):=.of ((Below.refl w0.heap.size w).alloc h o) (dc _)
def Rl.Ct{c:Array Value}{e:TypeId}{x:aX}{ρ':Nat -> Loc}(h:Rl w0 N aj ρ σ a w)(D:w0.F d=none)(E:∀ r,r≠d -> ρ' r=ρ r)
  (I:eV (w.alloc (.cells c e)) w0.heap.size (cc aj w.heap.size (some [d])) ρ' d x):Rl w0 N (cc aj w.heap.size (some [d])) ρ' ((σ.drop d).root d x) a (w.alloc (.cells c e)):=by
 refine h.Ai D (lz.abY w0 w _ h.below.size) ⟨by simp,λb hb _=>Below.heap_alloc w _ b hb,λb hb=>cN _ _ _ (by omega),λb hb=>(h.dI b [] hb).2.2 rfl⟩ (λb k hb C=>?_) E I
 by_cases e:b=w.heap.size
 ·subst e;rw[cm]at C;injection C with C;subst C;simp_all
 ·rw[cN _ _ _ e]at C;have:=(h.dI b k C).2.1;omega
def oG{x:aX}{y:A}{k:S -> ah X}(h:iF N σ d x y k=some r):d<N/\k (((σ.drop d).root d x).set d y)=some r:=by
 unfold iF at h;cases C:Nat.blt d N with
 |false=>simp_all
 |true=>simp_all
def aoS{e:TypeId}{k:S -> ah X}(h:sE P N σ d e k=some r):∃ E,k E=some r /\ ∀ aj ρ a w,Rl w0 N aj ρ σ a w -> ∃ w' aD ρ' v,(Instr.alloc e true (.tuple #[])).run P w = .ok v w'/\Rl w0 N aD ρ' E (a.put (some d) v) w':=by
 unfold sE at h;split at h
 ·rename_i z D;obtain⟨I,h⟩:=oG h
  refine⟨_,h,λaj ρ a w hR=>?_⟩
  have Y:(Instr.alloc e true (.tuple #[])).run P w = .ok (.pointer (some ⟨w.heap.size,0,none⟩)) (w.alloc (.cells z.cells e)):=by
   unfold zeroOf at D;cases hi:P.info? e with
   |none=>simp_all
   | some i=>
    have D:i.zero=some z:=by simpa [hi]using D
    simp[Instr.alloc,zeroValue,typeInfo,hi,D,newVar,newRow]
  refine⟨_,cc aj w.heap.size (some [d]),cc ρ d (.aB w.heap.size 0),_,Y,(hR.Ct (hR.dY d (.inl I)) (λr hr=>cN _ _ _ hr) ?_).set ⟨w.heap.size,0,cm _ _ _,rfl⟩ I⟩
  refine .aB w.heap.size 0 z.cells e _ (λj=>z.cells.getD j undef) (cm _ _ _) (cm _ _ _) (heap_alloc_new w _) (by simp) λj x C=>?_
  rw[fh]at C;cases O:z.cells.toList[j]? with
  |none=>simp_all
  | some v=>
   rw[O]at C;injection C with C;subst C;have U:z.cells[j]?=some v:=by simpa using O
   have hg:z.cells.getD j undef=v:=by rw[jv,U];rfl
   rw[hg,fB];exact⟨U,OH v⟩
 ·cases h
def Ak{t e:TypeId}{tc:TC}(h:wm P t=some (e,tc)):P.underlying t=some (.slice e)/\tid tc=e /\ ∃ i,P.info? e=some i/\i.size=aH tc/\i.bytes <= 65536:=by
 unfold wm at h;split at h
 ·cases h
 ·rename_i E C;split at h
  ·rename_i I n b O U hb;cases D:(Nat.beq n (aH I)&&Nat.ble b 65536)with
   |false=>simp_all
   | true=>
    rw[D,aq]at h;injection h with h;injection h with Y h2;subst Y h2;rw[aP]at D;refine⟨?_,aot O,?_⟩
    ·unfold rm at C;split at C
     ·simp_all
     ·cases C
    ·unfold kr at U;unfold bytesOf at hb;cases hi:P.info? E with
     |none=>simp_all
     |some i =>simp_all
  ·cases h
def abZ(z:Array Value)(n i j:Nat)(C:j<z.size)(h:i*z.size+j<n):(madeCells z n)[i*z.size+j]?=some z[j]:=by
 have D:(i*z.size+j) % z.size=j:=by rw[Nat.add_comm,Nat.add_mul_mod_self_right,Nat.mod_eq_of_lt C]
 simp[madeCells,Array.getElem?_map,Array.getElem?_range,h,if_true,Option.map_some,D];simp[C]
def aoT{t:TypeId}{l c:A}{k:S -> ah X}(h:Aj P N σ d t l c k=some r):∃ cW,k cW=some r /\ ∀ aj ρ a w,Rl w0 N aj ρ σ a w -> ∀ u v,RA w w0.heap.size aj ρ l u -> RA w w0.heap.size aj ρ c v ->
  ∃w' aD ρ' x,(Instr.makeSlice t u v).run P w = .ok x w'/\Rl w0 N aD ρ' cW (a.put (some d) x) w':=by
 unfold Aj at h;split at h
 ·rename_i e tc kl n kc c lA;split at h
  ·cases h
  ·rename_i z D;split at h
   ·rename_i hb;obtain⟨hd,h⟩:=oG h
    refine⟨_,h,λaj ρ a w hR u v hu U=>?_⟩
    obtain rfl:=hu.2.iE;obtain rfl:=U.2.iE;obtain⟨gP,ht,i,hi,gx,kZ⟩:=Ak lA;unfold OF at D;split at D
    ·cases D
    ·rename_i C Fa;split at D
     ·cases D
     ·rename_i vs jz;have qA:i.zero=some C:=by unfold zeroOf at Fa;simpa [hi]using Fa
      obtain⟨rz,kL⟩:=Vg _ _ jz;have Y:=mY tc (full tc) vs z D;have O:C.cells.size=aH tc:=by rw[<- mX tc (full tc) z,<- Y.1,rz];simp
      have UH:(i.bytes:Int)*c <= 281474976710656:=by
       have h1:(i.bytes:Int) <= 65536:=by omega
       have h2:i.bytes*c <= 65536*c:=Int.mul_le_mul_of_nonneg_right h1 (by omega);omega
      have cH:=run_make (P:=P) w t e i C gP hi qA kl kc n c hb.1 hb.2.1 UH (by omega);rw[gx,<- O]at cH
      refine⟨_,cc aj w.heap.size (some [d]),cc ρ d (.eU (.slice (some ⟨w.heap.size,0,none⟩) n.toNat c.toNat)),_,cH,(hR.Ct (hR.dY d (.inl hd)) (λr hr=>cN _ _ _ hr) ?_).set ⟨rfl,?_⟩ hd⟩
      ·refine .sl _ _ (cm _ _ _) ?_;have hlen:(List.replicate n.toNat z).length=n.toNat:=by simp
       have:=RV.own (w:=w.alloc (.cells (madeCells C.cells (c.toNat*C.cells.size)) e)) (B:=w0.heap.size) (aj:=cc aj w.heap.size (some [d])) [d] tc (full tc) false (List.replicate n.toNat z) w.heap.size c.toNat (madeCells C.cells (c.toNat*C.cells.size)) (λ_ j=>C.cells.getD j undef)
        (cm _ _ _) (by rw[ht];exact heap_alloc_new w _) (by rw[size_madeCells,O]) (by rw[hlen];omega) ⟨by unfold maxLen;omega,λh=>by cases h⟩ (λi' h' j x E=>?_) (λi' h' j x E=>?_)
       ·rw[hlen]at this;exact this
       ·rw[List.getElem_replicate]at E;have I:j<aH tc:=by have:=(eO.1 E).1;rwa [mX]at this
        rw[hlen]at h';rw[<- O]at I;rw[<- O,abZ C.cells _ i' j I (by
         have:(i'+1)*C.cells.size <= c.toNat*C.cells.size:=jd _ (by omega);rw[jV]at this;omega)]
        simp[jv,I]
       ·rw[List.getElem_replicate]at E;have I:j<(enc tc (full tc) z).length:=(eO.1 E).1;rw[<- Y.1]at I;have hy:=bT I;generalize vs[j]=y at hy;obtain⟨v,U,Vh⟩:=kL j y hy;have uH:C.cells[j]?=some v:=by simpa using U
        have hg:C.cells.getD j undef=v:=by rw[jv,uH];rfl
        rw[hg];exact(abX Vh _).wk (Y.2 j y x hy E)
      ·simp[dn,cm]
   ·cases h
 ·cases h
def Fb(t:TC)(h:full t=0)(o C:Nat)(x:T t):enc t o x=enc t C x:=by
 have key:∀ o,enc t o x=enc t 0 x:=by
  intro o;rw[abG t o x];have:=zY t o x h
  conv=>lhs;rw[<- List.map_id (enc t o x)]
  apply List.map_congr_left;intro y D;have E:=this y D;cases y<;>first|rfl|cases E
 simp_all
def yp(u:Nat->Nat->Value)(n s:Nat):aa Value:=(List.range (n*s)).map λk=>u (k / s) (k % s)
def ab0(u:Nat -> Nat -> Value)(n s i j:Nat)(hi:i<n)(C:j<s):(yp u n s)[i*s+j]?=some (u i j):=by
 have D:i*s+j<n*s:=by
  have:(i+1)*s <= n*s:=jd _ hi
  grind
 have E:(i*s+j) / s=i:=by rw[Nat.add_comm,Nat.add_mul_div_right _ _ (by omega),Nat.div_eq_of_lt C,fB]
 have I:(i*s+j) % s=j:=by rw[Nat.add_comm,Nat.add_mul_mod_self_right,Nat.mod_eq_of_lt C]
 simp[yp,D,E,I]
def OI(u:Nat -> Nat -> Value)(n s k:Nat)(v:Value)(D:0<s)(h:(yp u n s)[k]?=some v):∃ i j,k=i*s+j/\i<n/\j<s/\v=u i j:=by
 have C:k<n*s:=by
  have:=(eO.1 h).1
  simpa [yp]using this
 refine⟨k / s,k % s,by rw[Nat.mul_comm];exact(Nat.div_add_mod k s).symm,Nat.div_lt_of_lt_mul (by rw[Nat.mul_comm];exact C),Nat.mod_lt _ D,?_⟩;simp[yp,fh,List.getElem?_range C,Option.map_some,kI]at h;simp_all
def Cu(t:TC)(o:Nat)(x:T t)(j:Nat)(C:j<aH t):∃y,(enc t o x)[j]?=some y:=⟨_,bT (by rw[mX];exact C)⟩
def yq(t:TC)(l:aa (T t))(C:aa Value):Prop:=
 ∀i (hi:i<l.length) (o j:Nat) x,(enc t o l[i])[j]?=some x->∃v,C[i*aH t+j]?=some v/\v.oneCell'=true/\∀(w':World) (B':Nat) (aD:bJ) (D:aa Nat),RV w' B' aD D x v
def RV.reads{q:aa Nat}{t:TC}{g:Nat}{qn:Bool}{l:aa (T t)}{u:Value}(h:RV w B aj q (.sl t g qn l) u)(Y:full t=0):
  ∃A c news,u = .slice A l.length c/\Reads w w.heap.size (aH t) A l.length news/\(∀v∈news,v.oneCell'=true)/\yq t l news:=by
 cases h with
 |fq=>exact⟨none,0,[],rfl,Reads.none_,by simp,λi hi=>by simp at hi⟩
 |gy=>exact⟨_,_,[],rfl,⟨by simp,λh=>by simp at h⟩,by simp,λi hi=>by simp at hi⟩
 |gL=>exact⟨_,_,[],rfl,⟨by simp,λh=>by simp at h⟩,by simp,λi hi=>by simp at hi⟩
 | aI _ _ _ _ _ b off cap us ho hl hb h1 jM hc O=>
  have U:∀ i (hi:i<l.length) j,j<aH t -> (us i j).oneCell'=true:=by
   intro i hi j C;obtain⟨y,I⟩:=Cu t g l[i] j C;exact(O i hi j y I).one
  refine⟨_,cap,yp us l.length (aH t),rfl,⟨by simp[yp],λhn=>⟨b,off,rfl,hb,λk v E=>?_⟩⟩,λv E=>?_,λi hi o j x D=>?_⟩
  ·obtain⟨i,j,rfl,hi,C,rfl⟩:=OI us _ _ k v (pE t) E;obtain⟨y,I⟩:=Cu t g l[i] j C;exact hc i hi j y I
  ·obtain⟨k,hk⟩:=List.mem_iff_getElem?.1 E;obtain⟨i,j,rfl,hi,C,rfl⟩:=OI us _ _ k v (pE t) hk;exact U i hi j C
  ·have C:j<aH t:=by have:=(eO.1 D).1;rwa [mX]at this
   rw[Fb t Y o g]at D
   refine⟨us i j,ab0 us _ _ i j hi C,U i hi j C,λw' B' aD q'=>(O i hi j x D).uI (zY t g l[i] Y x (iB D))⟩
 | own _ _ o _ _ b cap cs us hl hh hs hn hm hc O=>
  have U:∀ i (hi:i<l.length) j,j<aH t -> (us i j).oneCell'=true:=by
   intro i hi j C;obtain⟨y,I⟩:=Cu t o l[i] j C;exact(O i hi j y I).one
  refine⟨_,cap,yp us l.length (aH t),rfl,⟨by simp[yp],λhn=>⟨b,0,rfl,(jU.1 hh).1,λk v E=>?_⟩⟩,λv E=>?_,λi hi o' j x D=>?_⟩
  ·obtain⟨i,j,rfl,hi,C,rfl⟩:=OI us _ _ k v (pE t) E;obtain⟨y,I⟩:=Cu t o l[i] j C;rw[fB,cell_of_row w b _ cs _ _ hh];simp_all
  ·obtain⟨k,hk⟩:=List.mem_iff_getElem?.1 E;obtain⟨i,j,rfl,hi,C,rfl⟩:=OI us _ _ k v (pE t) hk;exact U i hi j C
  ·have C:j<aH t:=by have:=(eO.1 D).1;rwa [mX]at this
   rw[Fb t Y o' o]at D
   refine⟨us i j,ab0 us _ _ i j hi C,U i hi j C,λw' B' aD q'=>(O i hi j x D).uI (zY t o l[i] Y x (iB D))⟩
def RV.ab1{q:aa Nat}{t:TC}{o:Nat}{D:Bool}{l:aa (T t)}{u:Value}(h:RV w B aj q (.sl t (o+2) D l) u)(E:full t=0){B':Nat}(hB:∀ b,aj b=some q -> B' <= b):
  ∃xs,w.ownsRow B' (tid t) (aH t) u l.length xs/\(∀b,u.ownBlock=some b -> aj b=some q)/\(D=true -> u.ownBlock≠none)/\yq t l xs:=by
 cases h with
 |gy=>omega
 |gL=>omega
 |fq=>exact⟨[],⟨by simp,.inl ⟨rfl,rfl⟩⟩,by simp[Value.ownBlock],by simp,λi hi=>by simp at hi⟩
 |aI _ _ _ _ _ _ _ _ _ ho=>omega
 | own _ _ _ _ _ b cap cs us hl O U Y hm hc I=>
  refine⟨cs.toList.take _,⟨?_,.inr ⟨b,cap,cs,rfl,hB b hl,O,Y,hm.1,U,rfl⟩⟩,λb' Fc=>?_,λ_=>by simp[Value.ownBlock],λi hi o' j x C=>?_⟩
  ·simp_all
  ·have:b=b':=by simpa [Value.ownBlock]using Fc
   simp_all
  ·have hj:j<aH t:=by have:=(eO.1 C).1;rwa [mX]at this
   have dQ:i*aH t+j<l.length*aH t:=by
    have:(i+1)*aH t <= l.length*aH t:=jd _ hi;rw[jV]at this;omega
   rw[Fb t E o' o]at C
   refine⟨us i j,?_,(I i hi j x C).one,λw' B' aD q'=>(I i hi j x C).uI (zY t o l[i] E x (iB C))⟩
   grind
def yq.append{t:TC}{l l2:aa (T t)}{xs ys:aa Value}(h:yq t l xs)(E:yq t l2 ys)(hl:xs.length=l.length*aH t):yq t (l++l2) (xs++ys):=by
 intro i hi o j x C;by_cases D:i<l.length
 ·rw[List.getElem_append_left D]at C;obtain⟨v,I,r⟩:=h i D o j x C
  grind
 ·rw[List.getElem_append_right (by omega)]at C;have O:i-l.length<l2.length:=by rw[oy]at hi;omega
  obtain⟨v,I,r⟩:=E _ O o j x C;refine⟨v,?_,r⟩;have e:i*aH t+j=xs.length+((i-l.length)*aH t+j):=by
   rw[hl,Nat.sub_mul];have:l.length*aH t <= i*aH t:=jd _ (by omega);omega
  grind
def Vi{q:aa Nat}{t:TC}{o:Nat}{l:aa (T t)}{u:Value}{xs:aa Value}{B':Nat}(h:w.ownsRow B' (tid t) (aH t) u l.length xs)(D:yq t l xs)(hl:∀ b,u.ownBlock=some b -> aj b=some q):
  RV w B aj q (.sl t (o+2) false l) u:=by
 rcases h.2 with ⟨rfl,E⟩|⟨b,cap,cs,rfl,hB,I,O,U,Y,ht⟩
 ·have:=List.eq_nil_of_length_eq_zero E;subst this;exact .fq _ _ _
 ·have tF:∀ i _ j x,(enc t o l[i])[j]?=some x -> ∃ v,cs[i*aH t+j]?=some v /\ ∀ w' B' aD q',RV w' B' aD q' x v:=by
   intro i hi j x C;obtain⟨v,hv,_,r⟩:=D i hi o j x C
   grind
  refine .own q t o false l b cap cs (λi j=>(cs[i*aH t+j]?).getD undef) (hl b rfl) I Y O ⟨U,λh=>by cases h⟩ (λi hi j x C=>?_) (λi hi j x C=>?_)
  ·grind
  ·grind
def Rl.append{t e ty:TypeId}{tc:TC}{i:TypeInfo}{z:Value}{rr o g:Nat}{q qn:Bool}{l l2:aa (T tc)}{u v:Value}{q':aa Nat}{Bx:Nat}{Vj:bJ}(h:Rl w0 N aj ρ σ a w)(hF:w0.F rr=none)(gP:P.underlying t=some (.slice e))(ht:tid tc=e)(hi:P.info? e=some i)(hz:i.zero=some z)
  (gx:i.size=aH tc) (kZ:i.bytes <= 65536) (ox:z.cells.size=aH tc) (hf:full tc=0) (hd:RV w w0.heap.size aj [rr] (.sl tc (o+2) q l) u) (hs:RV w Bx Vj q' (.sl tc g qn l2) v) (hlen:l.length+l2.length<1073741824):
  ∃C w' aD,(Builtin.append_ #[t,t] ty #[u,v]).run P w = .ok C w'/\Rl w0 N aD (cc ρ rr (.eU C)) ((σ.drop rr).root rr (.sl (.sl tc (o+2) false (l++l2)))) a w'/\pF C=true:=by
 subst ht;obtain⟨xs,Al,U,hqn,jk⟩:=hd.ab1 hf (B':=0) (λb _=>jG b);obtain⟨A,c,news,rfl,sF,m7,IF⟩:=hs.reads hf;have iT:(l.length+l2.length)*i.bytes <= 140737488355328:=by
  have h1:(l.length+l2.length)*i.bytes <= 1073741824*65536:=Nat.mul_le_mul (by omega) kZ;omega
 obtain⟨C,w',cH,I,E,iM⟩:=UG (P:=P) w 0 t ty (tid tc) i z (aH tc) i.bytes gP hi hz gx rfl ox (pE tc) u l.length xs Al _ A l2.length c news sF m7 (by unfold maxLen;omega) iT (jG _);have IG:(l++l2).length=l.length+l2.length:=oy;rw[<- IG]at I;have Cv:=jk.append IF Al.1;have ia:pF C=true:=by rcases I.2 with ⟨rfl,_⟩|⟨_,_,_,rfl,_⟩<;>rfl
 have Y:Below 0 w w':=(Below.refl 0 w).grown E (jG _) (λ_ _=>jG _);have mD:lz w0 w w':=⟨Y.os,Y.tape,Y.output,Y.size,λk D hL=>E.block k (Nat.lt_of_lt_of_le D h.below.size) (λO=>by
  rcases(h.dI k _ (U k O.symm)).1 with h1|h1
  ·exact absurd D (Nat.not_lt.2 h1)
  ·exact h1 hL)⟩
 by_cases II:C.ownBlock=some w.heap.size
 ·have dQ:w.heap.size<w'.heap.size:=by
   rcases I.2 with ⟨rfl,_⟩|⟨b,cap,cs,rfl,_,hh,_⟩
   ·cases II
   ·have:b=w.heap.size:=by simpa [Value.ownBlock]using II
    grind
  refine⟨C,w',cc aj w.heap.size (some [rr]),cH,h.Ai hF mD ⟨E.size,λb hb cx=>E.block b hb (λO=>cx (U b O.symm)),λb hb=>cN _ _ _ (by omega),λb hb=>(h.dI b [] hb).2.2 rfl⟩ (λb k hb D=>?_) (λr hr=>cN _ _ _ hr) (.sl C _ (cm _ _ _) (Vi I Cv (λb hb=>?_))),ia⟩
  ·by_cases e:b=w.heap.size
   ·subst e;rw[cm]at D
    grind
   ·rw[cN _ _ _ e]at D;have:=(h.dI b k D).2.1;omega
  ·rw[II]at hb;injection hb with hb;subst hb;exact cm _ _ _
 ·have Vk:C.ownBlock=u.ownBlock:=by
   rcases iM with iM|iM
   ·exact iM
   ·exact absurd iM II
  refine⟨C,w',aj,cH,h.Ai hF mD ⟨E.size,λb hb cx=>E.block b hb (λO=>cx (U b O.symm)),λ_ _=>rfl,λb hb=>(h.dI b [] hb).2.2 rfl⟩ (λb k hb D=>?_) (λr hr=>cN _ _ _ hr) (.sl C _ (cm _ _ _) (Vi I Cv (λb hb=>U b (by rw[<- Vk];exact hb)))),ia⟩
  have:=(h.dI b k D).2.1;omega
def Vl{t:TC}{x:V}{l:aa (T t)}(h:x.OG t=some l){q:aa Nat}{u:Value}(C:RV w B aj q x u):∃ g D,RV w B aj q (.sl t g D l) u:=by
 unfold V.OG at h;split at h
 ·grind
 ·injection h with h;subst h;cases C;exact⟨0,false,.fq _ _ _⟩
 ·cases h
def Vm{x:Lf}{k:V -> ah X}(h:qy σ x k=some r):∃ y,(∀ aj ρ a w,Rl w0 N aj ρ σ a w -> ∀ u,eS w w0.heap.size aj ρ x u -> ∃ q,RV w w0.heap.size aj q y u)/\k y=some r:=by
 cases x with
 |v z=>exact⟨z,λaj ρ a w _ u C=>⟨[],C.2⟩,h⟩
 |dead=>cases h
 | own q=>
  obtain⟨z,D,h⟩:=tD q _ h
  refine⟨z,λaj ρ a w hR u C=>?_,h⟩
  obtain⟨v,E,I⟩:=D.ok hR.root;have O:=C.2
  grind
def ab2{y:A}{k:V -> ah X}(h:tE σ y k=some r):∃ z,(∀ aj ρ a w,Rl w0 N aj ρ σ a w -> ∀ u,RA w w0.heap.size aj ρ y u -> ∃ q B' aD,RV w B' aD q z u)/\k z=some r:=by
 unfold tE at h;split at h
 ·obtain⟨z,C,D⟩:=Vm h;exact⟨z,λaj ρ a w hR u E=>let ⟨q,I⟩:=C aj ρ a w hR u E;⟨q,_,_,I⟩,D⟩
 ·obtain⟨z,D,_,C⟩:=abP h;exact⟨z,λaj ρ a w hR u E=>⟨[],0,_,C _ _ _ _ _ _ hR u E 0⟩,D⟩
 ·cases h
def aoU{t ty:TypeId}{x y:A}{k:S -> ah X}(h:uM P N σ d t x y k=some r):∃ cW,k cW=some r /\ ∀ aj ρ a w,Rl w0 N aj ρ σ a w -> ∀ u v,RA w w0.heap.size aj ρ x u -> RA w w0.heap.size aj ρ y v ->
  ∃w' aD ρ' z,(Builtin.append_ #[t,t] ty #[u,v]).run P w = .ok z w'/\Rl w0 N aD ρ' cW (a.put (some d) z) w':=by
 unfold uM at h;split at h
 ·rename_i e tc lA;obtain⟨gP,ht,i,hi,gx,kZ⟩:=Ak lA;cases U:(Nat.beq (full tc) 0&&(zeroOf P e).any (λz=>Nat.beq z.cells.size (aH tc)))with
  |false=>grind
  | true=>
   rw[U,aq]at h;rw[aP]at U;have hf:=cL U.1;obtain⟨z,hz,Y⟩:=(Option.any_eq_true _ _).1 U.2;have Y:=cL Y;have qA:i.zero=some z:=by unfold zeroOf at hz;simpa [hi]using hz
   obtain⟨yv,OJ,C⟩:=ab2 (w0:=w0) (N:=N) h;clear h;split at C
   ·cases C
   ·rename_i l2 kL;split at C
    ·cases D:bE l2.length with
     |false=>grind
     | true=>
      rw[D,aq]at C;have D:l2.length<1073741824:=by simpa [bE]using D
      obtain⟨hd,h3⟩:=oG C
      refine⟨_,h3,λaj ρ a w hR u v O hv=>?_⟩
      have O:u = .slice none 0 0:=by cases O.2;rfl
      subst O;obtain⟨q',_,_,E⟩:=OJ aj ρ a w hR v hv;obtain⟨g,qn,E⟩:=Vl kL E;obtain⟨v',w',aD,cH,fz,ia⟩:=hR.append (ty:=ty) (rr:=d) (o:=0) (q:=false) (l:=[]) (hR.dY d (.inl hd)) gP ht hi qA gx kZ Y hf (.fq _ _ _) E (by simpa using D);exact⟨w',aD,_,v',cH,fz.set ⟨ia,by simp[dn,cm]⟩ hd⟩
    ·rename_i rr;split at C
     ·rename_i t' o q l hm;split at C
      ·rename_i qB;subst qB;cases D:(Nat.blt d N&&(Nat.blt rr N || Nat.ble 60000 rr)&&bE (l.length+l2.length))with
       |false=>grind
       | true=>
        rw[D,aq]at C;rw[aP,aP,eN]at D;have IJ:l.length+l2.length<1073741824:=by simpa [bE]using D.2
        have hd:d<N:=by have:=dj D.1.1;omega
        have qv:rr<N \/ 60000 <= rr:=D.1.2.imp (λh=>by have:=dj h;omega) (λh=>dj h)
        refine⟨_,C,λaj ρ a w hR u v O hv=>?_⟩
        obtain⟨q',_,_,E⟩:=OJ aj ρ a w hR v hv;obtain⟨g,qn,E⟩:=Vl kL E;have fG:=hR.root rr _ hm;generalize I:aX.sl (.sl t' (o+2) q l)=x at fG;cases fG with
        |aB=>cases I
        |mp=>cases I
        |gh=>cases I
        | sl uu y cu hr=>
         injection I with I;subst I;have ID:uu=u:=by
          have h4:=O.2;simp only[dn,cu]at h4;simp_all
         subst ID;obtain⟨v',w',aD,cH,fz,ia⟩:=hR.append (ty:=ty) (hR.dY rr qv) gP ht hi qA gx kZ Y hf hr E IJ;exact⟨w',aD,_,v',cH,fz.set ⟨ia,by simp[dn,cm]⟩ hd⟩
      ·cases C
     ·cases C
    ·cases C
 ·cases h
def Rl.ab3{t:TC}{g p:Nat}{qn:Bool}{l ys:aa (T t)}{news:aa Value}(h:Rl w0 N aj ρ σ a w)(hm:σ.m q=some (.sl (.sl t (g+2) qn l)))(hf:full t=0)(hp:p+ys.length <= l.length)(jj:0<l.length)(jk:yq t ys news)(sG:news.length=ys.length*aH t):
  ∃ b cap,ρ q = .eU (.slice (some ⟨b,0,none⟩) l.length cap)/\l.length <= cap/\(∀ n,n<news.length -> (w.cell? ⟨b,p*aH t+n,none⟩).isSome=true/\w.frozen? ⟨b,p*aH t+n,none⟩=false) /\
   Rl w0 N aj ρ ⟨σ.t,cc σ.m q (some (.sl (.sl t (g+2) qn (splice l p ys))))⟩ a (w.setCells b (p*aH t) news):=by
 have fG:=h.root q _ hm;generalize U:aX.sl (.sl t (g+2) qn l)=x at fG;cases fG with
 |aB=>cases U
 |mp=>cases U
 |gh=>cases U
 | sl v y cu jA=>
  injection U with U;subst U;cases jA with
  |fq=>exact absurd jj (Nat.lt_irrefl 0)
  |gy=>exact absurd jj (Nat.lt_irrefl 0)
  |gL=>exact absurd jj (Nat.lt_irrefl 0)
  |aI _ _ _ _ _ _ _ _ _ ho=>omega
  | own _ _ _ _ _ b cap cs u qz hh hs hn wg hc hr=>
   have uJ:(p+ys.length)*aH t <= cap*aH t:=jd _ (by omega);rw[Nat.add_mul]at uJ;have mZ:p*aH t+news.length <= cs.size:=by rw[sG,hs];exact uJ
   have hW:=Ow w b (p*aH t) news;obtain⟨I,iT,pG⟩:=Im b (tid t) news (p*aH t) w cs hh mZ;have uK:∀ n,I[n]?=if n<p*aH t then cs[n]? else if n<p*aH t+news.length then news[n-p*aH t]? else cs[n]?:=by
    intro n;have e2:I[n]?=(splice cs.toList (p*aH t) news)[n]?:=by
     rw[show I[n]?=I.toList[n]? by simp,pG];rfl
    rw[e2,yf _ _ _ (by simpa using mZ)];simp
   have Iw:I.size=cs.size:=by
    rw[<- mR,pG];have:=uG cs.toList (p*aH t) news (by simpa using mZ);simp only[splice]at this;simp_all
   have uN:=pE t;have hC:sC w (w.setCells b (p*aH t) news) aj ρ:=by
    intro k ad v ha E ia;by_cases cx:ad.block=b
    ·obtain⟨D,C,s',q',rfl,Cl,aoA,uL,_⟩:=Cj k ad ha;have qx:ad=⟨b,ad.off,none⟩:=by cases ad;simp_all
     rw[qx,cell_of_row w b _ cs _ _ hh]at E;rw[qx,cell_of_row _ b _ I _ _ iT,uK];by_cases Y:ad.off<p*aH t
     ·rw[bg Y];exact E
     ·by_cases h2:ad.off<p*aH t+news.length
      ·exfalso;have hk:ad.off=(ad.off / aH t)*aH t+ad.off % aH t:=by rw[Nat.mul_comm];exact(Nat.div_add_mod _ _).symm
       have dQ:ad.off<l.length*aH t:=by
        have:(p+ys.length)*aH t <= l.length*aH t:=jd _ hp;rw[Nat.add_mul]at this;omega
       have hi:ad.off / aH t<l.length:=Nat.div_lt_of_lt_mul (by rw[Nat.mul_comm];exact dQ);obtain⟨y,hy⟩:=Cu t g l[ad.off / aH t] (ad.off % aH t) (Nat.mod_lt _ uN);have h3:=hc _ hi _ y hy;rw[<- hk,E]at h3;injection h3 with h3;have:=(hr _ hi _ y hy).abN (zY t g _ hf y (iB hy));rw[<- h3,ia]at this;cases this
      ·rw[bk Y,bk h2];exact E
    ·exact(World.cell?_of_block (hW.block _ cx)).trans E
   have Cm:dn w aj ρ [q]=some (.slice (some ⟨b,0,none⟩) l.length cap):=by simp only[dn,cu]
   refine⟨b,cap,cu,hn,λn rj=>⟨?_,frozen_of_row w b _ cs _ hh⟩,h.wrote hW qz hC ((Aa.root q _ _ hm).ok h.root hW qz (List.suffix_refl _) hC Cm ?_)⟩
   ·rw[cell_of_row w b _ cs _ _ hh];simp;omega
   ·have hlen:(splice l p ys).length=l.length:=uG l p ys hp;have key:∀ C (h:C<(splice l p ys).length) (D:Nat) x,(enc t g (splice l p ys)[C])[D]?=some x -> ∃ v,I[C*aH t+D]?=some v/\RV (w.setCells b (p*aH t) news) w0.heap.size aj (D :: C :: aH t :: [q]) x v:=by
     intro C h' D x hx;have qw:D<aH t:=by have:=(eO.1 hx).1;rwa [mX]at this
     have O:=bT h';generalize (splice l p ys)[C]=e at O hx;rw[yf l p ys hp]at O;have Ab:=zY t g e hf x (iB hx);have old:l[C]?=some e -> ∃ v,cs[C*aH t+D]?=some v/\RV (w.setCells b (p*aH t) news) w0.heap.size aj (D :: C :: aH t :: [q]) x v:=λhle=>by
      obtain⟨hi,rfl⟩:=eO.1 hle;exact⟨_,hc C hi D x hx,(hr C hi D x hx).uI Ab⟩
     by_cases Y:C<p
     ·rw[bg Y]at O;have dQ:(C+1)*aH t <= p*aH t:=jd _ Y;rw[jV]at dQ;rw[uK,bg];exact old O
     ·rw[bk Y]at O;by_cases h2:C<p+ys.length
      ·rw[bg h2]at O;obtain⟨hi,rfl⟩:=eO.1 O;obtain⟨v,E,_,mC⟩:=jk (C-p) hi g D x hx;have aGa:(C-p)*aH t=C*aH t-p*aH t:=Nat.sub_mul _ _ _;have hle:p*aH t <= C*aH t:=jd _ (by omega);have dQ:=(eO.1 E).1;refine⟨v,?_,mC _ _ _ _⟩;rw[uK,bk,bg,<- E];congr 1;omega
      ·rw[bk h2]at O;have qt:(p+ys.length)*aH t <= C*aH t:=jd _ (by omega);rw[Nat.add_mul]at qt;rw[uK,bk,bk (by rw[sG];omega)];exact old O
    rw[<- hlen]
    refine .own [q] t g qn (splice l p ys) b cap I (λC D=>(I[C*aH t+D]?).getD undef) qz iT (Iw.trans hs) (by rw[hlen];exact hn) ⟨wg.1,λh=>by rw[hlen];exact wg.2 h⟩ (λC h D x l5=>?_) (λC h D x l5=>?_)
    ·obtain⟨v,E,_⟩:=key C h D x l5;rw[E];rfl
    ·obtain⟨v,E,hr⟩:=key C h D x l5;rw[E];exact hr
def ab4(b i c s:Nat):sliced (some ⟨b,0,none⟩) 0 i c s = .slice (some ⟨b,0,none⟩) i c:=by
 unfold sliced;split
 ·rfl
 ·rw[Option.map_some,Addr.add_lit];simp
def IK{X:Type}(P:Program)(N:Nat)(σ:S)(d:Nat)(t:TypeId)(x y:A)(k:S->ah X):ah X:=
 match x,y with
 | .view [q] s 0 i,.view [D] s' j m=>(match wm P t with
  | some (e,tc)=>bif Nat.beq D q&&Nat.beq s (aH tc)&&Nat.beq s' (aH tc)&&Nat.beq (full tc) 0&&Nat.blt d N then (match σ.m q with
   |some (.sl (.sl C (o+2) E l))=>bif Nat.beq (full C) 0&&Nat.beq (aH C) (aH tc)then (if i<=j/\j<=m/\m<=l.length/\0<l.length then k ((σ.root q (.sl (.sl C (o+2) E (splice l i ((l.take m).drop j))))).set d (.view [q] s 0 (i+(m-j))))else none)else none
   |_=>none)else none
  |none=>none)
 |_,_=>none
def aoV{t ty:TypeId}{x y:A}{k:S -> ah X}(h:IK P N σ d t x y k=some r):∃ cW,k cW=some r /\ ∀ aj ρ a w,Rl w0 N aj ρ σ a w -> ∀ u v,RA w w0.heap.size aj ρ x u -> RA w w0.heap.size aj ρ y v ->
  ∃w' aD ρ' z,(Builtin.append_ #[t,t] ty #[u,v]).run P w = .ok z w'/\Rl w0 N aD ρ' cW (a.put (some d) z) w':=by
 unfold IK at h;split at h
 ·rename_i q s i q' s' j m;split at h
  ·rename_i e tc lA;obtain⟨gP,ht,inf,hi,I,kZ⟩:=Ak lA;cases hc:(Nat.beq q' q&&Nat.beq s (aH tc)&&Nat.beq s' (aH tc)&&Nat.beq (full tc) 0&&Nat.blt d N)with
   |false=>grind
   | true=>
    rw[hc,aq]at h;simp only[aP]at hc;obtain⟨⟨⟨⟨c1,c2⟩,c3⟩,c4⟩,c5⟩:=hc;obtain rfl:=cL c1;obtain rfl:=cL c2;obtain rfl:=cL c3;have hd:d<N:=by have:=dj c5;omega
    split at h
    ·rename_i O g qn l hm;cases U:(Nat.beq (full O) 0&&Nat.beq (aH O) (aH tc))with
     |false=>grind
     | true=>
      rw[U,aq]at h;rw[aP]at U;have hf:=cL U.1;have Y:=cL U.2;split at h
      ·rename_i hb;obtain⟨b1,b2,b3,b4⟩:=hb
       refine⟨_,h,λaj ρ a w hR u v hu hv=>?_⟩
       obtain⟨A,n,c,Cw,a1,a2,rfl⟩:=hu;obtain⟨A',n',c',OL,a1',a2',rfl⟩:=hv;rw[Cw]at OL;injection OL with OL;injection OL with C e2 e3;subst C e2 e3
       -- what is moved
       have fG:=hR.root q' _ hm;generalize D:aX.sl (.sl O (g+2) qn l)=x at fG;cases fG with
       |aB=>cases D
       |mp=>cases D
       |gh=>cases D
       | sl rA y cu jA=>
        injection D with D;subst D;have OM:rA = .slice A n c:=by
         simp only[dn,cu]at Cw;simp_all
        subst OM;have ON:RV w 0 (λ_=>none) [] (.sl O 0 qn l) (.slice A n c):=jA.gT;have hn:n=l.length:=by cases ON<;>rfl
        obtain⟨hp,hq1,OO⟩:=ON.part (a:=j) (h:=m) (by omega) b2 (by omega);obtain⟨A2,c2,news,ia,sF,m7,jk⟩:=hp.reads hf;have hlen:((l.take m).drop j).length=m-j:=by rw[List.length_drop,jf];omega
        obtain⟨b,cap,jO,jM,ku,fz⟩:=hR.ab3 hm hf (p:=i) (ys:=(l.take m).drop j) (news:=news) (by rw[hlen];omega) b4 jk (by rw[hlen];exact hlen ▸ sF.1);rw[cu]at jO;injection jO with jO;injection jO with C e2 e3;subst C e2 e3;rw[hlen]at ia;have wj:sliced (some ⟨b,0,none⟩) 0 i c (aH tc) = .slice (some ⟨b,0,none⟩) i c:=ab4 b i c _;obtain⟨ad,rA⟩:∃ ad,sliced (some ⟨b,0,none⟩) j m c (aH tc) = .slice (some ad) (m-j) (c-j):=by
         unfold sliced;by_cases hcj:c=j
         ·grind
         ·grind
        have Fe:A2=some ad:=by
         grind
        subst Fe;have sG:news.length=(m-j)*inf.size:=by rw[sF.1,hlen,I,Y]
        have cH:=run_append_room_cells (P:=P) w t ty e inf gP hi b 0 i c ad (m-j) (c-j) news sG (λk u E=>by
         have qC:=(eO.1 E).1;have uN:0<((l.take m).drop j).length:=by
          rcases Nat.eq_zero_or_pos ((l.take m).drop j).length with h0|h0
          ·grind
          ·exact h0
         obtain⟨b',Cn,C,_,wo⟩:=sF.2 uN;injection C with C;subst C;rw[Addr.add_lit];exact wo k u E) m7 (by omega) (λk E=>by rw[fB,I,<- Y];exact(ku k E).1) (λk E=>by rw[fB,I,<- Y];exact(ku k E).2)
        refine⟨_,aj,ρ,_,by rw[wj,rA];exact cH,?_⟩;rw[fB,I,<- Y];exact fz.set ⟨some ⟨b,0,none⟩,l.length,c,by simp only[dn,cu],jG _,by omega,(ab4 b _ c _).symm⟩ hd
      ·cases h
    ·cases h
  ·cases h
 ·cases h
def aoW{t:TypeId}{x y:A}:cU λX k=>IK (X:=X) P N σ d t x y k:=λX Y k g=>by
 unfold IK
 repeat' first|rfl|refine dN ?_ ?_|split
def IL{X:Type}(P:Program)(σ:S)(t:TypeId)(x:A)(k:S->ah X):ah X:=
 match x with
 | .view [q] s i j=>(match wm P t with
  | some (e,tc)=>(match OF P e tc with
   | some z=>(match σ.m q with
    |some (.sl (.sl C (o+2) D l))=>if h:tc=C then (bif Nat.beq s (aH tc)&&Nat.beq (full tc) 0 then (if i<=j/\j<=l.length then k (σ.root q (.sl (.sl C (o+2) D (splice l i (List.replicate (j-i) (h ▸ z))))))else none)else none)else none
    |_=>none)
   |none=>none)
  |none=>none)
 |_=>none
def aoX{t ty:TypeId}{x:A}{k:S->ah X}(h:IL P σ t x k=some r):∃ cW,k cW=some r/\∀ aj ρ a w,Rl w0 N aj ρ σ a w->∀ u,RA w w0.heap.size aj ρ x u->
  ∃w',(Builtin.clear_ #[t] ty #[u]).run P w = .ok (.tuple #[]) w'/\Rl w0 N aj ρ cW a w':=by
 unfold IL at h;split at h
 ·rename_i q s i j;split at h
  ·rename_i e tc lA;obtain⟨gP,ht,inf,hi,gx,kZ⟩:=Ak lA;split at h
   ·rename_i z U;split at h
    ·rename_i t' g qn l hm;split at h
     ·rename_i qB;subst qB;cases Y:(Nat.beq s (aH tc)&&Nat.beq (full tc) 0)with
      |false=>rw[Y]at h;cases h
      | true=>
       rw[Y,aq]at h;rw[aP]at Y;obtain rfl:=cL Y.1;have hf:=cL Y.2;split at h
       ·rename_i hb
        refine⟨_,h,λaj ρ a w hR u hu=>?_⟩
        obtain⟨A,n,c,Cw,a1,a2,rfl⟩:=hu;unfold OF at U;split at U
        ·cases U
        ·rename_i C Fa;split at U
         ·cases U
         ·rename_i vs jz;have qA:inf.zero=some C:=by unfold zeroOf at Fa;simpa [hi]using Fa
          obtain⟨rz,kL⟩:=Vg _ _ jz;have D:=mY tc (full tc) vs z U;have ox:C.cells.size=aH tc:=by rw[<-mX tc (full tc) z,<-D.1,rz];simp
          have hzr:∀w:World,(zeroValue e).run P w = .ok C w:=λw=>by simp[zeroValue,typeInfo,hi,qA]
          rcases Nat.eq_zero_or_pos (j-i)with h0|h0
          ·have uL:splice l i (List.replicate (j-i) z)=l:=by rw[h0];simp[splice]
           refine⟨w,?_,?_⟩
           ·unfold sliced;rw[h0];cases (if c=i then A else A.map (·.add (i*aH tc)))<;>simp[Builtin.clear_,iJ gP]
           ·show Rl w0 N aj ρ (σ.root q (.sl (.sl tc (g+2) qn (splice l i (List.replicate (j-i) z))))) a w;rw[uL];have:σ.root q (.sl (.sl tc (g+2) qn l))=σ:=by
             unfold S.root;have:cc σ.m q (some (.sl (.sl tc (g+2) qn l)))=σ.m:=by
              funext k;by_cases D:k=q
              ·subst D;rw[cm,hm]
              ·rw[cN _ _ _ D]
             rw[this]
            rw[this];exact hR
          ·have sH:(Builtin.zeroCells C.cells (j-i))=madeCells C.cells ((j-i)*C.cells.size):=rfl;have jk:yq tc (List.replicate (j-i) z) (Builtin.zeroCells C.cells (j-i)).toList:=by
            intro i' h' o' E x I;rw[List.getElem_replicate]at I;have hj:E<aH tc:=by have:=(eO.1 I).1;rwa [mX]at this
            rw[lV]at h';have qw:=hj;rw[<-ox]at qw;have ku:(Builtin.zeroCells C.cells (j-i)).toList[i'*aH tc+E]?=some C.cells[E]:=by
             rw[sH,Array.getElem?_toList,<-ox];exact abZ C.cells _ i' E qw (by
              have:(i'+1)*C.cells.size<=(j-i)*C.cells.size:=jd _ (by omega);rw[jV]at this;omega)
            rw[Fb tc hf o' (full tc)]at I;have IM:E<(enc tc (full tc) z).length:=(eO.1 I).1;rw[<-D.1]at IM;have hy:=bT IM;generalize vs[E]=y at hy;obtain⟨v,hv,Vh⟩:=kL E y hy;have O:C.cells[E]=v:=by
             have e1:C.cells.toList[E]?=some C.cells[E]:=by simp[qw]
             rw[e1]at hv;injection hv
            have mC:∀(w':World) (B':Nat) (aD:bJ) (q':aa Nat),RV w' B' aD q' x v:=λw' B' aD q'=>(abX Vh _).wk (D.2 E y x hy I)
            exact⟨_,ku,by rw[O];exact(mC w 0 (λ_=>none) []).one,λw' B' aD q'=>by rw[O];exact mC _ _ _ _⟩
           have sG:(Builtin.zeroCells C.cells (j-i)).toList.length=(List.replicate (j-i) z).length*aH tc:=by rw[sH,lV,mR,size_madeCells,ox]
           obtain⟨b,cap,cu,jM,ku,fz⟩:=hR.ab3 hm hf (p:=i) (ys:=List.replicate (j-i) z) (by rw[lV];omega) (by omega) jk sG;simp only[dn,cu]at Cw;injection Cw with Cw;injection Cw with e1 e2 e3;subst e1 e2 e3;refine⟨_,?_,fz⟩;have ia:sliced (some ⟨b,0,none⟩) i j cap (aH tc) = .slice (some ⟨b,i*aH tc,none⟩) (j-i) (cap-i):=by
            unfold sliced;rw[bk,Option.map_some,Addr.add_lit,fB]
           have lC:=run_storeCells_cells (P:=P) b (i*aH tc) (Builtin.zeroCells C.cells (j-i)).toList 0 w (λk D=>(ku k D).1) (λk D=>(ku k D).2) (λv hv=>by
            obtain⟨k,D⟩:=List.mem_iff_getElem?.1 hv;have qC:=(eO.1 D).1;rw[sG,lV]at qC;have uN:=pE tc;obtain⟨x,I⟩:=Cu tc 0 z (k % aH tc) (Nat.mod_lt _ uN);have dQ:k / aH tc<(List.replicate (j-i) z).length:=by rw[lV];exact Nat.div_lt_of_lt_mul (by rw[Nat.mul_comm];exact qC)
            obtain⟨v',O,m7,_⟩:=jk (k / aH tc) dQ 0 (k % aH tc) x (by rw[List.getElem_replicate];exact I);rw[Nat.mul_comm,Nat.div_add_mod,D]at O;injection O with O;rw[O];exact m7)
           simp only[Nat.add_zero]at lC;rw[ia];obtain⟨n',rj⟩:∃n',j-i=n'+1:=⟨j-i-1,by omega⟩
           rw[rj]at lC ⊢;simp[Builtin.clear_,iJ gP,hzr,lC]
       ·cases h
     ·cases h
    ·cases h
   ·cases h
  ·cases h
 ·cases h
def aoY{t:TypeId}{x:A}:cU λX k=>IL (X:=X) P σ t x k:=λX Y k g=>by
 unfold IL
 repeat' first|rfl|refine dN ?_ ?_|split
end
def Am(place:Nat->ah (Nat×Nat))(cells:aa Lf):aa (Nat×A)->ah (aa Lf)
 |[]=>some cells
 | (i,x) :: rest=>match place i,x.Af with
  |some (off,n),some xs=>if xs.length=n/\off+n<=cells.length then (bif xs.all Lf.live then Am place (splice cells off xs) rest else none)else none
  |_,_=>none
def ab5(P:Program)(t:TypeId):ah (Nat->ah (Nat×Nat)):=
 match P.underlying t with
 |some (.array _ e)=>(P.info? e).map λC=>λi=>some (i*C.size,C.size)
 |some (.struct fields)=>(fields.toList.mapM (λf=>(P.info? f.type).map λi=>(f.offset,i.size))).map λps=>(ps.toArray[·]?)
 |_=>none
def Ff{X:Type}(P:Program)(σ:S)(t:TypeId)(parts:aa (Nat×Operand))(k:A->ah X):ah X:=
 match zeroOf P t,ab5 P t with
 | some z,some pl=>match Am pl (z.cells.toList.map pI) (parts.map λp=>(p.1,aL σ p.2))with
  |some cs=>k (.agg cs)
  |none=>none
 |_,_=>none
def Lf.asV:Lf->ah V
 |.v x=>some x
 |_=>none
def uO:aa Lf->ah (aa V)
 |[]=>some []
 | x :: xs=>match x.asV,uO xs with
  |some y,some ys=>some (y::ys)
  |_,_=>none
def Cx(t:TC)(g:Nat):Nat->aa V->ah (aa (T t))
 |0,[]=>some []
 |0,_=>none
 | n+1,C=>match dec t g (C.take (aH t)),Cx t g n (C.drop (aH t))with
  |some x,some xs=>some (x::xs)
  |_,_=>none
def An{X:Type}(P:Program)(N:Nat)(σ:S)(d:Nat)(t:TypeId)(len:Nat)(parts:aa (Nat×Operand))(k:S->ah X):ah X:=
 match wm P t with
 | some (e,tc)=>match zeroOf P e with
  | some z=>bif Nat.beq (full tc) 0&&Nat.beq z.cells.size (aH tc)&&Nat.blt (len*aH tc) 16777217 then (match Am (λi=>some (i*aH tc,aH tc)) (List.replicate len (z.cells.toList.map pI)).flatten (parts.map λp=>(p.1,aL σ p.2))with
   | some cs=>(match uO cs with
    | some C=>(match Cx tc 0 len C with
     |some l=>iF N σ d (.sl (.sl tc 2 true l)) (.lf (.own [d])) k
     |none=>none)
    |none=>none)
   |none=>none)else none
  |none=>none
 |none=>none
section
variable {P:Program} {w w':World} {w0:Wd} {B N:Nat} {aj aD:bJ} {ρ ρ':Nat->Loc} {σ:S} {a:Act} {X:Type} {d:Nat} {r:X}
def ab6(off:Nat):∀ (l:aa Value) (n:Nat) (cs:Array Value),off+n+l.length <= cs.size ->
  ((l.zipIdx n).foldl (λ(cs:Array Value) (p:Value×Nat)=>cs.setIfInBounds (off+p.2) p.1) cs).toList=splice cs.toList (off+n) l
 |[],n,cs,_=>by simp[splice]
 | v :: l,n,cs,h=>by
  simp at h;rw[List.zipIdx_cons,List.foldl_cons,ab6 off l (n+1) _ (by simp;omega)];have C:off+n<cs.toList.length:=by simp;omega
  simp only[splice,Array.toList_setIfInBounds,mU];have D:(cs.toList.set (off+n) v).take (off+(n+1))=cs.toList.take (off+n)++[v]:=by
   rw[show off+(n+1)=off+n+1 by omega,List.take_succ_eq_append_getElem (by simpa using C),List.getElem_set_self,List.take_set_of_le (dc _)]
  have E:(cs.toList.set (off+n) v).drop (off+(n+1)+l.length)=cs.toList.drop (off+(n+1)+l.length):=by
   rw[List.drop_set_of_lt (by omega)]
  grind
def fy.splice{cs xs:aa Lf}{D E:Array Value}(h:fy w B aj ρ cs D)(I:fy w B aj ρ xs E){off:Nat}(O:off+xs.length <= cs.length){U:Array Value}(hc:U.toList=Proofs.YtdfkhfiglknaoaaGreat.splice D.toList off E.toList):fy w B aj ρ (Proofs.YtdfkhfiglknaoaaGreat.splice cs off xs) U:=by
 have hfv:off+E.toList.length <= D.toList.length:=by rw[mR,mR,I.1,h.1];exact O
 refine⟨?_,λj x C=>?_⟩
 ·rw[uG _ _ _ O,<- mR,hc,uG _ _ _ hfv,mR,h.1]
 ·have e:U[j]?=(Proofs.YtdfkhfiglknaoaaGreat.splice D.toList off E.toList)[j]?:=by rw[<- hc,Array.getElem?_toList]
  rw[e,yf _ _ _ hfv,mR,I.1];rw[yf _ _ _ O]at C;by_cases Y:j<off
  ·simp[Y,Array.getElem?_toList]at C ⊢;exact h.2 j x C
  ·by_cases h2:j<off+xs.length
   ·simp[Y,h2,Array.getElem?_toList]at C ⊢;exact I.2 _ x C
   ·simp[Y,h2,Array.getElem?_toList]at C ⊢;exact h.2 j x C
def OP{place:Nat -> ah (Nat×Nat)}:∀ (parts:aa (Nat×A)) (cells:aa Lf) (C:Array Value) (D:aa (Nat×Value)) (out:aa Lf),Am place cells parts=some out -> fy w B aj ρ cells C -> D.length=parts.length ->
  (∀(j:Nat) p q,parts[j]?=some p -> D[j]?=some q -> p.1=q.1/\RA w B aj ρ p.2 q.2) -> ∃E,Instr.fill place C D=some E/\fy w B aj ρ out E
 | [],cells,C,D,out,h,hR,hl,I=>by
  have:D=[]:=List.eq_nil_of_length_eq_zero hl;subst this;injection h with h;subst h;exact⟨C,rfl,hR⟩
 | (i,x) :: rest,cells,C,D,out,h,hR,hl,I=>by
  cases D with
  |nil=>simp at hl
  | cons v D=>
   obtain⟨i',v⟩:=v;obtain⟨e,O⟩:=I 0 _ _ rfl rfl;simp only at e O;subst e;unfold Am at h;split at h
   ·rename_i off n xs Ab oE;split at h
    ·rename_i hb;cases U:xs.all Lf.live with
     |false=>grind
     | true=>
      rw[U,aq]at h;obtain⟨Y,_⟩:=IB oE U O;have Vn:v.cells.size=n:=by rw[Y.1];exact hb.1
      have mZ:¬ (off+v.cells.size > C.size):=by rw[Vn,hR.1];omega
      have aoZ:(v.cells.zipIdx.foldl (λ(cs:Array Value) (p:Value×Nat)=>cs.setIfInBounds (off+p.2) p.1) C).toList=Proofs.YtdfkhfiglknaoaaGreat.splice C.toList off v.cells.toList:=by
       have:=ab6 off v.cells.toList 0 C (by rw[mR];omega);rw[<- Array.foldl_toList,Array.toList_zipIdx];exact this
      have uL:=hR.splice Y (off:=off) (by rw[hb.1];exact hb.2) aoZ;obtain⟨E,E4,fz⟩:=OP rest _ _ D out h uL (by simpa using hl) (λj p q hp' Cl=>I (j+1) p q (by simpa using hp') (by simpa using Cl));refine⟨E,?_,fz⟩;have cx:(v.cells.size≠n || off+v.cells.size > C.size)=false:=by
       grind
      simp only[Instr.fill,Ab];rw[bk (by rw[cx];simp)];exact E4
    ·cases h
   ·cases h
def ao0(z:Value):fy w B aj ρ (z.cells.toList.map pI) z.cells:=by
 refine⟨by simp,λj x C=>?_⟩
 rw[fh]at C;cases D:z.cells.toList[j]? with
 |none=>simp_all
 | some v=>
  rw[D]at C;injection C with C;subst C;exact⟨v,by simpa using D,OH v⟩
def ao1{t:TypeId}{parts:Array (Nat×Operand)}{k:A -> ah X}(h:Ff P σ t parts.toList k=some r):∃ y,k y=some r /\ ∀ aj ρ a w,Rl w0 N aj ρ σ a w ->
  ∃v,(Instr.build t (parts.map λ(i,x)=>(i,a.eval x))).run P w = .ok v w/\RA w w0.heap.size aj ρ y v:=by
 unfold Ff at h;split at h
 ·rename_i z pl E C;split at h
  ·rename_i cs gA
   refine⟨_,h,λaj ρ a w hR=>?_⟩
   obtain⟨Y,hf,fz⟩:=OP (w:=w) (B:=w0.heap.size) (aj:=aj) (ρ:=ρ) _ _ z.cells (parts.toList.map λp=>(p.1,a.eval p.2)) cs gA (ao0 z) (by simp) (λj p q D I=>by
    rw[fh]at D I;cases hx:parts.toList[j]? with
    |none=>rw[hx]at D;cases D
    | some x=>
     rw[hx]at D I;injection D with D;injection I with I;subst D I;exact⟨rfl,hR.aL x.2⟩)
   refine⟨_,run_build (P:=P) w t _ Y ?_,Y,rfl,fz⟩;have IN:(parts.map λ(i,x)=>(i,a.eval x)).toList=parts.toList.map λp=>(p.1,a.eval p.2):=by simp
   rw[IN];unfold zeroOf at E;unfold Program.built;cases hi:P.info? t with
   |none=>simp[hi]at E
   | some i=>
    have E:i.zero=some z:=by simpa [hi]using E
    unfold ab5 at C;split at C
    ·rename_i n e O;cases U:P.info? e with
     |none=>simp[U]at C
     | some ie=>
      rw[U]at C;injection C with C;subst C;simp[O,E,U];exact hf
    ·rename_i fields O;cases D:fields.toList.mapM (λf=>(P.info? f.type).map λi=>(f.offset,i.size))with
     |none=>rw[D]at C;cases C
     | some ps=>
      rw[D]at C;injection C with C;subst C;simp only[O,E,D];exact hf
    ·cases C
  ·cases h
 ·cases h
def IP:∀ (cs:aa Lf) (C:aa V),uO cs=some C->cs=C.map .v
 |[],C,h=>by injection h with h;subst h;rfl
 | x :: xs,C,h=>by
  unfold uO at h;split at h
  next y ys D E=>injection h with h;subst h;rw[IP xs ys E,List.map_cons];cases x<;>first|(injection D with D;rw[D])|cases D
  ·cases h
def OQ(t:TC)(g:Nat):∀ (n:Nat) (C:aa V) (l:aa (T t)),Cx t g n C=some l -> l.length=n/\C.length=n*aH t /\ ∀ i (hi:i<l.length) (j:Nat) x,(enc t g l[i])[j]?=some x -> ∃ y,C[i*aH t+j]?=some y/\Wk y x
 | 0,[],l,h=>by
  injection h with h;subst h;exact⟨rfl,by simp,λi hi=>by simp at hi⟩
 |0,_::_,l,h=>by cases h
 | n+1,C,l,h=>by
  unfold Cx at h;split at h
  ·rename_i x xs I O;injection h with h;subst h;obtain⟨U,h2,h3⟩:=OQ t g n _ xs O;have D:=mY t g _ x I;have hlen:(C.take (aH t)).length=aH t:=by rw[D.1,mX]
   have qt:aH t <= C.length:=by rw[jf]at hlen;omega
   refine⟨by simp[U],?_,λi hi j y E=>?_⟩
   ·grind
   ·cases i with
    | zero=>
     have Y:j<aH t:=by have:=(eO.1 E).1;rwa [mX]at this
     have IQ:=bT (by rw[hlen];exact Y);refine⟨_,?_,D.2 j _ y IQ E⟩;simp_all
    |succ i =>grind
  ·cases h
def RV.under{k:aa Nat}{x:V}{v:Value}{n:Nat}(h:RV w B aj k x v)(E:1<k.length\/x.aI=true)(I:w.heap.size<=w'.heap.size)(hb:∀ b,b<w.heap.size->aj b≠some [n]->w'.heap[b]?=w.heap[b]?)(hl:∀ b,b<w.heap.size->aD b=aj b):RV w' B aD k x v:=
 h.map (Q:=λk D=>k=D/\1<k.length) I (λb C h=>⟨hb b C (by rw[h];simp),(hl b C).trans h⟩) (λb k D C h e=>by
  obtain⟨rfl,e⟩:=e;exact⟨hb b C (by rw[h];rintro⟨⟩;simp at e),(hl b C).trans h,λ_ _ _=>⟨rfl,by simp⟩⟩) (E.symm.imp_right λh=>⟨rfl,h⟩)
def uP(w:World)(B:Nat)(aj:bJ)(n C:Nat)(t:TC)(o:Nat)(l:aa (T t))(D:aa Value):Prop:=
 ∀i (hi:i<l.length) j x,(enc t o l[i])[j]?=some x->∃v,D[i*aH t+j]?=some v/\RV w B aj (j::(C+i)::aH t::[n]) x v
def RV.ao2{n:Nat}{t:TC}{o:Nat}{C:Bool}{l:aa (T t)}{u:Value}(h:RV w B aj [n] (.sl t (o+2) C l) u){B':Nat}(hB:∀ b,aj b=some [n] -> B' <= b):
  ∃xs,w.ownsRow B' (tid t) (aH t) u l.length xs/\(∀b,u.ownBlock=some b -> aj b=some [n])/\(C=true -> u.ownBlock≠none)/\uP w B aj n 0 t o l xs:=by
 cases h with
 |gy=>omega
 |gL=>omega
 |fq=>exact⟨[],⟨by simp,.inl ⟨rfl,rfl⟩⟩,by simp[Value.ownBlock],by simp,λi hi=>by simp at hi⟩
 |aI _ _ _ _ _ _ _ _ _ ho=>omega
 | own _ _ _ _ _ b cap cs us hl D E I O hc hr=>
  refine⟨cs.toList.take _,⟨?_,.inr ⟨b,cap,cs,rfl,hB b hl,D,I,O.1,E,rfl⟩⟩,λU Y=>?_,λ_=>by simp[Value.ownBlock],λi hi j x hx=>?_⟩
  ·simp_all
  ·have:b=U:=by simpa [Value.ownBlock]using Y
   simp_all
  ·have hj:j<aH t:=by have:=(eO.1 hx).1;rwa [mX]at this
   have dQ:i*aH t+j<l.length*aH t:=by
    have:(i+1)*aH t <= l.length*aH t:=jd _ hi;rw[jV]at this;omega
   grind
def uP.append{n:Nat}{t:TC}{o:Nat}{l l2:aa (T t)}{xs ys:aa Value}(h:uP w B aj n 0 t o l xs)(E:uP w B aj n l.length t o l2 ys)(hl:xs.length=l.length*aH t):uP w B aj n 0 t o (l++l2) (xs++ys):=by
 intro i hi j x C;by_cases D:i<l.length
 ·rw[List.getElem_append_left D]at C;obtain⟨v,I,r⟩:=h i D j x C
  grind
 ·rw[List.getElem_append_right (by omega)]at C;have O:i-l.length<l2.length:=by rw[oy]at hi;omega
  obtain⟨v,I,r⟩:=E _ O j x C;refine⟨v,?_,?_⟩
  ·have e:i*aH t+j=xs.length+((i-l.length)*aH t+j):=by
    rw[ Nat.sub_mul];have:l.length*aH t <= i*aH t:=jd _ (by omega);omega
   grind
  ·grind
def uP.under{n C:Nat}{t:TC}{o:Nat}{l:aa (T t)}{D:aa Value}(h:uP w B aj n C t o l D)(E:w.heap.size<=w'.heap.size)(hb:∀ b,b<w.heap.size->aj b≠some [n]->w'.heap[b]?=w.heap[b]?)(hl:∀ b,b<w.heap.size->aD b=aj b):uP w' B aD n C t o l D:=
 λi hi j x I=>let ⟨v,O,r⟩:=h i hi j x I;⟨v,O,r.under (.inl (by simp)) E hb hl⟩
def ab7{n:Nat}{t:TC}{o:Nat}{l:aa (T t)}{u:Value}{xs:aa Value}{B':Nat}(h:w.ownsRow B' (tid t) (aH t) u l.length xs)(D:uP w B aj n 0 t o l xs)(hl:∀ b,u.ownBlock=some b -> aj b=some [n]):
  RV w B aj [n] (.sl t (o+2) false l) u:=by
 rcases h.2 with ⟨rfl,E⟩|⟨b,cap,cs,rfl,hB,I,O,U,Y,ht⟩
 ·have:=List.eq_nil_of_length_eq_zero E;subst this;exact .fq _ _ _
 ·have tF:∀ i _ j x,(enc t o l[i])[j]?=some x -> ∃ v,cs[i*aH t+j]?=some v/\RV w B aj (j :: i :: aH t :: [n]) x v:=by
   intro i hi j x C;obtain⟨v,hv,r⟩:=D i hi j x C
   grind
  refine .own [n] t o false l b cap cs (λi j=>(cs[i*aH t+j]?).getD undef) (hl b rfl) I Y O ⟨U,λh=>by cases h⟩ (λi hi j x C=>?_) (λi hi j x C=>?_)
  ·grind
  ·grind
def Rl.ao3{t e ty:TypeId}{tc:TC}{i:TypeInfo}{z:Value}{rr o m c:Nat}{q:Bool}{l l2:aa (T tc)}{u:Value}{ad:ah Addr}{news:aa Value}(h:Rl w0 N aj ρ σ a w)(hF:w0.F rr=none)(gP:P.underlying t=some (.slice e))(ht:tid tc=e)(hi:P.info? e=some i)(hz:i.zero=some z)
  (gx:i.size=aH tc) (kZ:i.bytes <= 65536) (ox:z.cells.size=aH tc) (hd:RV w w0.heap.size aj [rr] (.sl tc (o+2) q l) u) (sF:Reads w w.heap.size (aH tc) ad m news) (m7:∀v∈news,v.oneCell'=true) (hm:m=l2.length)
  (IF:uP w w0.heap.size aj rr l.length tc o l2 news) (hlen:l.length+l2.length<1073741824):
  ∃C w' aD,(Builtin.append_ #[t,t] ty #[u,.slice ad m c]).run P w = .ok C w'/\Rl w0 N aD (cc ρ rr (.eU C)) ((σ.drop rr).root rr (.sl (.sl tc (o+2) false (l++l2)))) a w'/\pF C=true:=by
 subst ht hm;obtain⟨xs,Al,OR,hqn,jk⟩:=hd.ao2 (B':=0) (λb _=>jG b);have iT:(l.length+l2.length)*i.bytes <= 140737488355328:=by
  have h1:(l.length+l2.length)*i.bytes <= 1073741824*65536:=Nat.mul_le_mul (by omega) kZ;omega
 obtain⟨C,w',cH,I,E,iM⟩:=UG (P:=P) w 0 t ty (tid tc) i z (aH tc) i.bytes gP hi hz gx rfl ox (pE tc) u l.length xs Al _ ad l2.length c news sF m7 (by unfold maxLen;omega) iT (jG _);have IG:(l++l2).length=l.length+l2.length:=oy;rw[<- IG]at I;have Cv:=jk.append IF Al.1;have ia:pF C=true:=by rcases I.2 with ⟨rfl,_⟩|⟨_,_,_,rfl,_⟩<;>rfl
 have O:Below 0 w w':=(Below.refl 0 w).grown E (jG _) (λ_ _=>jG _);have mD:lz w0 w w':=⟨O.os,O.tape,O.output,O.size,λk D hL=>E.block k (Nat.lt_of_lt_of_le D h.below.size) (λe'=>by
  rcases(h.dI k _ (OR k e'.symm)).1 with h1|h1
  ·exact absurd D (Nat.not_lt.2 h1)
  ·exact h1 hL)⟩
 have U:∀b,b<w.heap.size -> aj b≠some [rr] -> w'.heap[b]?=w.heap[b]?:=λb hb cx=>E.block b hb (λe'=>cx (OR b e'.symm))
 by_cases Y:C.ownBlock=some w.heap.size
 ·have dQ:w.heap.size<w'.heap.size:=by
   rcases I.2 with ⟨rfl,_⟩|⟨b,cap,cs,rfl,_,hh,_⟩
   ·cases Y
   ·have:b=w.heap.size:=by simpa [Value.ownBlock]using Y
    grind
  have yu:∀b,b<w.heap.size -> cc aj w.heap.size (some [rr]) b=aj b:=λb hb=>cN _ _ _ (by omega)
  refine⟨C,w',cc aj w.heap.size (some [rr]),cH,h.Ai hF mD ⟨E.size,U,yu,λb hb=>(h.dI b [] hb).2.2 rfl⟩ (λb k hb D=>?_) (λr hr=>cN _ _ _ hr) (.sl C _ (cm _ _ _) (ab7 I (Cv.under E.size U yu) (λb hb=>?_))),ia⟩
  ·by_cases e:b=w.heap.size
   ·subst e;rw[cm]at D
    grind
   ·rw[cN _ _ _ e]at D;have:=(h.dI b k D).2.1;omega
  ·rw[Y]at hb;injection hb with hb;subst hb;exact cm _ _ _
 ·have Vk:C.ownBlock=u.ownBlock:=by
   rcases iM with iM|iM
   ·exact iM
   ·exact absurd iM Y
  refine⟨C,w',aj,cH,h.Ai hF mD ⟨E.size,U,λ_ _=>rfl,λb hb=>(h.dI b [] hb).2.2 rfl⟩ (λb k hb D=>?_) (λr hr=>cN _ _ _ hr) (.sl C _ (cm _ _ _) (ab7 I (Cv.under E.size U (λ_ _=>rfl)) (λb hb=>OR b (by rw[<- Vk];exact hb)))),ia⟩
  have:=(h.dI b k D).2.1;omega
end
end Go.Proofs.YtdfkhfiglknaoaaGreat
