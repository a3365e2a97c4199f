/-
  Running the program over pure contents, and that it follows (part 1). Nothing here is a claim.
-/
import Derived.Test.YtgjfmljpdnnihaaGreatAppend
import Derived.Test.YtgjfmljpdnnihaaGreatLaws
import Derived.Handy
import Derived.Great.BuildSlice
import Derived.ArgAppend
set_option linter.unusedSimpArgs false
namespace Go.Proofs.YtgjfmljpdnnihaaGreat
open Go.RowKit
set_option linter.defProp false
abbrev aa:=List
abbrev aj:=Option
abbrev ah:=Unit
def aq:=@cond_true
def dS:=@Bool.or_eq_true
def aJ:=@Bool.and_eq_true
def cE:=@Nat.eq_of_beq_eq_true
def cr:=@Nat.le_of_ble_eq_true
def gv:=@List.mem_of_getElem?
def dW:=@List.getElem?_map
def hU:=@Array.getElem?_eq_some_iff
def dz:=@Nat.le_refl
def ff:=@Nat.zero_add
def av:=@cond_false
def bN:=@List.all_eq_true
def bx:=@congrArg
def mJ:=@List.any_eq_false
theorem aV.{u}{c:Prop}{h:Decidable c}(k:c:=by omega){α:Sort u}{t e:α}:ite c t e=t:=if_pos k
def eN:=@List.length_map
def gN:=@Array.getD_eq_getD_getElem?
def kW:=@Array.length_toList
theorem aW.{u}{c:Prop}{h:Decidable c}(k:¬c:=by omega){α:Sort u}{t e:α}:ite c t e=e:=if_neg k
def iS:=@List.length_set
def dA:=@List.getElem?_eq_some_iff
def bH:=@List.getElem?_eq_getElem
def iB:=@Nat.mul_le_mul_right
def iC:=@Nat.succ_mul
def fQ:=@Sem.run_bind
def lU:=@Result.andThen_ok
def gB:=@run_underlying
def dg:=@List.getElem_mem
def iF:=@Nat.ble_eq_true_of_le
def ia:=@Option.some.injEq
def kG:=@List.length_take
def jX:=@List.length_replicate
def cW:=@List.getD_eq_getElem?_getD
def nh:=@Bool.or_eq_false_iff
def fH:=@Bool.not_eq_true'
def gk:=@List.mem_cons
def cP:=@Bool.true_and
def kX:=@List.mem_append
def gF:=@List.mem_singleton
theorem aO.{u}{c:Prop}{h:Decidable c}(k:c:=by omega){α:Sort u}{t:c->α}{e:¬c->α}:dite c t e=t k:=dif_pos k
def fA:=@List.mem_range
def lV:=@List.getElem_range
theorem aZ{p:Prop}[Decidable p](k:p:=by omega):decide p=true:=decide_eq_true k
def fI:=@decide_eq_true_eq
def bI:=@Bool.not_true
def eW:=@Int.le_refl
def ru:=@Int.tmod_eq_emod_of_nonneg
def bA:=@Int.toNat_natCast
theorem bu{p:Prop}[Decidable p](k:¬p:=by omega):decide p=false:=decide_eq_false k
def cZ:=@Int.natCast_zero
def fk:=@Int.eq_ofNat_of_zero_le
def gw:=@Sum.elim_inl
def kH:=@beq_self_eq_true
def jf:=@List.mem_iff_getElem
def qm:=@List.findIdx?_eq_some_iff_getElem
def eB:=@List.length_range
def sV:=@Int.tdiv_eq_ediv_of_nonneg
def oQ:=@decide_eq_false_iff_not
def fl:=@beq_iff_eq
set_option linter.unusedVariables false
set_option linter.unusedSimpArgs false
structure aF where
 bD:Int
 aD:Int
 rows:Int
 aM:Int
structure aN where
 aA:Int
 row:Int
 bX:Int
structure qp where
 order:Int
 hash:Bool
structure aR where
 kind:Int
 aA:Int
 row:Int
 bX:Int
structure bW where
 qq:Int
 rp:Int
 jD:Int
 rz:Int
 nT:Int
 jY:Int
 rA:Int
 rB:Int
 mK:Int
 wr:Int
 rC:Int
 rD:Int
 uF:Int
 sW:Int
 sX:Int
 xp:Int
 xs:Int
structure dK where
 open_:Bool
 row:Int
structure bL where
 aD:List dK
 aU:Int
structure bK where
 at_:Int
 cmd:aR
structure dP where
 last:List Int
 aX:List Int
structure cu where
 symbols:List Int
 mL:Bool
structure cN where
 cells:List cu
 bq:List Int
 aY:List Int
structure kY where
 bq:Int
 aY:Int
structure cK where
 rows:List Int
 counts:List Int
 eX:Int
structure fm where
 bR:Int
 map:List Int
structure dB where
 aC:List Int
 wait:Int
 dL:Bool
structure bg where
 id:Int
 eC:Int
 line:Int
 write:Bool
 data:Int
 at_:Int
structure di where
 weight:Int
 gx:Int
structure mM where
 on:Bool
 low:Int
 high:Int
structure iG where
 state:Int
 since:Int
 idle:Int
structure vJ where
 down:Int
 sleep:Int
structure cC where
 line:Int
 code:Int
 times:Int
structure sY where
 next:Int
 every:Int
 wait:Int
structure eo where
 fY:Int
 cap:Int
 ey:Int
 low:Int
 high:Int
 weights:List Int
 eY:vJ
structure jZ where
 bS:eo
 next:eo
 waits:Bool
structure fq where
 ak:aF
 bU:bW
 mapping:qp
 bR:Int
 interval:Int
 iU:Int
 dJ:kY
structure fN where
 id:Int
 at_:Int
 data:Int
 code:Int
structure ax where
 config:fq
 box:jZ
 now:Int
 aS:bL
 ready:dP
 array:cN
 spare:fm
 aE:dB
 bE:List cK
 guard:List Int
 pending:List aN
 queue:List bg
 shares:List di
 drain:mM
 aU:iG
 dD:sY
 errors:List cC
 trace:List bK
 cx:List fN
structure jE where
 kind:Int
 request:bg
 n:Int
 AD:Int
 addr:aN
 kZ:eo
structure bz where
 b:List Int
 i:Int
 h:Int
inductive TC where
 |int|u8|bool|str
 |fB
 |Addr
 |uG
 |Command
 |js
 |jF
 |kI
 |Event
 |nU
 |Cell
 |Array
 |vL
 |mN
 |qt
 |ld
 |eD
 |iI
 |sZ
 |Power
 |vM
 |iV
 |uH
 |lu
 |rE
 |Config
 |ni
 |dG
 |Act
 |rF
 |sl (t:TC)
 |E3
 |AE (g:Nat)
 |AF (g:Nat)
 |AG (g:Nat)
 |fnCommand (g:Nat)
deriving DecidableEq
def T:TC->Type
 |.int=>Int
 |.u8=>Int
 |.bool=>Bool
 |.str=>ByteArray
 |.fB=>aF
 |.Addr=>aN
 |.uG=>qp
 |.Command=>aR
 |.js=>bW
 |.jF=>dK
 |.kI=>bL
 |.Event=>bK
 |.nU=>dP
 |.Cell=>cu
 |.Array=>cN
 |.vL=>kY
 |.mN=>cK
 |.qt=>fm
 |.ld=>dB
 |.eD=>bg
 |.iI=>di
 |.sZ=>mM
 |.Power=>iG
 |.vM=>vJ
 |.iV=>cC
 |.uH=>sY
 |.lu=>eo
 |.rE=>jZ
 |.Config=>fq
 |.ni=>fN
 |.dG=>ax
 |.Act=>jE
 |.rF=>bz
 |.sl t=>aa (T t)
 |.E3=>ax
 |.AE _=>Int
 |.AF _=>bg
 |.AG _=>aN
 |.fnCommand _=>aR
def aB:TC->Nat
 |.E3=>76
 |.AE _=>3
 |.AF _=>8
 |.AG _=>5
 |.fnCommand _=>6
 |.fB=>4
 |.Addr=>3
 |.uG=>2
 |.Command=>4
 |.js=>17
 |.jF=>2
 |.kI=>2
 |.Event=>5
 |.nU=>2
 |.Cell=>2
 |.Array=>3
 |.vL=>2
 |.mN=>3
 |.qt=>2
 |.ld=>3
 |.eD=>6
 |.iI=>2
 |.sZ=>3
 |.Power=>3
 |.vM=>2
 |.iV=>3
 |.uH=>3
 |.lu=>8
 |.rE=>17
 |.Config=>28
 |.ni=>4
 |.dG=>75
 |.Act=>20
 |.rF=>3
 |_=>1
def full:TC->Nat
 |.int|.u8|.bool|.str=>0
 |.fB=>0
 |.Addr=>0
 |.uG=>0
 |.Command=>0
 |.js=>0
 |.jF=>0
 |.kI=>2
 |.Event=>0
 |.nU=>2
 |.Cell=>2
 |.Array=>4
 |.vL=>0
 |.mN=>2
 |.qt=>2
 |.ld=>2
 |.eD=>0
 |.iI=>0
 |.sZ=>0
 |.Power=>0
 |.vM=>0
 |.iV=>0
 |.uH=>0
 |.lu=>2
 |.rE=>2
 |.Config=>0
 |.ni=>0
 |.dG=>4
 |.Act=>2
 |.rF=>2
 |.sl t=>full t+2
 |.E3=>4
 |.AE _=>0
 |.AF _=>0
 |.AG _=>0
 |.fnCommand _=>0
def tid:TC->TypeId
 |.int=>3
 |.u8=>5
 |.bool=>4
 |.str=>9
 |.fB=>25
 |.Addr=>96
 |.uG=>29
 |.Command=>86
 |.js=>27
 |.jF=>130
 |.kI=>47
 |.Event=>189
 |.nU=>49
 |.Cell=>169
 |.Array=>52
 |.vL=>31
 |.mN=>116
 |.qt=>54
 |.ld=>56
 |.eD=>77
 |.iI=>172
 |.sZ=>62
 |.Power=>64
 |.vM=>36
 |.iV=>186
 |.uH=>66
 |.lu=>38
 |.rE=>44
 |.Config=>33
 |.ni=>80
 |.dG=>71
 |.Act=>98
 |.rF=>154
 |.sl .int=>34
 |.sl .bool=>276
 |.sl .str=>0
 |_=>0
inductive V where
 |int (k:IntKind) (n:Int)
 |bool (b:Bool)
 |str (s:ByteArray)
 |nil
 |sl (t:TC) (o:Nat) (q:Bool) (l:List (T t))
def V.aT:V->aj Int|.int .i64 n=>some n|_=>none
def V.Ou:V->aj Int|.int .u8 n=>some n|_=>none
def V.nj:V->aj Bool|.bool b=>some b|_=>none
def V.Ov:V->aj ByteArray|.str s=>some s|_=>none
def V.eZ(t:TC)(o:Nat):V->aj (aa (T t))
 |.sl D C _ l=>bif Nat.beq C o ||(Nat.ble (full t+2) C&&Nat.ble (full t+2) o)then (if h:D=t then some (h ▸ l)else none)else none
 |.nil=>some []
 |_=>none
inductive Wk:V->V->Prop
 |same (x:V):Wk x x
 |nil (t:TC) (o:Nat):Wk .nil (.sl t o false [])
 |q (t:TC) (o:Nat) (l:List (T t)):Wk (.sl t o true l) (.sl t o false l)
 |gr (t:TC) (o o':Nat) (qn:Bool) (l:List (T t)) (h:full t+2<=o) (h':full t+2<=o'):Wk (.sl t o' qn l) (.sl t o false l)
def kJ(xs ys:aa V):Prop:=xs.length=ys.length/\∀(j:Nat) (x y:V),xs[j]?=some x->ys[j]?=some y->Wk x y
def kJ.nil:kJ [] []:=⟨rfl,by simp⟩
def kJ.cons{x y:V}{xs ys:aa V}(h:Wk x y)(k:kJ xs ys):kJ (x :: xs) (y :: ys):=by
 refine⟨by simp[k.1],λj a b C hb=>?_⟩
 cases j with
 |zero=>simp_all
 |succ j=>simp at C hb;exact k.2 j a b C hb
def V.afT{x:V}{n:Int}(h:x.aT=some n):Wk x (.int .i64 n):=by
 unfold V.aT at h;split at h<;>first|(injection h with h;subst h;exact .same _)|cases h
def V.afU{x:V}{n:Int}(h:x.Ou=some n):Wk x (.int .u8 n):=by
 unfold V.Ou at h;split at h<;>first|(injection h with h;subst h;exact .same _)|cases h
def V.afV{x:V}{n:Bool}(h:x.nj=some n):Wk x (.bool n):=by
 unfold V.nj at h;split at h<;>first|(injection h with h;subst h;exact .same _)|cases h
def V.afW{x:V}{n:ByteArray}(h:x.Ov=some n):Wk x (.str n):=by
 unfold V.Ov at h;split at h<;>first|(injection h with h;subst h;exact .same _)|cases h
def V.E4{x:V}{t:TC}{o:Nat}{l:aa (T t)}(h:x.eZ t o=some l):Wk x (.sl t o false l):=by
 unfold V.eZ at h;split at h
 ·rename_i E C q I;cases hc:(Nat.beq C o || (Nat.ble (full t+2) C&&Nat.ble (full t+2) o))with
  |false=>simp_all
  | true=>
   rw[hc,aq]at h;split at h
   ·rename_i D;subst D;injection h with h;subst h;rw[dS,aJ]at hc;rcases hc with hc | hc
    ·obtain rfl:=cE hc;cases q
     ·exact .same _
     ·exact .q _ _ _
    ·exact .gr _ _ _ _ _ (cr hc.2) (cr hc.1)
   ·cases h
 ·injection h with h;subst h;exact .nil _ _
 ·cases h
def CC(x:aN)(o:Nat):aa V:=[.int .i64 x.aA,.int .i64 x.row,.int .i64 x.bX]
def CD(x:aR)(o:Nat):aa V:=[.int .i64 x.kind,.int .i64 x.aA,.int .i64 x.row,.int .i64 x.bX]
def CE(x:bg)(o:Nat):aa V:=[.int .i64 x.id,.int .i64 x.eC,.int .i64 x.line,.bool x.write,.int .i64 x.data,.int .i64 x.at_]
def CF(x:ax)(o:Nat):aa V:=[.int .i64 x.config.ak.bD,.int .i64 x.config.ak.aD,.int .i64 x.config.ak.rows,.int .i64 x.config.ak.aM,.int .i64 x.config.bU.qq,.int .i64 x.config.bU.rp,.int .i64 x.config.bU.jD,.int .i64 x.config.bU.rz,.int .i64 x.config.bU.nT,.int .i64 x.config.bU.jY,.int .i64 x.config.bU.rA,.int .i64 x.config.bU.rB,.int .i64 x.config.bU.mK,.int .i64 x.config.bU.wr,.int .i64 x.config.bU.rC,.int .i64 x.config.bU.rD,.int .i64 x.config.bU.uF,.int .i64 x.config.bU.sW,.int .i64 x.config.bU.sX,.int .i64 x.config.bU.xp,.int .i64 x.config.bU.xs,.int .i64 x.config.mapping.order,.bool x.config.mapping.hash,.int .i64 x.config.bR,.int .i64 x.config.interval,.int .i64 x.config.iU,.int .i64 x.config.dJ.bq,.int .i64 x.config.dJ.aY,.int .i64 x.box.bS.fY,.int .i64 x.box.bS.cap,.int .i64 x.box.bS.ey,.int .i64 x.box.bS.low,.int .i64 x.box.bS.high,.sl .int o false x.box.bS.weights,.int .i64 x.box.bS.eY.down,.int .i64 x.box.bS.eY.sleep,.int .i64 x.box.next.fY,.int .i64 x.box.next.cap,.int .i64 x.box.next.ey,.int .i64 x.box.next.low,.int .i64 x.box.next.high,.sl .int o false x.box.next.weights,.int .i64 x.box.next.eY.down,.int .i64 x.box.next.eY.sleep,.bool x.box.waits,.int .i64 x.now,.sl .jF o false x.aS.aD,.int .i64 x.aS.aU,.sl .int o false x.ready.last,.sl .int o false x.ready.aX,.sl .Cell o false x.array.cells,.sl .int o false x.array.bq,.sl .int o false x.array.aY,.int .i64 x.spare.bR,.sl .int o false x.spare.map,.sl .int o false x.aE.aC,.int .i64 x.aE.wait,.bool x.aE.dL,.sl .mN o false x.bE,.sl .int o false x.guard,.sl .Addr o false x.pending,.sl .eD o false x.queue,.sl .iI o false x.shares,.bool x.drain.on,.int .i64 x.drain.low,.int .i64 x.drain.high,.int .i64 x.aU.state,.int .i64 x.aU.since,.int .i64 x.aU.idle,.int .i64 x.dD.next,.int .i64 x.dD.every,.int .i64 x.dD.wait,.sl .iV o false x.errors,.sl .Event o false x.trace,.sl .ni o false x.cx]
def enc:(t:TC)->(o:Nat)->T t->aa V
 |.int,_,x=>[.int .i64 x]
 |.u8,_,x=>[.int .u8 x]
 |.bool,_,x=>[.bool x]
 |.str,_,x=>[.str x]
 |.fB,o,x=>[.int .i64 x.bD,.int .i64 x.aD,.int .i64 x.rows,.int .i64 x.aM]
 |.Addr,o,x=>CC x o
 |.uG,o,x=>[.int .i64 x.order,.bool x.hash]
 |.Command,o,x=>CD x o
 |.js,o,x=>[.int .i64 x.qq,.int .i64 x.rp,.int .i64 x.jD,.int .i64 x.rz,.int .i64 x.nT,.int .i64 x.jY,.int .i64 x.rA,.int .i64 x.rB,.int .i64 x.mK,.int .i64 x.wr,.int .i64 x.rC,.int .i64 x.rD,.int .i64 x.uF,.int .i64 x.sW,.int .i64 x.sX,.int .i64 x.xp,.int .i64 x.xs]
 |.jF,o,x=>[.bool x.open_,.int .i64 x.row]
 |.kI,o,x=>[.sl .jF o false x.aD,.int .i64 x.aU]
 |.Event,o,x=>[.int .i64 x.at_,.int .i64 x.cmd.kind,.int .i64 x.cmd.aA,.int .i64 x.cmd.row,.int .i64 x.cmd.bX]
 |.nU,o,x=>[.sl .int o false x.last,.sl .int o false x.aX]
 |.Cell,o,x=>[.sl .int o false x.symbols,.bool x.mL]
 |.Array,o,x=>[.sl .Cell o false x.cells,.sl .int o false x.bq,.sl .int o false x.aY]
 |.vL,o,x=>[.int .i64 x.bq,.int .i64 x.aY]
 |.mN,o,x=>[.sl .int o false x.rows,.sl .int o false x.counts,.int .i64 x.eX]
 |.qt,o,x=>[.int .i64 x.bR,.sl .int o false x.map]
 |.ld,o,x=>[.sl .int o false x.aC,.int .i64 x.wait,.bool x.dL]
 |.eD,o,x=>CE x o
 |.iI,o,x=>[.int .i64 x.weight,.int .i64 x.gx]
 |.sZ,o,x=>[.bool x.on,.int .i64 x.low,.int .i64 x.high]
 |.Power,o,x=>[.int .i64 x.state,.int .i64 x.since,.int .i64 x.idle]
 |.vM,o,x=>[.int .i64 x.down,.int .i64 x.sleep]
 |.iV,o,x=>[.int .i64 x.line,.int .i64 x.code,.int .i64 x.times]
 |.uH,o,x=>[.int .i64 x.next,.int .i64 x.every,.int .i64 x.wait]
 |.lu,o,x=>[.int .i64 x.fY,.int .i64 x.cap,.int .i64 x.ey,.int .i64 x.low,.int .i64 x.high,.sl .int o false x.weights,.int .i64 x.eY.down,.int .i64 x.eY.sleep]
 |.rE,o,x=>[.int .i64 x.bS.fY,.int .i64 x.bS.cap,.int .i64 x.bS.ey,.int .i64 x.bS.low,.int .i64 x.bS.high,.sl .int o false x.bS.weights,.int .i64 x.bS.eY.down,.int .i64 x.bS.eY.sleep,.int .i64 x.next.fY,.int .i64 x.next.cap,.int .i64 x.next.ey,.int .i64 x.next.low,.int .i64 x.next.high,.sl .int o false x.next.weights,.int .i64 x.next.eY.down,.int .i64 x.next.eY.sleep,.bool x.waits]
 |.Config,o,x=>[.int .i64 x.ak.bD,.int .i64 x.ak.aD,.int .i64 x.ak.rows,.int .i64 x.ak.aM,.int .i64 x.bU.qq,.int .i64 x.bU.rp,.int .i64 x.bU.jD,.int .i64 x.bU.rz,.int .i64 x.bU.nT,.int .i64 x.bU.jY,.int .i64 x.bU.rA,.int .i64 x.bU.rB,.int .i64 x.bU.mK,.int .i64 x.bU.wr,.int .i64 x.bU.rC,.int .i64 x.bU.rD,.int .i64 x.bU.uF,.int .i64 x.bU.sW,.int .i64 x.bU.sX,.int .i64 x.bU.xp,.int .i64 x.bU.xs,.int .i64 x.mapping.order,.bool x.mapping.hash,.int .i64 x.bR,.int .i64 x.interval,.int .i64 x.iU,.int .i64 x.dJ.bq,.int .i64 x.dJ.aY]
 |.ni,o,x=>[.int .i64 x.id,.int .i64 x.at_,.int .i64 x.data,.int .i64 x.code]
 |.dG,o,x=>CF x o
 |.Act,o,x=>[.int .i64 x.kind,.int .i64 x.request.id,.int .i64 x.request.eC,.int .i64 x.request.line,.bool x.request.write,.int .i64 x.request.data,.int .i64 x.request.at_,.int .i64 x.n,.int .i64 x.AD,.int .i64 x.addr.aA,.int .i64 x.addr.row,.int .i64 x.addr.bX,.int .i64 x.kZ.fY,.int .i64 x.kZ.cap,.int .i64 x.kZ.ey,.int .i64 x.kZ.low,.int .i64 x.kZ.high,.sl .int o false x.kZ.weights,.int .i64 x.kZ.eY.down,.int .i64 x.kZ.eY.sleep]
 |.rF,o,x=>[.sl .u8 o false x.b,.int .i64 x.i,.int .i64 x.h]
 |.sl t,o,x=>[.sl t o false x]
 |.E3,o,x=>.bool true::CF x o
 |.AE g,o,x=>.bool false::.int .i64 (g:Int)::[.int .i64 x]
 |.AF g,o,x=>.bool false::.int .i64 (g:Int)::CE x o
 |.AG g,o,x=>.bool false::.int .i64 (g:Int)::CC x o
 |.fnCommand g,o,x=>.bool false::.int .i64 (g:Int)::CD x o
def dF{α β:Type}(g:V->aj β)(f:β->aa V->aj α):aa V->aj α
 |x::cs=>(g x).bind λy=>f y cs
 |[]=>none
def dE{α:Type}(x:α):aa V->aj α
 |[]=>some x
 |_=>none
def V.cR(b:Bool):V->aj Bool|.bool c=>bif c==b then some c else none|_=>none
def V.CG(n:Int):V->aj Int|.int .i64 m=>if m=n then some m else none|_=>none
def DQ{α:Type}(e:α->aa V)(p:aa V->aa V)(d:aa V->aj α):Prop:=∀cs x,d cs=some x->∃L,e x=p L/\kJ cs L
def afX{α:Type}{e:α->aa V}{p:aa V->aa V}{x:α}(h:e x=p []):DQ e p (dE x):=λcs y C=>by
 cases cs with
 |nil=>injection C with C;subst C;exact⟨[],h,.nil⟩
 |cons=>cases C
def bind_some{α β:Type}{a:aj α}{f:α -> aj β}{b:β}(h:a.bind f=some b):∃ x,a=some x/\f x=some b:=by
 cases a with
 |none=>cases h
 |some x=>simp_all
def AH{α β:Type}{e:α->aa V}{p:aa V->aa V}{g:V->aj β}{k:β->V}(D:∀ {x y},g x=some y->Wk x (k y)){f:β->aa V->aj α}(E:∀ y,DQ e (λL=>p (k y :: L)) (f y)):DQ e p (dF g f):=λcs x C=>by
 cases cs with
 |nil=>cases C
 | cons c cs=>
  obtain⟨y,I,O⟩:=bind_some C;obtain⟨L,T,U⟩:=E y cs x O;exact⟨k y::L,T,.cons (D I) U⟩
def V.afY{b:Bool}{x:V}{c:Bool}(h:x.cR b=some c):Wk x (.bool b):=by
 unfold V.cR at h;split at h
 next C=>cases C<;>cases b<;>first|exact .same _|cases h
 ·cases h
def V.afZ{n:Int}{x:V}{c:Int}(h:x.CG n=some c):Wk x (.int .i64 n):=by
 unfold V.CG at h;split at h
 ·split at h
  next C=>subst C;exact .same _
  ·cases h
 ·cases h
abbrev VT (o:Nat):aa V->aj aN:=dF V.aT λC=>dF V.aT λD=>dF V.aT λE=>dE ⟨C,D,E⟩
abbrev VU (o:Nat):aa V->aj aR:=dF V.aT λC=>dF V.aT λD=>dF V.aT λE=>dF V.aT λI=>dE ⟨C,D,E,I⟩
abbrev VV (o:Nat):aa V->aj bg:=dF V.aT λC=>dF V.aT λD=>dF V.aT λE=>dF V.nj λI=>dF V.aT λO=>dF V.aT λT=>dE ⟨C,D,E,I,O,T⟩
abbrev VW (o:Nat):aa V->aj ax:=dF V.aT λC=>dF V.aT λD=>dF V.aT λE=>dF V.aT λI=>dF V.aT λO=>dF V.aT λT=>dF V.aT λU=>dF V.aT λY=>dF V.aT λZ=>dF V.aT λx9=>dF V.aT λvN=>dF V.aT λvO=>dF V.aT λvP=>dF V.aT λvQ=>dF V.aT λvR=>dF V.aT λvS=>dF V.aT λvT=>dF V.aT λE5=>dF V.aT λE6=>dF V.aT λE7=>dF V.aT λOw=>dF V.aT λOx=>dF V.nj λOy=>dF V.aT λOz=>dF V.aT λOA=>dF V.aT λOB=>dF V.aT λOC=>dF V.aT λOD=>dF V.aT λx28=>dF V.aT λx29=>dF V.aT λx30=>dF V.aT λx31=>dF V.aT λx32=>dF (V.eZ .int o) λx33=>dF V.aT λx34=>dF V.aT λx35=>dF V.aT λx36=>dF V.aT λx37=>dF V.aT λx38=>dF V.aT λx39=>dF V.aT λx40=>dF (V.eZ .int o) λx41=>dF V.aT λx42=>dF V.aT λx43=>dF V.nj λx44=>dF V.aT λx45=>dF (V.eZ .jF o) λx46=>dF V.aT λx47=>dF (V.eZ .int o) λx48=>dF (V.eZ .int o) λx49=>dF (V.eZ .Cell o) λx50=>dF (V.eZ .int o) λx51=>dF (V.eZ .int o) λx52=>dF V.aT λx53=>dF (V.eZ .int o) λx54=>dF (V.eZ .int o) λx55=>dF V.aT λx56=>dF V.nj λx57=>dF (V.eZ .mN o) λx58=>dF (V.eZ .int o) λx59=>dF (V.eZ .Addr o) λx60=>dF (V.eZ .eD o) λx61=>dF (V.eZ .iI o) λx62=>dF V.nj λx63=>dF V.aT λx64=>dF V.aT λx65=>dF V.aT λx66=>dF V.aT λx67=>dF V.aT λx68=>dF V.aT λx69=>dF V.aT λx70=>dF V.aT λx71=>dF (V.eZ .iV o) λx72=>dF (V.eZ .Event o) λx73=>dF (V.eZ .ni o) λx74=>dE ⟨⟨⟨C,D,E,I⟩,⟨O,T,U,Y,Z,x9,vN,vO,vP,vQ,vR,vS,vT,E5,E6,E7,Ow⟩,⟨Ox,Oy⟩,Oz,OA,OB,⟨OC,OD⟩⟩,⟨⟨x28,x29,x30,x31,x32,x33,⟨x34,x35⟩⟩,⟨x36,x37,x38,x39,x40,x41,⟨x42,x43⟩⟩,x44⟩,x45,⟨x46,x47⟩,⟨x48,x49⟩,⟨x50,x51,x52⟩,⟨x53,x54⟩,⟨x55,x56,x57⟩,x58,x59,x60,x61,x62,⟨x63,x64,x65⟩,⟨x66,x67,x68⟩,⟨x69,x70,x71⟩,x72,x73,x74⟩
def dec:(t:TC)->(o:Nat)->aa V->aj (T t)
 |.int,_=>dF V.aT dE
 |.u8,_=>dF V.Ou dE
 |.bool,_=>dF V.nj dE
 |.str,_=>dF V.Ov dE
 |.fB,o=>dF V.aT λC=>dF V.aT λD=>dF V.aT λE=>dF V.aT λI=>dE ⟨C,D,E,I⟩
 |.Addr,o=>VT o
 |.uG,o=>dF V.aT λC=>dF V.nj λD=>dE ⟨C,D⟩
 |.Command,o=>VU o
 |.js,o=>dF V.aT λC=>dF V.aT λD=>dF V.aT λE=>dF V.aT λI=>dF V.aT λO=>dF V.aT λU=>dF V.aT λY=>dF V.aT λZ=>dF V.aT λx8=>dF V.aT λx9=>dF V.aT λvN=>dF V.aT λvO=>dF V.aT λvP=>dF V.aT λvQ=>dF V.aT λvR=>dF V.aT λvS=>dF V.aT λvT=>dE ⟨C,D,E,I,O,U,Y,Z,x8,x9,vN,vO,vP,vQ,vR,vS,vT⟩
 |.jF,o=>dF V.nj λC=>dF V.aT λD=>dE ⟨C,D⟩
 |.kI,o=>dF (V.eZ .jF o) λC=>dF V.aT λD=>dE ⟨C,D⟩
 |.Event,o=>dF V.aT λC=>dF V.aT λD=>dF V.aT λE=>dF V.aT λI=>dF V.aT λO=>dE ⟨C,⟨D,E,I,O⟩⟩
 |.nU,o=>dF (V.eZ .int o) λC=>dF (V.eZ .int o) λD=>dE ⟨C,D⟩
 |.Cell,o=>dF (V.eZ .int o) λC=>dF V.nj λD=>dE ⟨C,D⟩
 |.Array,o=>dF (V.eZ .Cell o) λC=>dF (V.eZ .int o) λD=>dF (V.eZ .int o) λE=>dE ⟨C,D,E⟩
 |.vL,o=>dF V.aT λC=>dF V.aT λD=>dE ⟨C,D⟩
 |.mN,o=>dF (V.eZ .int o) λC=>dF (V.eZ .int o) λD=>dF V.aT λE=>dE ⟨C,D,E⟩
 |.qt,o=>dF V.aT λC=>dF (V.eZ .int o) λD=>dE ⟨C,D⟩
 |.ld,o=>dF (V.eZ .int o) λC=>dF V.aT λD=>dF V.nj λE=>dE ⟨C,D,E⟩
 |.eD,o=>VV o
 |.iI,o=>dF V.aT λC=>dF V.aT λD=>dE ⟨C,D⟩
 |.sZ,o=>dF V.nj λC=>dF V.aT λD=>dF V.aT λE=>dE ⟨C,D,E⟩
 |.Power,o=>dF V.aT λC=>dF V.aT λD=>dF V.aT λE=>dE ⟨C,D,E⟩
 |.vM,o=>dF V.aT λC=>dF V.aT λD=>dE ⟨C,D⟩
 |.iV,o=>dF V.aT λC=>dF V.aT λD=>dF V.aT λE=>dE ⟨C,D,E⟩
 |.uH,o=>dF V.aT λC=>dF V.aT λD=>dF V.aT λE=>dE ⟨C,D,E⟩
 |.lu,o=>dF V.aT λC=>dF V.aT λD=>dF V.aT λE=>dF V.aT λI=>dF V.aT λO=>dF (V.eZ .int o) λU=>dF V.aT λY=>dF V.aT λZ=>dE ⟨C,D,E,I,O,U,⟨Y,Z⟩⟩
 |.rE,o=>dF V.aT λC=>dF V.aT λD=>dF V.aT λE=>dF V.aT λI=>dF V.aT λO=>dF (V.eZ .int o) λU=>dF V.aT λY=>dF V.aT λZ=>dF V.aT λx8=>dF V.aT λx9=>dF V.aT λvN=>dF V.aT λvO=>dF V.aT λvP=>dF (V.eZ .int o) λvQ=>dF V.aT λvR=>dF V.aT λvS=>dF V.nj λvT=>dE ⟨⟨C,D,E,I,O,U,⟨Y,Z⟩⟩,⟨x8,x9,vN,vO,vP,vQ,⟨vR,vS⟩⟩,vT⟩
 |.Config,o=>dF V.aT λC=>dF V.aT λD=>dF V.aT λE=>dF V.aT λI=>dF V.aT λO=>dF V.aT λU=>dF V.aT λY=>dF V.aT λZ=>dF V.aT λx8=>dF V.aT λx9=>dF V.aT λvN=>dF V.aT λvO=>dF V.aT λvP=>dF V.aT λvQ=>dF V.aT λvR=>dF V.aT λvS=>dF V.aT λvT=>dF V.aT λE5=>dF V.aT λE6=>dF V.aT λE7=>dF V.aT λOw=>dF V.aT λOx=>dF V.nj λOy=>dF V.aT λOz=>dF V.aT λOA=>dF V.aT λOB=>dF V.aT λOC=>dF V.aT λOD=>dE ⟨⟨C,D,E,I⟩,⟨O,U,Y,Z,x8,x9,vN,vO,vP,vQ,vR,vS,vT,E5,E6,E7,Ow⟩,⟨Ox,Oy⟩,Oz,OA,OB,⟨OC,OD⟩⟩
 |.ni,o=>dF V.aT λC=>dF V.aT λD=>dF V.aT λE=>dF V.aT λI=>dE ⟨C,D,E,I⟩
 |.dG,o=>VW o
 |.Act,o=>dF V.aT λC=>dF V.aT λD=>dF V.aT λE=>dF V.aT λI=>dF V.nj λO=>dF V.aT λU=>dF V.aT λY=>dF V.aT λZ=>dF V.aT λx8=>dF V.aT λx9=>dF V.aT λvN=>dF V.aT λvO=>dF V.aT λvP=>dF V.aT λvQ=>dF V.aT λvR=>dF V.aT λvS=>dF V.aT λvT=>dF (V.eZ .int o) λE5=>dF V.aT λE6=>dF V.aT λE7=>dE ⟨C,⟨D,E,I,O,U,Y⟩,Z,x8,⟨x9,vN,vO⟩,⟨vP,vQ,vR,vS,vT,E5,⟨E6,E7⟩⟩⟩
 |.rF,o=>dF (V.eZ .u8 o) λC=>dF V.aT λD=>dF V.aT λE=>dE ⟨C,D,E⟩
 |.sl t,o=>dF (V.eZ t o) dE
 |.E3,o=>dF (V.cR true) λ_=>VW o
 |.AE g,o=>dF (V.cR false) λ_=>dF (V.CG g) λ_=>dF V.aT dE
 |.AF g,o=>dF (V.cR false) λ_=>dF (V.CG g) λ_=>VV o
 |.AG g,o=>dF (V.cR false) λ_=>dF (V.CG g) λ_=>VT o
 |.fnCommand g,o=>dF (V.cR false) λ_=>dF (V.CG g) λ_=>VU o
def VX:TC->Nat->aa V
 |.dG,o=>CF ⟨⟨⟨0,0,0,0⟩,⟨0,0,0,0,0,0,0,0,0,0,0,0,0,0,0,0,0⟩,⟨0,false⟩,0,0,0,⟨0,0⟩⟩,⟨⟨0,0,0,0,0,[],⟨0,0⟩⟩,⟨0,0,0,0,0,[],⟨0,0⟩⟩,false⟩,0,⟨[],0⟩,⟨[],[]⟩,⟨[],[],[]⟩,⟨0,[]⟩,⟨[],0,false⟩,[],[],[],[],[],⟨false,0,0⟩,⟨0,0,0⟩,⟨0,0,0⟩,[],[],[]⟩ o
 |_,_=>[]
def ke(t:TC)(o:Nat)(x:T t):(enc t o x).length=aB t:=by cases t<;>rfl
def nW(t:TC):0<aB t:=by cases t<;>simp[aB]
def af0(t:TC)(o:Nat):DQ (enc t o) id (dec t o):=by
 cases t<;>dsimp only[dec]<;>(repeat' first|exact afX rfl|refine AH V.afT λ_=>?_|refine AH V.afV λ_=>?_|refine AH V.E4 λ_=>?_|refine AH V.afW λ_=>?_|refine AH V.afU λ_=>?_|refine AH V.afY λ_=>?_|refine AH V.afZ λ_=>?_)
def lz(t:TC)(o:Nat)(cs:aa V)(x:T t)(h:dec t o cs=some x):kJ cs (enc t o x):=by
 obtain⟨L,C,D⟩:=af0 t o cs x h;rw[C];exact D
def V.low(n:Nat):V->Bool
 |.sl t _ _ _=>Nat.ble (full t+2) n
 |_=>true
def Jo(t:TC)(o:Nat)(x:T t):∀ y∈enc t o x,y.low (full t)=true:=by
 cases t<;>simp[enc,V.low,full,CC,CD,CE,CF]
def V.plain:V->Bool
 |.int _ _|.bool _|.str _=>true
 |_=>false
def yp(t:TC)(o:Nat)(x:T t)(h:full t=0):∀ y∈enc t o x,y.plain=true:=by
 cases t<;>first|(simp[full]at h;done)|simp[enc,V.plain,CC,CD,CE]
def V.jG:V->Bool
 |.nil=>false
 |_=>true
def OE(t:TC)(o:Nat)(x:T t):∀ y∈enc t o x,y.jG=true:=by
 cases t<;>simp[enc,V.jG,CC,CD,CE,CF]
def tcs:aa TC:=[.int,.u8,.bool,.str,.sl .int,.sl .bool,.sl .str,.fB,.Addr,.uG,.Command,.js,.jF,.kI,.Event,.nU,.Cell,.Array,.vL,.mN,.qt,.ld,.eD,.iI,.sZ,.Power,.vM,.iV,.uH,.lu,.rE,.Config,.ni,.dG,.Act,.rF]
def VY(e:TypeId):aj TC:=tcs.find? λt=>Nat.beq (tid t) e
def af1{e:TypeId}{t:TC}(h:VY e=some t):tid t=e:=cE (List.find?_some (p:=λt=>Nat.beq (tid t) e) h)
def V.gr(o:Nat):V->Bool
 |.sl _ C _ _=>C==o
 |_=>true
def yu(t:TC)(o:Nat)(x:T t):∀ y∈enc t o x,y.gr o=true:=by
 cases t<;>simp[enc,V.gr,CC,CD,CE,CF]
def V.aG:V->Bool
 |.sl _ o _ _=>decide (o<2)
 |_=>true
def V.fZ:V->V
 |.sl t _ q l=>.sl t 0 q l
 |x=>x
def af2(t:TC)(o:Nat)(x y:T t):(enc t o x).map (λv=>(v.plain,v.aG))=(enc t o y).map (λv=>(v.plain,v.aG)):=by cases t<;>rfl
def V.af3(x:V):x.fZ.aG=true:=by cases x<;>simp[V.fZ,V.aG]
def oR(t:TC)(o:Nat)(x:T t)(C:o<2)(j:Nat)(y:V)(h:(enc t o x)[j]?=some y):y.aG=true:=by
 have:=yu t o x y (gv h);cases y<;>simp_all [V.gr,V.aG]
def VZ(t:TC)(o:Nat)(x:T t):enc t 0 x=(enc t o x).map V.fZ:=by cases t<;>rfl
def vU(t:TC)(o:Nat)(x:T t)(j:Nat)(y:V)(h:(enc t 0 x)[j]?=some y):∃ z,(enc t o x)[j]?=some z/\y=z.fZ:=by
 rw[VZ t o x,dW]at h
 grind
def inner:Nat->Nat
 |0=>0
 |1=>1
 |n+2=>n
abbrev bk:=Nat->aj (aa Nat)
inductive RV (w:World) (B:Nat) (af:bk):List Nat->V->Value->Prop
 |int (q:List Nat) (k:IntKind) (n:Int):RV w B af q (.int k n) (.int k n)
 |bool (q:List Nat) (b:Bool):RV w B af q (.bool b) (.bool b)
 |str (q:List Nat) (s:ByteArray):RV w B af q (.str s) (.string s)
 |nil (q:List Nat):RV w B af q .nil (.slice none 0 0)
 |dX (q:List Nat) (t:TC) (o:Nat):RV w B af q (.sl t o false []) (.slice none 0 0)
 |fy (q:List Nat) (t:TC) (o:Nat) (A:Addr) (c:Nat) (ho:o<2):RV w B af q (.sl t o false []) (.slice (some A) 0 c)
 |fJ (q:List Nat) (t:TC) (o:Nat) (A:Addr) (c:Nat) (ho:o<2):RV w B af q (.sl t o true []) (.slice (some A) 0 c)
 | aG (q:List Nat) (t:TC) (o:Nat) (qn:Bool) (l:List (T t)) (b off cap:Nat) (u:Nat->Nat->Value) (ho:o<2) (hl:af b=none) (hb:b<w.heap.size) (h1:o=1->B<=b) (jH:l.length<=cap)
   (hc:∀i (h:i<l.length) j x,(enc t o l[i])[j]?=some x->w.cell? ⟨b,off+(i*aB t+j),none⟩=some (u i j))
   (hr:∀i (h:i<l.length) j x,(enc t o l[i])[j]?=some x->RV w B af [] x (u i j)):RV w B af q (.sl t o qn l) (.slice (some ⟨b,off,none⟩) l.length cap)
 | own (q:List Nat) (t:TC) (o:Nat) (qn:Bool) (l:List (T t)) (b cap:Nat) (cs:Array Value) (u:Nat->Nat->Value) (hl:af b=some q) (hh:w.heap[b]?=some (.cells cs (tid t) (0,0)))
   (hs:cs.size=cap*aB t) (hn:l.length<=cap) (hm:cap<=maxLen/\(qn=true->cap=l.length))
   (hc:∀i (h:i<l.length) j x,(enc t o l[i])[j]?=some x->cs[i*aB t+j]?=some (u i j))
   (hr:∀i (h:i<l.length) j x,(enc t o l[i])[j]?=some x->RV w B af (j::i::aB t::q) x (u i j)):RV w B af q (.sl t (o+2) qn l) (.slice (some ⟨b,0,none⟩) l.length cap)
section
variable {w w':World} {B:Nat} {af az:bk}
def V.E8(n:Nat):V->V
 |.sl t _ q l=>.sl t n q l
 |x=>x
def af4(t:TC)(o n:Nat)(x:T t):enc t n x=(enc t o x).map (V.E8 n):=by cases t<;>rfl
def V.fu(n:Nat):V->Prop
 |.sl t o _ _=>full t+2<=o/\full t+2<=n
 |_=>True
def RV.E8{q:aa Nat}{x:V}{v:Value}(h:RV w B af q x v):∀ n,x.fu n -> RV w B af q (x.E8 n) v:=by
 induction h with
 |int=>exact λ_ _=>.int _ _ _
 |bool=>exact λ_ _=>.bool _ _
 |str=>exact λ_ _=>.str _ _
 |nil=>exact λ_ _=>.nil _
 |dX=>exact λ_ _=>.dX _ _ _
 |fy q t o A c I=>exact λn C=>by have:=C.1;omega
 |fJ q t o A c I=>exact λn C=>by have:=C.1;omega
 |aG q t o O l b off cap u I hl hb T jH U Y Z=>exact λn C=>by have:=C.1;omega
 | own q t o O l b cap cs u hl hh hs C hm U Y Z=>
  intro n hf;obtain⟨T,h2⟩:=hf;obtain⟨m,rfl⟩:∃m,n=m+2:=⟨n-2,by omega⟩
  have key:∀ (i:Nat) (h:i<l.length) (j:Nat) (x:V),(enc t m l[i])[j]?=some x -> ∃ y:V,(enc t o l[i])[j]?=some y/\y.E8 m=x/\y.fu m:=by
   intro i h j x D;rw[af4 t o m l[i],dW]at D;cases E:(enc t o l[i])[j]? with
   |none=>simp_all
   | some y=>
    rw[E]at D;injection D with D;refine⟨y,rfl,D,?_⟩;have g1:=yu t o l[i] y (gv E);have g2:=Jo t o l[i] y (gv E);cases y with
    | sl t' o' q' l'=>
     have e:o'=o:=by simpa [V.gr]using g1
     have:=cr (show Nat.ble _ _=true from g2);exact⟨by omega,by omega⟩
    |_=>trivial
  refine .own _ _ _ _ _ _ _ cs u hl hh hs C hm (λi h j x D=>?_) (λi h j x D=>?_)
  ·grind
  ·grind
def RV.wk{q:aa Nat}{x y:V}{v:Value}(h:RV w B af q x v)(k:Wk x y):RV w B af q y v:=by
 cases k with
 |same=>exact h
 |nil t o=>cases h;exact .dX _ _ _
 | gr t o o' I l O h2=>
  have h:=h.E8 o ⟨h2,O⟩;cases h with
  |dX=>exact .dX _ _ _
  |fy q t o A c C=>grind
  |fJ q t o A c C=>grind
  |aG q t o I l b off cap u C hl hb O jH D E=>grind
  |own q t o I l b cap cs u hl T U Y Z D E=>exact .own _ _ _ _ _ _ _ cs u hl T U Y ⟨Z.1,λh=>by cases h⟩ D E
 | q t o l=>
  cases h with
  |fJ q t o A c C=>exact .fy _ _ _ _ _ C
  |aG q t o I l b off cap u C hl hb O jH D E=>exact .aG _ _ _ _ _ _ _ _ u C hl hb O jH D E
  |own q t o I l b cap cs u hl T U Y Z D E=>exact .own _ _ _ _ _ _ _ cs u hl T U Y ⟨Z.1,λh=>by cases h⟩ D E
def RV.map{Q:aa Nat->aa Nat->Prop}(Z:w.heap.size<=w'.heap.size)(h0:∀ b,b<w.heap.size->af b=none->w'.heap[b]?=w.heap[b]?/\az b=none)
  (h1:∀b q C,b<w.heap.size->af b=some q->Q q C->w'.heap[b]?=w.heap[b]?/\az b=some C/\∀j i s,Q (j::i::s::q) (j::i::s::C)) {q C:aa Nat} {x:V} {v:Value} (h:RV w B af q x v) (hq:x.aG=true\/Q q C):RV w' B az C x v:=by
 induction h generalizing C with
 |int=>exact .int _ _ _
 |bool=>exact .bool _ _
 |str=>exact .str _ _
 |nil=>exact .nil _
 |dX=>exact .dX _ _ _
 |fy _ _ _ _ _ D=>exact .fy _ _ _ _ _ D
 |fJ _ _ _ _ _ D=>exact .fJ _ _ _ _ _ D
 | aG q t o qn l b off cap u D hl hb V0 jH I hr O=>
  obtain⟨T,U⟩:=h0 b hb hl;exact .aG _ _ _ _ _ _ _ _ u D U (Nat.lt_of_lt_of_le hb Z) V0 jH (λi h j x E=>(World.cell?_of_block (a:=⟨b,_,none⟩) T).trans (I i h j x E)) (λi h j x E=>O i h j x E (.inl (oR t o l[i] D j x E)))
 | own q t o qn l b cap cs u hl Y hs hn hm I hr O=>
  obtain⟨T,U,e3⟩:=h1 b q C (hU.1 Y).1 hl (hq.resolve_left (by simp[V.aG]));exact .own _ _ _ _ _ _ _ cs u U (T.trans Y) hs hn hm I (λi h j x E=>O i h j x E (.inr (e3 _ _ _)))
def RV.V1{q C:aa Nat}{x:V}{v:Value}(h:RV w B af q x v)(D:x.aG=true)(hl:∀ b,af b=none->az b=none):RV w B az C x v:=
 h.map (Q:=λ_ _=>False) (dz _) (λb _ h=>⟨rfl,hl b h⟩) (λ_ _ _ _ _ h=>h.elim) (.inl D)
def RV.Jp{q:aa Nat}{x:V}{v:Value}(h:RV w B af q x v)(C:x.aG=true)(hl:∀b,af b=none->az b=none):RV w B az q x v:=h.V1 C hl
def RV.key{q C:aa Nat}{x:V}{v:Value}(h:RV w B af q x v)(D:x.aG=true):RV w B af C x v:=h.V1 D λ_ h=>h
def lW:Value->Bool
 |.slice ..=>true
 |_=>false
def RV.OF{q:aa Nat}{x:V}{u:Value}(h:RV w B af q x u)(C:x.aG=false):lW u=true:=by
 cases h<;>first|rfl|cases C
def RV.one{q:aa Nat}{x:V}{u:Value}(h:RV w B af q x u):u.oneCell'=true:=by
 cases h<;>rfl
def RV.iW{q:aa Nat}{x:V}{v:Value}(h:RV w B af q x v)(D:w.heap.size<=w'.heap.size)(C:∀ b,b<w.heap.size->w'.heap[b]?=w.heap[b]?/\az b=af b):RV w' B az q x v:=
 h.map (Q:=Eq) D (λb hb hl=>⟨(C b hb).1,(C b hb).2.trans hl⟩) (λb q E hb hl e=>by subst e;exact⟨(C b hb).1,(C b hb).2.trans hl,λ_ _ _=>rfl⟩) (.inr rfl)
def RV.apart{q kt:aa Nat}{x:V}{v:Value}{bt:Nat}(h:RV w B af q x v)(C:af bt=some kt)(I:¬ q <:+ kt\/x.aG=true)(O:w.heap.size<=w'.heap.size)(D:∀ b,b≠bt->w'.heap[b]?=w.heap[b]?):RV w' B af q x v:=
 h.map (Q:=λq E=>q=E/\¬ q <:+ kt) O (λb _ hl=>⟨D b (by rintro rfl;rw[hl]at C;cases C),hl⟩) (λb q E _ hl e=>by
  obtain⟨rfl,e⟩:=e;exact⟨D b (by rintro rfl;rw[hl]at C;injection C with C;subst C;exact e (List.suffix_refl _)),hl,λj i s=>⟨rfl,λT=>e (List.IsSuffix.trans ⟨[j,i,s],rfl⟩ T)⟩⟩) (I.symm.imp_right λh=>⟨rfl,h⟩)
def RV.fZ{q E:aa Nat}{x:V}{v:Value}(h:RV w B af q x v){B':Nat}:RV w B' (λ_=>none) E x.fZ v:=by
 induction h generalizing E with
 |int=>exact .int _ _ _
 |bool=>exact .bool _ _
 |str=>exact .str _ _
 |nil=>exact .nil _
 |dX=>exact .dX _ _ _
 |fy=>exact .fy _ _ _ _ _ (by first|assumption|omega)
 |fJ=>exact .fJ _ _ _ _ _ (by first|assumption|omega)
 | aG q t o T l b off cap u ho hl hb h1 U I Y Z=>
  refine .aG _ _ _ _ _ _ _ _ u (by omega) rfl hb (by omega) U (λi h j x C=>?_) (λi h j x C=>?_)
  ·obtain⟨y,D,_⟩:=vU t o l[i] j x C;simp_all
  ·obtain⟨y,D,rfl⟩:=vU t o l[i] j x C;simp_all
 | own q t o T l b cap cs u hl O hs hn hm I Y Z=>
  refine .aG _ _ _ _ _ _ _ _ u (by omega) rfl (hU.1 O).1 (by omega) hn (λi h j x C=>?_) (λi h j x C=>?_)
  ·obtain⟨y,D,_⟩:=vU t o l[i] j x C;have:=I i h j y D;rw[ff,cell_of_row w b _ cs _ _ O];exact this
  ·obtain⟨y,D,rfl⟩:=vU t o l[i] j x C;simp_all
end
set_option linter.unusedVariables false
inductive Lf where
 |v (x:V)
 |own (k:List Nat)
 |dead
inductive A where
 |undef
 |skip
 |lf (x:Lf)
 |agg (cs:List Lf)
 |eO (xs:List (Bool×List Lf))
 |ptr (k:List Nat)
 |aH (r j:Nat)
 |iX (cs:List V)
 |mO (f:Nat) (cs:List V)
 |pk (r n:Nat)
 |view (k:List Nat) (s i j:Nat)
 |fn (f:Nat) (cap:List (Nat×Nat))
inductive aP where
 |ay (cs:List Lf)
 |sl (y:V)
 |mp (l:List (Int×Bool))
 |gh (xs:List A)
structure S where
 t:Nat->A
 m:Nat->Option aP
inductive Loc where
 |ay (b off:Nat)
 |dn (v:Value)
 |bB (us:List Value)
def addrAt(w:World)(af:bk)(ρ:Nat->Loc):aa Nat->aj Addr
 | j :: i :: s :: [r]=>match ρ r with
  |.dn (.slice (some ⟨b,0,none⟩) _ _)=>if af b=some [r]then some ⟨b,i*s+j,none⟩else none
  |_=>none
 | j :: i :: s :: q=>match (addrAt w af ρ q).bind w.cell? with
  |some (.slice (some ⟨b,0,none⟩) _ _)=>if af b=some q then some ⟨b,i*s+j,none⟩else none
  |_=>none
 |_=>none
def cF(w:World)(af:bk)(ρ:Nat->Loc):aa Nat->aj Value
 | [r]=>match ρ r with
  |.dn v=>some v
  |_=>none
 |q=>(addrAt w af ρ q).bind w.cell?
def dH(w:World)(B:Nat)(af:bk)(ρ:Nat->Loc):Lf->Value->Prop
 |.v x,u=>x.aG=true/\RV w B af [] x u
 |.own k,u=>lW u=true/\cF w af ρ k=some u
 |.dead,_=>True
def ez(w:World)(B:Nat)(af:bk)(ρ:Nat->Loc)(cs:aa Lf)(us:Array Value):Prop:=
 us.size=cs.length/\∀(j:Nat) x,cs[j]?=some x->∃u,us[j]?=some u/\dH w B af ρ x u
def RP(w:World)(B:Nat)(af:bk)(ρ:Nat->Loc)(p:Bool×aa Lf)(u:Value):Prop:=
 match p with
 |(true,cs)=>∃us,u = .agg us/\ez w B af ρ cs us
 |(false,cs)=>ez w B af ρ cs #[u]
def qv:Nat:=4294967296
def Jq(b n:Nat):Value:=bif Nat.beq n qv then .map (some b)else .slice (some ⟨b,0,none⟩) n n
def OG{b n:Nat}(h:n<qv):Jq b n = .slice (some ⟨b,0,none⟩) n n:=by
 unfold Jq;cases hb:Nat.beq n qv with
 |true=>simp_all
 |false=>rfl
def OH(b:Nat):Jq b qv = .map (some b):=rfl
def RF(w:World)(B:Nat)(af:bk)(cs:aa V)(u:Value):Prop:=
 ∃b off,u = .pointer (some ⟨b,off,none⟩)/\b<w.heap.size/\af b=none/\∀(j:Nat) x,cs[j]?=some x->x.aG=true/\∃v,w.cell? ⟨b,off+j,none⟩=some v/\RV w B af [] x v
def RA(w:World)(B:Nat)(af:bk)(ρ:Nat->Loc):A->Value->Prop
 |.undef,_=>True
 |.skip,u=>u=Go.undef
 |.lf x,u=>dH w B af ρ x u
 |.agg cs,u=>RP w B af ρ (true,cs) u
 |.eO xs,u=>∃us:Array Value,u = .tuple us/\us.size=xs.length/\∀(j:Nat) p,xs[j]?=some p->∃v,us[j]?=some v/\RP w B af ρ p v
 |.ptr k,u=>∃ad,u = .pointer (some ad)/\addrAt w af ρ k=some ad
 |.aH r j,u=>∃b off,ρ r = .ay b off/\u = .pointer (some ⟨b,off+j,none⟩)
 |.iX cs,u=>RF w B af cs u
 |.mO f cs,u=>∃pv,u = .func (.func f) #[] #[pv]/\RF w B af cs pv
 |.pk r n,u=>∃b,ρ r = .ay b 0/\u=Jq b n
 |.view k s i j,u=>∃A n c,cF w af ρ k=some (.slice A n c)/\i<=j/\j<=n/\u=sliced A i j c s
 |.fn f cap,u=>∃C:Array Value,u = .func (.func f) #[] C/\C.size=cap.length/\∀(j:Nat) p,cap[j]?=some p->∃b off,ρ p.1 = .ay b off/\C[j]?=some (.pointer (some ⟨b,off+p.2,none⟩))
inductive dM (w:World) (B:Nat) (af:bk) (ρ:Nat->Loc) (r:Nat):aP->Prop
 | ay (b off:Nat) (cells:Array Value) (e:TypeId) (cs:List Lf) (us:Nat->Value) (bV:ρ r = .ay b off) (hl:af b=some [r]) (hh:w.heap[b]?=some (.cells cells e (0,0))) (hs:off+cs.length<=cells.size)
   (hc:∀(j:Nat) x,cs[j]?=some x->cells[off+j]?=some (us j)/\dH w B af ρ x (us j)):dM w B af ρ r (.ay cs)
 |sl (v:Value) (y:V) (bV:ρ r = .dn v) (hr:RV w B af [r] y v):dM w B af ρ r (.sl y)
 |mp (b clock:Nat) (es:Array MapEntry) (l:List (Int×Bool)) (bV:ρ r = .ay b 0) (hl:af b=some [r]) (hh:w.heap[b]?=some (.map es clock)) (he:es.toList.map (λe=>(e.key,e.val))=l.map λp=>(.int .i64 p.1,.bool p.2)):dM w B af ρ r (.mp l)
 |gh (us:List Value) (xs:List A) (bV:ρ r = .bB us) (hx:∀(j:Nat) x,xs[j]?=some x->RA w B af ρ x (us.getD j undef)):dM w B af ρ r (.gh xs)
def Qw(_:World):Prop:=True
structure af5 (n:Nat) (L:bk) (w w':World):Prop where
 os:w'.os=w.os
 tape:w'.tape=w.tape
 output:w'.output=w.output
 size:w.heap.size<=w'.heap.size
 block:∀k,k<n->L k=none->w'.heap[k]?=w.heap[k]?
def Hd(w:World)(L:bk):Prop:=∀w',af5 w.heap.size L w w'->Qw w'
def af6(w:World)(L:bk):Hd w L:=λ_ _=>trivial
structure Wd where
 w:World
 L:bk
 F:Nat->Option Loc
 held:Hd w L
 low:∀r,r<20000->F r=none
def Wd.heap(d:Wd):Array Obj:=d.w.heap
def Wd.of(w:World)(h:Hd w λ_=>none):Wd:=⟨w,λ_=>none,λ_=>none,h,λ_ _=>rfl⟩
structure iY (d:Wd) (w w':World):Prop where
 os:w'.os=w.os
 tape:w'.tape=w.tape
 output:w'.output=w.output
 size:w.heap.size<=w'.heap.size
 block:∀k,k<d.heap.size->d.L k=none->w'.heap[k]?=w.heap[k]?
def iY.trans{d:Wd}{a b c:World}(h:iY d a b)(k:iY d b c):iY d a c:=
 ⟨k.os.trans h.os,k.tape.trans h.tape,k.output.trans h.output,Nat.le_trans h.size k.size,λi hi hl=>(k.block i hi hl).trans (h.block i hi hl)⟩
def Wd.on(d:Wd){w:World}(h:iY d d.w w){L:bk}(D:∀ b k,L b=some k->d.heap.size<=b\/d.L b≠none):Hd w L:=λw' hb=>
 d.held w' ⟨hb.os.trans h.os,hb.tape.trans h.tape,hb.output.trans h.output,Nat.le_trans h.size hb.size,λk C hl=>by
  have e:L k=none:=by
   cases e:L k with
   |none=>rfl
   | some q=>
    rcases D k q e with h1|h1
    ·exact absurd C (Nat.not_lt.2 h1)
    ·exact absurd hl h1
  exact(hb.block k (Nat.lt_of_lt_of_le C h.size) e).trans (h.block k C hl)⟩
def iY.of{d:Wd}{a b:World}{B:Nat}(h:Below B a b)(hB:d.heap.size<=B):iY d a b:=
 ⟨h.os,h.tape,h.output,h.size,λi hi _=>h.block i (Nat.lt_of_lt_of_le hi hB)⟩
structure Rl (w0:Wd) (N:Nat) (af:bk) (ρ:Nat->Loc) (σ:S) (a:Act) (w:World):Prop where
 below:iY w0 w0.w w
 cL:∀b k,af b=some k->(w0.heap.size<=b\/w0.L b≠none)/\b<w.heap.size/\k≠[]
 root:∀r x,σ.m r=some x->dM w w0.heap.size af ρ r x
 tmp:∀k,RA w w0.heap.size af ρ (σ.t k) (a.tmps.getD k undef)
 size:a.tmps.size=N
 defers:a.defers=[]
 fix:∀r l,w0.F r=some l->ρ r=l
 cD:∀r,(r<N\/60000<=r)->w0.F r=none
def R(w0:Wd)(N:Nat)(σ:S)(a:Act)(w:World):Prop:=∃af ρ,Rl w0 N af ρ σ a w
/-! Reading along a key. -/
inductive vV (m:Nat->Option aP):List Nat->V->Prop
 |root (r:Nat) (y:V) (h:m r=some (.sl y)):vV m [r] y
 |elem (j i:Nat) (q:List Nat) (t:TC) (o:Nat) (qn:Bool) (l:List (T t)) (y:V) (h:vV m q (.sl t (o+2) qn l)) (hi:i<l.length) (hy:(enc t o l[i])[j]?=some y):vV m (j::i::aB t::q) y
section
variable {w w':World} {w0:Wd} {B N:Nat} {af az:bk} {ρ ρ':Nat->Loc} {m:Nat->aj aP} {σ:S} {a:Act}
def AI{q:aa Nat}(j i s:Nat){b n c:Nat}(h:cF w af ρ q=some (.slice (some ⟨b,0,none⟩) n c))(hl:af b=some q):addrAt w af ρ (j :: i :: s :: q)=some ⟨b,i*s+j,none⟩:=by
 match q,h,hl with
 | [r],h,hl=>
  simp[cF]at h;simp[addrAt]
  grind
 | x :: y :: q,h,hl=>
  simp[cF]at h;simp[addrAt,h,hl,if_true]
def Jr{j i s:Nat}{q:aa Nat}:cF w af ρ (j::i::s::q)=(addrAt w af ρ (j::i::s::q)).bind w.cell?:=rfl
def vV.ok{k:aa Nat}{y:V}(h:vV m k y)(D:∀ r x,m r=some x -> dM w B af ρ r x):∃ u,cF w af ρ k=some u/\RV w B af k y u:=by
 induction h with
 | root r y h=>
  cases D _ _ h with
  |sl v y E C=>exact⟨v,by simp[cF,E],C⟩
 | elem j i q t o Y l y h hi I O=>
  obtain⟨u,T,C⟩:=O;cases C with
  |dX=>simp at hi
  |fy=>simp at hi
  |fJ=>simp at hi
  |aG _ _ _ _ _ _ _ _ _ Z=>omega
  | own _ _ _ _ _ b cap cs us hl U hs hn D hc C=>
   refine⟨us i j,?_,C i hi j y I⟩;rw[Jr,AI j i _ T hl];show w.cell? _=_;rw[cell_of_row w b _ cs _ _ U];simp_all
def AJ:∀ (k:aa Nat) (ad:Addr),addrAt w af ρ k=some ad -> ∃ j i s q,k=j :: i :: s :: q/\af ad.block=some q/\ad.off=i*s+j/\ad.spot=none/\(∀ r,q=[r] -> ∃ v,ρ r = .dn v)
 |[],_,h=>by simp[addrAt]at h
 | [j,i,s,r],ad,h=>by
  simp only[addrAt]at h
  grind
 | j :: i :: s :: x :: y :: q,ad,h=>by
  simp only[addrAt]at h
  grind
/-! What is forgotten: keys of leaves,of addresses,roots. -/
structure mP where
 l:List Nat->Bool
 p:List Nat->Bool
 r:Nat->Bool
def Lf.bY(f:aa Nat->Bool):Lf->Lf
 |.own k=>bif f k then .dead else .own k
 |x=>x
def A.bY(K:mP):A->A
 |.lf x=>.lf (x.bY K.l)
 |.agg cs=>.agg (cs.map (Lf.bY K.l))
 |.eO xs=>.eO (xs.map λp=>(p.1,p.2.map (Lf.bY K.l)))
 |.ptr k=>bif K.p k then .undef else .ptr k
 |.aH r j=>bif K.r r then .undef else .aH r j
 |.pk r n=>bif K.r r then .undef else .pk r n
 |.view k s i j=>bif K.p k then .undef else .view k s i j
 |.fn f cap=>bif cap.any (λp=>K.r p.1)then .undef else .fn f cap
 |x=>x
def aP.bY(K:mP):aP->aP
 |.ay cs=>.ay (cs.map (Lf.bY K.l))
 |.gh xs=>.gh (xs.map (A.bY K))
 |x=>x
/-! What names nothing that is forgotten. -/
def Lf.fr(f:aa Nat->Bool):Lf->Bool
 |.own k=>!f k
 |_=>true
def A.fr(K:mP):A->Bool
 |.lf x=>x.fr K.l
 |.agg cs=>cs.all (Lf.fr K.l)
 |.eO xs=>xs.all λq=>q.2.all (Lf.fr K.l)
 |.ptr k=>!K.p k
 |.aH r _=>!K.r r
 |.pk r _=>!K.r r
 |.view k _ _ _=>!K.p k
 |.fn _ cap=>cap.all λq=>!K.r q.1
 |_=>true
def Lf.nX{f:aa Nat->Bool}{x:Lf}(h:x.fr f=true):x.bY f=x:=by
 cases x with
 |own k=>simp only[Lf.bY,show f k=false by simpa [Lf.fr]using h,av]
 |_=>rfl
def qw.nX{f:aa Nat->Bool}{cs:aa Lf}(h:cs.all (Lf.fr f)=true):cs.map (Lf.bY f)=cs:=
 (List.map_congr_left λx C=>Lf.nX (bN.1 h x C)).trans (List.map_id cs)
def A.nX{K:mP}{x:A}(h:x.fr K=true):x.bY K=x:=by
 cases x with
 |lf x=>exact bx A.lf (Lf.nX h)
 |agg cs=>exact bx A.agg (qw.nX h)
 |eO xs=>exact bx A.eO ((List.map_congr_left λq C=>by rw[qw.nX (bN.1 h q C)];rfl).trans (List.map_id xs))
 |ptr k=>simp only[A.bY,show K.p k=false by simpa [A.fr]using h,av]
 |view k=>simp only[A.bY,show K.p k=false by simpa [A.fr]using h,av]
 |aH r=>simp only[A.bY,show K.r r=false by simpa [A.fr]using h,av]
 |pk r=>simp only[A.bY,show K.r r=false by simpa [A.fr]using h,av]
 |fn f cap=>simp only[A.bY,show (cap.any λp=>K.r p.1)=false from mJ.2 λp D=>by simpa using bN.1 h p D,av]
 |_=>rfl
def Lf.rG{f g:aa Nat->Bool}(hl:∀ k,f k=true->g k=true){x:Lf}(h:x.fr g=true):x.fr f=true:=by
 cases x with
 | own k=>
  have h:(!g k)=true:=h;show (!f k)=true;cases C:f k with
  |false=>rfl
  |true=>rw[hl k C]at h;cases h
 |_=>rfl
def A.rG{K J:mP}(hl:∀ k,K.l k=true->J.l k=true)(I:∀ k,K.p k=true->J.p k=true)(O:∀ r,K.r r=true->J.r r=true){x:A}(h:x.fr J=true):x.fr K=true:=by
 have C:∀r,(!J.r r)=true->(!K.r r)=true:=λr h=>Lf.rG (x:=.own []) (f:=λ_=>K.r r) (λ_=>O r) h
 cases x with
 |lf x=>exact Lf.rG hl h
 |agg cs=>exact bN.2 λc D=>Lf.rG hl (bN.1 h c D)
 |eO xs=>exact bN.2 λq E=>bN.2 λc D=>Lf.rG hl (bN.1 (bN.1 h q E) c D)
 |ptr k=>exact Lf.rG (x:=.own k) I h
 |view k=>exact Lf.rG (x:=.own k) I h
 |aH r=>exact C r h
 |pk r=>exact C r h
 |fn f cap=>exact bN.2 λq E=>C _ (bN.1 h q E)
 |_=>rfl
def Lf.nY(x:Lf)(f g:aa Nat->Bool):(x.bY f).bY g=(x.bY g).bY f:=by
 cases x with
 |own k=>cases C:f k<;>cases D:g k<;>simp[Lf.bY,C,D]
 |_=>rfl
def qw.nY(cs:aa Lf)(f g:aa Nat->Bool):(cs.map (Lf.bY f)).map (Lf.bY g)=(cs.map (Lf.bY g)).map (Lf.bY f):=by
 rw[List.map_map,List.map_map];exact List.map_congr_left λx _=>Lf.nY x f g
def A.nY(x:A)(K J:mP):(x.bY K).bY J=(x.bY J).bY K:=by
 cases x with
 |lf x=>exact bx A.lf (Lf.nY x _ _)
 |agg cs=>exact bx A.agg (qw.nY cs _ _)
 | eO xs=>
  refine bx A.eO ?_;rw[List.map_map,List.map_map];exact List.map_congr_left λq _=>bx (Prod.mk q.1) (qw.nY q.2 _ _)
 |ptr k=>cases C:K.p k<;>cases D:J.p k<;>simp[A.bY,C,D]
 |view k=>cases C:K.p k<;>cases D:J.p k<;>simp[A.bY,C,D]
 |aH r=>cases C:K.r r<;>cases D:J.r r<;>simp[A.bY,C,D]
 |pk r=>cases C:K.r r<;>cases D:J.r r<;>simp[A.bY,C,D]
 |fn f cap=>cases C:(cap.any λp=>K.r p.1)<;>cases D:(cap.any λp=>J.r p.1)<;>simp only[A.bY,C,D,aq,av]
 |_=>rfl
def aP.nY(x:aP)(K J:mP):(x.bY K).bY J=(x.bY J).bY K:=by
 cases x with
 |ay cs=>exact bx aP.ay (qw.nY cs _ _)
 | gh xs=>
  refine bx aP.gh ?_;rw[List.map_map,List.map_map];exact List.map_congr_left λx _=>A.nY x K J
 |_=>rfl
def cz(d:Nat)(k:aa Nat):Bool:=k.getLast?==some d
def vW(d:Nat):mP:=⟨cz d,cz d,λr=>Nat.beq r d⟩
def Lf.drop(d:Nat):Lf->Lf:=Lf.bY (cz d)
def A.drop(d:Nat):A->A:=A.bY (vW d)
def aP.drop(d:Nat):aP->aP:=aP.bY (vW d)
def iJ(c:Nat->Bool)(k:aa Nat):Bool:=match k.getLast? with
 |some r=>c r
 |none=>false
structure Tr (w w':World) (af az:bk) (ρ ρ':Nat->Loc) (t:List Nat->Bool) (c:Nat->Bool):Prop where
 size:w.heap.size<=w'.heap.size
 no:∀b,b<w.heap.size->af b=none->w'.heap[b]?=w.heap[b]?/\az b=none
 so:∀b k,af b=some k->t k=false->w'.heap[b]?=w.heap[b]?/\az b=some k
 eP:∀r,c r=false->ρ' r=ρ r
 up:∀j i s x q,t (j::i::s::x::q)=t (x::q)
 ne:∀b,af b=some []->∀k,t k=false
structure mP.OK (K:mP) (t:List Nat->Bool) (c:Nat->Bool):Prop where
 l:∀k,K.l k=false->(k.length=1\/t k=false)/\iJ c k=false
 p:∀k,K.p k=false->t k=false/\iJ c k=false
 r:∀r,K.r r=false->c r=false
section
variable {t:aa Nat->Bool} {c:Nat->Bool} {K:mP}
def RV.tr(T:Tr w w' af az ρ ρ' t c){q:aa Nat}{x:V}{v:Value}(h:RV w B af q x v)(D:x.aG=true\/t q=false):RV w' B az q x v:=
 h.map (Q:=λq C=>q=C/\t q=false) T.size T.no (λb q C _ hl e=>by
  obtain⟨rfl,e⟩:=e;exact⟨(T.so b q hl e).1,(T.so b q hl e).2,λj i s=>⟨rfl,by
   cases q with
   |nil=>exact T.ne b hl _
   |cons x q=>rw[T.up];exact e⟩⟩) (D.imp_right λh=>⟨rfl,h⟩)
def Js(j i s x:Nat)(q:aa Nat):iJ c (j::i::s::x::q)=iJ c (x::q):=by simp[iJ,List.getLast?_cons_cons]
def OI(T:Tr w w' af az ρ ρ' t c):∀ (k:aa Nat) (ad:Addr),t k=false->iJ c k=false->addrAt w af ρ k=some ad->addrAt w' az ρ' k=some ad
 |[],_,_,_,h=>by simp[addrAt]at h
 |[_],_,_,_,h=>by simp[addrAt]at h
 |[_,_],_,_,_,h=>by simp[addrAt]at h
 |[_,_,_],_,_,_,h=>by simp[addrAt]at h
 | [j,i,s,r],_,C,D,h=>by
  rw[T.up]at C;rw[Js]at D;simp only[addrAt]at h ⊢;rw[T.eP r D];split at h
  ·split at h
   next hl=>rw[aV (T.so _ _ hl C).2];exact h
   ·cases h
  ·cases h
 | j :: i :: s :: x :: y :: q,ad,C,D,h=>by
  rw[T.up]at C;rw[Js]at D;simp only[addrAt]at h ⊢;cases E:addrAt w af ρ (x::y::q)with
  |none=>rw[E]at h;cases h
  | some U=>
   rw[OI T _ _ C D E];rw[E]at h;cases I:w.cell? U with
   |none=>simp[I]at h
   | some v=>
    obtain⟨Z,i',s',O,hk,Y,_,_⟩:=AJ _ _ E;have rH:t O=false:=by
     cases O with
     |nil=>exact T.ne _ Y _
     |cons z O=>rw[<-T.up Z i' s',<-hk];exact C
    have e:w'.cell? U=some v:=(World.cell?_of_block (T.so _ _ Y rH).1).trans I;simp only[Option.bind_some,I]at h;simp only[Option.bind_some,e];split at h
    ·split at h
     next hl=>rw[aV (T.so _ _ hl C).2];exact h
     ·cases h
    ·cases h
def OJ(T:Tr w w' af az ρ ρ' t c)(k:aa Nat)(u:Value)(C:k.length=1\/t k=false)(D:iJ c k=false)(h:cF w af ρ k=some u):cF w' az ρ' k=some u:=by
 match k,C,D,h with
 |[],_,_,h=>simp[cF,addrAt]at h
 | [r],_,D,h=>
  simp only[cF]at h ⊢;rw[T.eP r D];exact h
 | x :: y :: q,C,D,h=>
  have C:t (x::y::q)=false:=C.resolve_left (by simp);simp only[cF]at h ⊢;cases E:addrAt w af ρ (x::y::q)with
  |none=>rw[E]at h;cases h
  | some ad=>
   rw[OI T _ _ C D E];rw[E]at h;have h:w.cell? ad=some u:=h;obtain⟨U,Y,Z,I,hk,O,_,_⟩:=AJ _ _ E;have rH:t I=false:=by
    cases I with
    |nil=>exact T.ne _ O _
    |cons z I=>rw[<-T.up U Y Z,<-hk];exact C
   exact(World.cell?_of_block (T.so _ _ O rH).1).trans h
def dH.tr(T:Tr w w' af az ρ ρ' t c)(C:K.OK t c){x:Lf}{u:Value}(h:dH w B af ρ x u):dH w' B az ρ' (x.bY K.l) u:=by
 cases x with
 |v x=>exact⟨h.1,h.2.tr T (.inl h.1)⟩
 |dead=>trivial
 | own k=>
  show dH w' B az ρ' (bif K.l k then .dead else .own k) u;cases hl:K.l k with
  |true=>trivial
  |false=>exact⟨h.1,OJ T k u (C.l k hl).1 (C.l k hl).2 h.2⟩
def ez.tr(T:Tr w w' af az ρ ρ' t c)(D:K.OK t c){cs:aa Lf}{us:Array Value}(h:ez w B af ρ cs us):ez w' B az ρ' (cs.map (Lf.bY K.l)) us:=by
 refine⟨by rw[eN];exact h.1,λj x C=>?_⟩
 rw[dW]at C;obtain⟨y,E,rfl⟩:=Option.map_eq_some_iff.1 C;obtain⟨u,I,r⟩:=h.2 j y E;exact⟨u,I,r.tr T D⟩
def RP.tr(T:Tr w w' af az ρ ρ' t c)(C:K.OK t c){p:Bool×aa Lf}{u:Value}(h:RP w B af ρ p u):RP w' B az ρ' (p.1,p.2.map (Lf.bY K.l)) u:=by
 obtain⟨b,cs⟩:=p;cases b with
 |true=>obtain⟨us,e,h⟩:=h;exact⟨us,e,h.tr T C⟩
 |false=>exact ez.tr T C h
def RF.tr(T:Tr w w' af az ρ ρ' t c){cs:aa V}{u:Value}(h:RF w B af cs u):RF w' B az cs u:=by
 obtain⟨b,off,e,hb,hl,h⟩:=h;obtain⟨D,E⟩:=T.no b hb hl
 refine⟨b,off,e,Nat.lt_of_lt_of_le hb T.size,E,λj x I=>?_⟩
 obtain⟨C,v,O,U⟩:=h j x I;exact⟨C,v,(World.cell?_of_block (a:=⟨b,_,none⟩) D).trans O,U.tr T (.inl C)⟩
def RA.tr(T:Tr w w' af az ρ ρ' t c)(C:K.OK t c){x:A}{u:Value}(h:RA w B af ρ x u):RA w' B az ρ' (x.bY K) u:=by
 cases x with
 |undef=>trivial
 |skip=>exact h
 |lf x=>exact dH.tr T C h
 |agg cs=>exact RP.tr T C (p:=(true,cs)) h
 | eO xs=>
  obtain⟨us,e,E,h⟩:=h
  refine⟨us,e,by rw[eN];exact E,λj p D=>?_⟩
  rw[dW]at D;obtain⟨y,I,rfl⟩:=Option.map_eq_some_iff.1 D;obtain⟨v,O,r⟩:=h j y I;exact⟨v,O,r.tr T C⟩
 | ptr k=>
  simp only[A.bY];cases hl:K.p k with
  |true=>trivial
  |false=>obtain⟨ad,e,h⟩:=h;exact⟨ad,e,OI T k ad (C.p k hl).1 (C.p k hl).2 h⟩
 | view k s i j=>
  simp only[A.bY];cases hl:K.p k with
  |true=>trivial
  |false=>obtain⟨A,n,c,h,g⟩:=h;exact⟨A,n,c,OJ T k _ (.inr (C.p k hl).1) (C.p k hl).2 h,g⟩
 | pk r n=>
  simp only[A.bY];cases hl:K.r r with
  |true=>trivial
  |false=>obtain⟨b,e,h⟩:=h;exact⟨b,(T.eP r (C.r r hl)).trans e,h⟩
 | aH r j=>
  simp only[A.bY];cases hl:K.r r with
  |true=>trivial
  |false=>obtain⟨b,off,e,h⟩:=h;exact⟨b,off,(T.eP r (C.r r hl)).trans e,h⟩
 |iX cs=>exact RF.tr T h
 |mO f cs=>obtain⟨pv,e,h⟩:=h;exact⟨pv,e,h.tr T⟩
 | fn f cap=>
  simp only[A.bY];cases hl:cap.any (λp=>K.r p.1)with
  |true=>trivial
  | false=>
   obtain⟨U,e,E,h⟩:=h
   refine⟨U,e,E,λj p D=>?_⟩
   obtain⟨b,off,Y,Z⟩:=h j p D;exact⟨b,off,(T.eP _ (C.r _ (by simpa using mJ.1 hl p (gv D)))).trans Y,Z⟩
def dM.tr(T:Tr w w' af az ρ ρ' t c)(Y:K.OK t c){r:Nat}{x:aP}(h:dM w B af ρ r x)(D:t [r]=false)(E:c r=false):dM w' B az ρ' r (x.bY K):=by
 cases h with
 | ay b off cells e cs us C hl U hs Z=>
  refine .ay b off cells e _ us ((T.eP r E).trans C) (T.so b _ hl D).2 ((T.so b _ hl D).1.trans U) (by rw[eN];exact hs) (λj x I=>?_)
  rw[dW]at I;obtain⟨y,O,rfl⟩:=Option.map_eq_some_iff.1 I;exact⟨(Z j y O).1,(Z j y O).2.tr T Y⟩
 |sl v y C hr=>exact .sl v y ((T.eP r E).trans C) (hr.tr T (.inr D))
 |mp b clock es l C hl U he=>exact .mp b clock es l ((T.eP r E).trans C) (T.so b _ hl D).2 ((T.so b _ hl D).1.trans U) he
 | gh us xs C I=>
  refine .gh us _ ((T.eP r E).trans C) (λj x hj=>?_)
  rw[dW]at hj;obtain⟨y,O,rfl⟩:=Option.map_eq_some_iff.1 hj;exact(I j y O).tr T Y
end
/-! Nothing is forgotten where old memory stays. -/
def Jt:mP:=⟨λ_=>false,λ_=>false,λ_=>false⟩
def A.E9(x:A):x.bY Jt=x:=by
 have h:∀cs:aa Lf,cs.all (Lf.fr Jt.l)=true:=λcs=>bN.2 λc _=>by cases c<;>rfl
 refine A.nX ?_;cases x with
 |lf x=>cases x<;>rfl
 |agg cs=>exact h cs
 |eO xs=>exact bN.2 λq _=>h q.2
 |fn f cap=>exact bN.2 λ_ _=>rfl
 |_=>rfl
def aP.E9(x:aP):x.bY Jt=x:=by
 cases x with
 |ay cs=>exact bx aP.ay (A.agg.inj (A.E9 (.agg cs)))
 |gh xs=>exact bx aP.gh ((List.map_congr_left λx _=>A.E9 x).trans (List.map_id xs))
 |_=>rfl
def OL(k:aa Nat):iJ (λ_=>false) k=false:=by unfold iJ;split<;>rfl
def V2:Jt.OK (λ_=>false) (λ_=>false):=⟨λk _=>⟨.inr rfl,OL k⟩,λk _=>⟨rfl,OL k⟩,λ_ _=>rfl⟩
def Tr.iW(E:w.heap.size<=w'.heap.size)(C:∀ b,b<w.heap.size->w'.heap[b]?=w.heap[b]?/\az b=af b)(D:∀ b k,af b=some k->b<w.heap.size):Tr w w' af az ρ ρ (λ_=>false) (λ_=>false):=
 ⟨E,λb hb hl=>⟨(C b hb).1,(C b hb).2.trans hl⟩,λb k hl _=>⟨(C b (D b k hl)).1,(C b (D b k hl)).2.trans hl⟩,λ_ _=>rfl,λ_ _ _ _ _=>rfl,λ_ _ _=>rfl⟩
def RA.iW{x:A}{u:Value}(h:RA w B af ρ x u)(C:w.heap.size<=w'.heap.size)(D:∀ b,b<w.heap.size->w'.heap[b]?=w.heap[b]?/\az b=af b)(E:∀ b k,af b=some k->b<w.heap.size):RA w' B az ρ x u:=by
 have:=h.tr (.iW C D E) V2
 rwa [A.E9]at this
def dH.iW{x:Lf}{u:Value}(h:dH w B af ρ x u)(C:w.heap.size<=w'.heap.size)(D:∀b,b<w.heap.size->w'.heap[b]?=w.heap[b]?/\az b=af b)(E:∀b k,af b=some k->b<w.heap.size):dH w' B az ρ x u:=RA.iW (x:=.lf x) h C D E
def ez.iW{cs:aa Lf}{us:Array Value}(h:ez w B af ρ cs us)(C:w.heap.size<=w'.heap.size)(D:∀ b,b<w.heap.size->w'.heap[b]?=w.heap[b]?/\az b=af b)(E:∀ b k,af b=some k->b<w.heap.size):ez w' B az ρ cs us:=
 ⟨h.1,λj x I=>let ⟨u,hu,r⟩:=h.2 j x I;⟨u,hu,r.iW C D E⟩⟩
def dM.iW{r:Nat}{x:aP}(h:dM w B af ρ r x)(C:w.heap.size<=w'.heap.size)(D:∀ b,b<w.heap.size->w'.heap[b]?=w.heap[b]?/\az b=af b)(E:∀ b k,af b=some k->b<w.heap.size):dM w' B az ρ r x:=by
 have:=h.tr (.iW C D E) V2 rfl rfl
 rwa [aP.E9]at this
/-! A root's name is given anew. -/
def uI{d:Nat}{t:aa Nat->Bool}{c:Nat->Bool}(E:∀ k,cz d k=false->t k=false)(I:∀ r,r≠d->c r=false):(vW d).OK t c:=by
 have h:∀ k,cz d k=false->iJ c k=false:=λk C=>by
  unfold iJ;split
  next r D=>exact I r (by rintro rfl;simp[cz,D]at C)
  ·rfl
 exact⟨λk C=>⟨.inr (E k C),h k C⟩,λk C=>⟨E k C,h k C⟩,λr D=>I r (by rintro rfl;simp[vW]at D)⟩
def nZ{d r:Nat}(h:r≠d):Nat.beq r d=false:=Bool.eq_false_iff.2 λe=>h (cE e)
def Tr.Fa{d:Nat}(C:∀ r,r≠d->ρ' r=ρ r):Tr w w af af ρ ρ' (λ_=>false) (λr=>Nat.beq r d):=
 ⟨dz _,λ_ _ h=>⟨rfl,h⟩,λ_ _ h _=>⟨rfl,h⟩,λr D=>C r (by rintro rfl;simp at D),λ_ _ _ _ _=>rfl,λ_ _ _=>rfl⟩
def RP.eP{d:Nat}(C:∀r,r≠d->ρ' r=ρ r){p:Bool×aa Lf}{u:Value}(h:RP w B af ρ p u):RP w B af ρ' (p.1,p.2.map (Lf.drop d)) u:=h.tr (.Fa C) (uI (λ_ _=>rfl) λ_=>nZ)
def RA.eP{d:Nat}(C:∀r,r≠d->ρ' r=ρ r){x:A}{u:Value}(h:RA w B af ρ x u):RA w B af ρ' (x.drop d) u:=h.tr (.Fa C) (uI (λ_ _=>rfl) λ_=>nZ)
def ez.eP{d:Nat}(C:∀r,r≠d->ρ' r=ρ r){cs:aa Lf}{us:Array Value}(h:ez w B af ρ cs us):ez w B af ρ' (cs.map (Lf.drop d)) us:=h.tr (.Fa C) (uI (λ_ _=>rfl) λ_=>nZ)
def dH.eP{d:Nat}(C:∀r,r≠d->ρ' r=ρ r){x:Lf}{u:Value}(h:dH w B af ρ x u):dH w B af ρ' (x.drop d) u:=h.tr (.Fa C) (uI (λ_ _=>rfl) λ_=>nZ)
def dM.eP{d r:Nat}(C:∀r,r≠d->ρ' r=ρ r)(D:r≠d){x:aP}(h:dM w B af ρ r x):dM w B af ρ' r (x.drop d):=h.tr (.Fa C) (uI (λ_ _=>rfl) λ_=>nZ) rfl (nZ D)
def bG{α:Type}(f:Nat->α)(d:Nat)(x:α):Nat->α:=λk=>bif Nat.beq k d then x else f k
def bJ{α:Type}(f:Nat->α)(d:Nat)(x:α):bG f d x d=x:=by simp[bG]
def cc{α:Type}(f:Nat -> α)(d:Nat)(x:α){k:Nat}(h:k≠d):bG f d x k=f k:=by
 have:Nat.beq k d=false:=by
  cases hb:Nat.beq k d with
  |false=>rfl
  |true=>simp_all
 simp[bG,this,av]
def S.set(σ:S)(d:Nat)(x:A):S:={ σ with t:=bG σ.t d x }
def S.drop(σ:S)(d:Nat):S:=⟨λk=>(σ.t k).drop d,λr=>bif Nat.beq r d then none else (σ.m r).map (aP.drop d)⟩
def S.root(σ:S)(d:Nat)(x:aP):S:={ σ with m:=bG σ.m d (some x) }
def Rl.set{x:A}{v:Value}{d:Nat}(h:Rl w0 N af ρ σ a w)(E:RA w w0.heap.size af ρ x v)(D:d<N):Rl w0 N af ρ (σ.set d x) (a.put (some d) v) w:=by
 refine⟨h.below,h.cL,h.root,λk=>?_,?_,h.defers,h.fix,h.cD⟩
 ·show RA w _ af ρ (bG σ.t d x k) ((a.tmps.setIfInBounds d v).getD k undef);by_cases C:k=d
  ·subst C;rw[bJ,gN,Array.getElem?_setIfInBounds_self];have:k<a.tmps.size:=by rw[h.size];exact D
   simp_all
  ·rw[cc _ _ _ C,gN,Array.getElem?_setIfInBounds_ne (Ne.symm C),<- gN];exact h.tmp k
 ·show (a.tmps.setIfInBounds d v).size=N;rw[Array.size_setIfInBounds];exact h.size
def Rl.grow(h:Rl w0 N af ρ σ a w)(hb:Below w.heap.size w w')(hl:∀ b,b<w.heap.size -> az b=af b)(I:∀ b k,w.heap.size <= b -> az b=some k -> b<w'.heap.size/\k≠[]):Rl w0 N az ρ σ a w':=by
 have D:∀b,b<w.heap.size -> w'.heap[b]?=w.heap[b]?/\az b=af b:=λb E=>⟨hb.block b E,hl b E⟩
 refine⟨h.below.trans (.of hb h.below.size),λb k C=>?_,λr x O=>(h.root r x O).iW hb.size D (λb k hb=>(h.cL b k hb).2.1),λk=>(h.tmp k).iW hb.size D (λb k hb=>(h.cL b k hb).2.1),h.size,h.defers,h.fix,h.cD⟩
 rcases Nat.lt_or_ge b _ with T|n5
 ·rw[hl b T]at C;have:=h.cL b k C
  grind
 ·have:=I b k n5 C;exact⟨.inl (Nat.le_trans h.below.size n5),this.1,this.2⟩
def Rl.new{d:Nat}{x:aP}(h:Rl w0 N af ρ σ a w)(l:Loc)(T:dM w w0.heap.size af (bG ρ d l) d x)(I:w0.F d=none):Rl w0 N af (bG ρ d l) ((σ.drop d).root d x) a w:=by
 have E:∀r,r≠d -> bG ρ d l r=ρ r:=λr D=>cc _ _ _ D
 refine⟨h.below,h.cL,λr y C=>?_,λk=>(h.tmp k).eP E,h.size,h.defers,λr O D=>(E r (by rintro rfl;rw[I]at D;cases D)).trans (h.fix r O D),h.cD⟩
 by_cases D:r=d
 ·subst D;have e:(bG (σ.drop r).m r _) r=some x:=bJ _ _ _;have C:(bG (σ.drop r).m r _) r=some y:=C;simp_all
 ·have C:(bG (σ.drop d).m d _) r=some y:=C;rw[cc _ _ _ D]at C;have hb:Nat.beq r d=false:=by
   cases hb:Nat.beq r d with
   |false=>rfl
   |true=>simp_all
  simp only[S.drop,hb,av]at C;cases hm:σ.m r with
  |none=>simp_all
  | some z=>
   rw[hm]at C;injection C with C;subst C;exact(h.root r z hm).eP E D
end
def splice{α:Type}(l:aa α)(j:Nat)(xs:aa α):aa α:=l.take j++xs++l.drop (j+xs.length)
def s7{α:Type}(l:aa α)(j:Nat)(xs:aa α)(h:j+xs.length<=l.length):(splice l j xs).length=l.length:=by
 simp[splice];omega
def vX{α:Type}(l:aa α)(j:Nat)(xs:aa α)(h:j+xs.length <= l.length)(n:Nat):
  (splice l j xs)[n]?=if n<j then l[n]? else if n<j+xs.length then xs[n-j]? else l[n]?:=by
 unfold splice
 grind
structure uJ (w w':World) (bt:Nat):Prop where
 size:w'.heap.size=w.heap.size
 os:w'.os=w.os
 tape:w'.tape=w.tape
 output:w'.output=w.output
 block:∀k,k≠bt->w'.heap[k]?=w.heap[k]?
def Ju(w:World)(b o:Nat)(l:aa Value):uJ w (w.setCells b o l) b:=by
 have g:=VS b l o w;have s:=VR b l o w
 refine⟨s,g.os,g.tape,g.output,λk C=>?_⟩
 rcases Nat.lt_or_ge k _ with D|n5
 ·exact g.block k D (by intro e;injection e with e;exact C e)
 ·simp_all
section
variable {w w':World} {w0:Wd} {B N:Nat} {af:bk} {ρ:Nat->Loc} {m m':Nat->aj aP} {σ:S} {a:Act} {bt:Nat} {kt:aa Nat}
def qx(w w':World)(af:bk)(ρ:Nat->Loc):Prop:=∀k ad v,addrAt w af ρ k=some ad->w.cell? ad=some v->lW v=true->w'.cell? ad=some v
def OM(D:qx w w' af ρ):∀ (k:aa Nat) (ad:Addr),addrAt w af ρ k=some ad -> addrAt w' af ρ k=some ad
 |[],_,h=>h
 |[_],_,h=>h
 |[_,_],_,h=>h
 |[j,i,s,r],_,h=>by simp only[addrAt]at h ⊢;exact h
 | j :: i :: s :: x :: y :: q,ad,h=>by
  simp only[addrAt]at h ⊢;cases C:addrAt w af ρ (x::y::q)with
  |none=>simp_all
  | some I=>
   rw[OM D _ _ C];rw[C]at h;cases E:w.cell? I with
   |none=>simp_all
   | some v=>
    simp only[Option.bind_some,E]at h;have O:lW v=true:=by
     split at h
     next e=>injection e with e;subst e;rfl
     ·cases h
    simp only[Option.bind_some,D _ _ _ C E O];exact h
def V3(D:qx w w' af ρ)(k:aa Nat)(u:Value)(E:lW u=true)(h:cF w af ρ k=some u):cF w' af ρ k=some u:=by
 match k,h with
 |[r],h=>exact h
 | x :: y :: q,h=>
  simp[cF]at h ⊢;cases C:addrAt w af ρ _ with
  |none=>rw[C]at h;cases h
  | some ad=>
   rw[OM D _ _ C];rw[C]at h;exact D _ _ _ C h E
def dH.wrote{x:Lf}{u:Value}(h:dH w B af ρ x u)(C:uJ w w' bt)(hl:af bt=some kt)(D:qx w w' af ρ):dH w' B af ρ x u:=by
 cases x with
 |v x=>exact⟨h.1,h.2.apart hl (.inr h.1) (Nat.le_of_eq C.size.symm) C.block⟩
 |own k=>exact⟨h.1,V3 D k u h.1 h.2⟩
 |dead=>trivial
def ez.wrote{cs:aa Lf}{us:Array Value}(h:ez w B af ρ cs us)(C:uJ w w' bt)(hl:af bt=some kt)(D:qx w w' af ρ):ez w' B af ρ cs us:=
 ⟨h.1,λj x E=>let ⟨u,hu,r⟩:=h.2 j x E;⟨u,hu,r.wrote C hl D⟩⟩
def RP.wrote{p:Bool×aa Lf}{u:Value}(h:RP w B af ρ p u)(C:uJ w w' bt)(hl:af bt=some kt)(D:qx w w' af ρ):RP w' B af ρ p u:=by
 obtain⟨b,cs⟩:=p;cases b with
 |true=>obtain⟨us,e,h⟩:=h;exact⟨us,e,h.wrote C hl D⟩
 |false=>exact ez.wrote h C hl D
def RF.wrote{cs:aa V}{u:Value}(h:RF w B af cs u)(C:uJ w w' bt)(hl:af bt=some kt):RF w' B af cs u:=by
 obtain⟨b,off,e,hb,D,h⟩:=h;have I:b≠bt:=by rintro rfl;rw[hl]at D;cases D
 refine⟨b,off,e,by rw[C.size];exact hb,D,λj x O=>?_⟩
 obtain⟨E,v,T,U⟩:=h j x O;exact⟨E,v,(World.cell?_of_block (C.block b I)).trans T,U.apart hl (.inr E) (Nat.le_of_eq C.size.symm) C.block⟩
def RA.wrote{x:A}{u:Value}(h:RA w B af ρ x u)(C:uJ w w' bt)(hl:af bt=some kt)(D:qx w w' af ρ):RA w' B af ρ x u:=by
 cases x with
 |undef=>trivial
 |skip=>exact h
 |lf x=>exact dH.wrote h C hl D
 |agg cs=>exact RP.wrote (p:=(true,cs)) h C hl D
 |eO xs=>obtain⟨us,e,E,h⟩:=h;exact⟨us,e,E,λj p I=>let ⟨v,O,r⟩:=h j p I;⟨v,O,r.wrote C hl D⟩⟩
 |ptr k=>obtain⟨ad,e,h⟩:=h;exact⟨ad,e,OM D _ _ h⟩
 |view k s i j=>obtain⟨A,n,c,h,g⟩:=h;exact⟨A,n,c,V3 D k _ rfl h,g⟩
 |pk r n=>exact h
 |aH r j=>exact h
 |iX cs=>exact RF.wrote h C hl
 |mO f cs=>obtain⟨pv,e,h⟩:=h;exact⟨pv,e,h.wrote C hl⟩
 |fn f cap=>exact h
def dM.wrote{r:Nat}{x:aP}(h:dM w B af ρ r x)(E:uJ w w' bt)(hl:af bt=some kt)(Y:qx w w' af ρ)(O:¬ [r] <:+ kt):dM w' B af ρ r x:=by
 cases h with
 | ay b off cells e cs us D C T hs Z=>
  have U:b≠bt:=by rintro rfl;rw[hl]at C;injection C with C;subst C;exact O (List.suffix_refl _)
  exact .ay b off cells e cs us D C ((E.block b U).trans T) hs (λj x I=>⟨(Z j x I).1,(Z j x I).2.wrote E hl Y⟩)
 |sl v y D fo=>exact .sl v y D (fo.apart hl (.inl O) (Nat.le_of_eq E.size.symm) E.block)
 | mp b c es l D C T he=>
  have U:b≠bt:=by rintro rfl;rw[hl]at C;injection C with C;subst C;exact O (List.suffix_refl _)
  exact .mp b c es l D C ((E.block b U).trans T) he
 |gh us xs D I=>exact .gh us xs D λj x hj=>(I j x hj).wrote E hl Y
def Rl.wrote(h:Rl w0 N af ρ σ a w)(C:uJ w w' bt)(hl:af bt=some kt)(I:qx w w' af ρ)(O:∀ r x,m' r=some x -> dM w' w0.heap.size af ρ r x):Rl w0 N af ρ ⟨σ.t,m'⟩ a w':=by
 have hb:=(h.cL bt kt hl).1;have T:∀ k,k<w0.heap.size -> w0.L k=none -> k≠bt:=by
  grind
 refine⟨⟨C.os.trans h.below.os,C.tape.trans h.below.tape,C.output.trans h.below.output,by rw[C.size];exact h.below.size,λk D E=>(C.block k (T k D E)).trans (h.below.block k D E)⟩,λb k U=>?_,O,λk=>(h.tmp k).wrote C hl I,h.size,h.defers,h.fix,h.cD⟩
 rw[C.size];exact h.cL b k U
def V4{r C:Nat}(h:C≠r):¬ [C] <:+ [r]:=by
 intro D;have:=D.eq_of_length rfl;simp_all
def Rl.Fb{r j:Nat}{cs xs:aa Lf}{us:Array Value}(h:Rl w0 N af ρ σ a w)(hm:σ.m r=some (.ay cs))(hx:ez w w0.heap.size af ρ xs us)(hj:j+xs.length <= cs.length):
  ∃b off,ρ r = .ay b off/\w.there b (off+j) us.size/\Rl w0 N af ρ ⟨σ.t,bG σ.m r (some (.ay (splice cs j xs)))⟩ a (w.setCells b (off+j) us.toList):=by
 have T:=h.root r _ hm;generalize D:aP.ay cs=x at T;cases T with
 |sl=>cases D
 |mp=>cases D
 |gh=>cases D
 | ay b off cells e eM u bV hl Y hs hc=>
  injection D with D;subst D;have hlen:us.size=xs.length:=hx.1;have lX:off+j+us.toList.length <= cells.size:=by rw[kW,hlen];omega
  have E:=Ju w b (off+j) us.toList;obtain⟨U,gy,nq⟩:=E2 b e us.toList (off+j) w cells Y lX;have O:qx w (w.setCells b (off+j) us.toList) af ρ:=by
   intro k ad v ha Z fR;obtain⟨j',i',s',q,rfl,hq,_,_,hh'⟩:=AJ k ad ha;have ck:ad.block≠b:=by
    intro e
    grind
   exact(World.cell?_of_block (E.block _ ck)).trans Z
  refine⟨b,off,bV,λn hn=>⟨?_,frozen_of_row w b _ cells e Y⟩,h.wrote E hl O λr' y I=>?_⟩
  ·rw[cell_of_row w b _ cells e _ Y];simp;omega
  ·by_cases mQ:r'=r
   ·subst mQ;rw[bJ]at I;injection I with I;subst I
    refine .ay b off U e _ (λn=>if n<j then u n else if n<j+xs.length then us.getD (n-j) undef else u n) bV hl gy ?_ λn x C=>?_
    ·rw[s7 _ _ _ hj,<- kW,nq]
     grind
    ·have e2:U[off+n]?=(splice cells.toList (off+j) us.toList)[off+n]?:=by
      rw[show U[off+n]?=U.toList[off+n]? by simp,nq];rfl
     rw[e2,vX _ _ _ (by simpa using lX)];rw[vX _ _ _ hj]at C;by_cases h1:n<j
     ·rw[aV];simp only[h1]at C ⊢;refine⟨?_,(hc n x C).2.wrote E hl O⟩;simp_all
     ·by_cases h2:n<j+xs.length
      ·rw[aW,aV (by rw[kW,hlen];omega)];simp only[h1,h2,if_true,if_false]at C ⊢;obtain⟨v,Z,T⟩:=hx.2 (n-j) x C;have hg:us.getD (n-j) undef=v:=by rw[gN,Z];rfl
       rw[hg];refine⟨?_,T.wrote E hl O⟩
       grind
      ·rw[aW,aW (by rw[kW];omega)];simp only[h1,h2]at C ⊢;refine⟨?_,(hc n x C).2.wrote E hl O⟩
       grind
   ·rw[cc _ _ _ mQ]at I;exact(h.root r' y I).wrote E hl O (V4 mQ)
inductive yw (m:Nat->Option aP):List Nat->V->(Nat->Option aP)->Prop
 |root (r:Nat) (y0 y:V) (h:m r=some (.sl y0)):yw m [r] y (bG m r (some (.sl y)))
 | elem (j i:Nat) (q:List Nat) (t:TC) (o:Nat) (qn:Bool) (l:List (T t)) (y:V) (e:T t) (m':Nat->Option aP) (h:vV m q (.sl t (o+2) qn l)) (hi:i<l.length) (hj:j<aB t)
   (hd:dec t o (splice (enc t o l[i]) j [y])=some e) (hp:yw m q (.sl t (o+2) qn (l.set i e)) m'):yw m (j::i::aB t::q) y m'
def ON{α:Type}{a b c:aa α}(D:a <:+ c)(hb:b <:+ c)(h:a.length=b.length):a=b:=by
 obtain⟨x,E⟩:=D;obtain⟨y,C⟩:=hb;rw[<-E]at C;exact((List.append_inj' C h.symm).2).symm
def RV.Jv{q:aa Nat}{t:TC}{o:Nat}{Y:Bool}{l:aa (T t)}{i j:Nat}{xs:aa V}{e:T t}{b cap:Nat}{cs eM:Array Value}{u us:Nat -> Nat -> Value}
  (hl:af b=some q) (hh:w'.heap[b]?=some (.cells eM (tid t) (0,0))) (hs:eM.size=cap*aB t) (hn:l.length <= cap) (hm:cap <= maxLen/\(Y=true -> cap=l.length)) (hi:i<l.length) (hj:j+xs.length <= aB t)
  (hd:dec t o (splice (enc t o l[i]) j xs)=some e)
  (hc:∀D (h:D<l.length) (C:Nat) x,(enc t o l[D])[C]?=some x -> ¬ (D=i/\j <= C/\C<j+xs.length) -> eM[D*aB t+C]?=some (u D C)/\RV w' B af (C::D::aB t::q) x (u D C))
  (hx:∀(n:Nat) x,xs[n]?=some x -> eM[i*aB t+(j+n)]?=some (us i (j+n))/\RV w' B af ((j+n)::i::aB t::q) x (us i (j+n))):
  RV w' B af q (.sl t (o+2) Y (l.set i e)) (.slice (some ⟨b,0,none⟩) l.length cap):=by
 have hlen:(l.set i e).length=l.length:=iS;have key:∀ D (h:D<(l.set i e).length) (C:Nat) x,(enc t o (l.set i e)[D])[C]?=some x ->
   ∃v,eM[D*aB t+C]?=some v/\RV w' B af (C::D::aB t::q) x v:=by
  intro D h C x I;rw[List.getElem_set]at I;by_cases hii:i=D
  ·subst hii;rw[aV rfl]at I;have hk:=lz t o _ e hd;have rI:C<(enc t o e).length:=(dA.1 I).1;rw[<- hk.1]at rI;have E:=bH rI;generalize (splice (enc t o l[i]) j xs)[C]=y at E;have Z:=hk.2 C y x E I;rw[vX _ _ _ (by rw[ke];exact hj)]at E;by_cases h1:C<j
   ·rw[aV h1]at E;obtain⟨O,U⟩:=hc i hi C y E (by omega);exact⟨_,O,U.wk Z⟩
   ·by_cases h2:C<j+xs.length
    ·rw[aW h1,aV h2]at E;obtain⟨O,U⟩:=hx _ y E;rw[show j+(C-j)=C by omega]at O U;exact⟨_,O,U.wk Z⟩
    ·rw[aW h1,aW h2]at E;obtain⟨O,U⟩:=hc i hi C y E (by omega);exact⟨_,O,U.wk Z⟩
  ·grind
 rw[<- hlen]
 refine .own q t o Y (l.set i e) b cap eM (λD C=>(eM[D*aB t+C]?).getD undef) hl hh hs (by rw[hlen];exact hn) ⟨hm.1,λh=>by rw[hlen];exact hm.2 h⟩ (λD h C x I=>?_) (λD h C x I=>?_)
 ·grind
 ·obtain⟨v,hv,hr⟩:=key D h C x I;simp_all
def V5{r:Nat}{q:aa Nat}(h:[r] <:+ q){C:Nat}(D:[C] <:+ q):C=r:=by
 have:=ON D h rfl;injection this
def yw.ok{q:aa Nat}{y:V}(h:yw m q y m')(hm:∀ r x,m r=some x -> dM w B af ρ r x)(T:uJ w w' bt)(hl:af bt=some kt)(U:q <:+ kt)(hC:qx w w' af ρ){I:Value}(D:cF w af ρ q=some I)(hy:RV w' B af q y I):
  ∀r x,m' r=some x -> dM w' B af ρ r x:=by
 induction h generalizing I with
 | root r y0 y h=>
  intro Y x C;by_cases O:Y=r
  ·subst O;rw[bJ]at C;injection C with C;subst C;simp only[cF]at D;cases bV:ρ Y with
   |ay b off=>grind
   |bB us=>grind
   | dn v=>
    rw[bV]at D;injection D with D;subst D;exact .sl v y bV hy
  ·rw[cc _ _ _ O]at C;exact(hm Y x C).wrote T hl hC (λZ=>O (V5 U Z))
 | elem j i q t o qn l y e m' h hi hj hd hp ih=>
  obtain⟨s8,AK,fo⟩:=h.ok hm;have hqk:q <:+ kt:=List.IsSuffix.trans ⟨[j,i,aB t],rfl⟩ U;cases fo with
  |dX=>simp at hi
  |fy=>simp at hi
  |fJ=>simp at hi
  |aG _ _ _ _ _ _ _ _ _ ho=>omega
  | own _ _ _ _ _ b cap cs us E hh Z hn rJ hc O=>
   have ck:b≠bt:=by
    rintro rfl;rw[hl]at E;injection E with E;subst E;have:=U.length_le
    grind
   have hz:=Nat.le_of_eq T.size.symm
   refine ih hqk AK (RV.Jv (us:=λ_ _=>I) (u:=us) (cs:=cs) (xs:=[y]) E ((T.block b ck).trans hh) Z hn rJ hi (show j+1 <= aB t from hj) hd (λi' h' j' x C Jw=>⟨hc i' h' j' x C,(O i' h' j' x C).apart hl (.inl λn6=>Jw ?_) hz T.block⟩) (λn x C=>?_))
   ·have:=ON n6 U rfl
    grind
   ·cases n with
    |succ n=>simp at C
    | zero=>
     simp at C;subst C;refine⟨?_,hy⟩;rw[Jr,AI j i _ AK E]at D;have D:w.cell? ⟨b,i*aB t+j,none⟩=some I:=D;rw[cell_of_row w b _ cs _ _ hh]at D;exact D
def RV.V6{q:aa Nat}{x:V}{v:Value}(h:RV w B af q x v)(C:x.plain=true):lW v=false:=by
 cases h<;>first|rfl|cases C
def RV.s9{q C:aa Nat}{x:V}{v:Value}{B':Nat}{az:bk}(h:RV w B af q x v)(D:x.plain=true):RV w' B' az C x v:=by
 cases h<;>first|exact .int _ _ _|exact .bool _ _|exact .str _ _|cases D
def Rl.af7{j i:Nat}{q:aa Nat}{t:TC}{o:Nat}{qn:Bool}{l:aa (T t)}{xs:aa V}{us:Array Value}{e:T t}(h:Rl w0 N af ρ σ a w)(hg:vV σ.m q (.sl t (o+2) qn l))(hi:i<l.length)(hj:j+xs.length <= aB t)
  (hd:dec t o (splice (enc t o l[i]) j xs)=some e) (hold:∀(n:Nat) x,n<xs.length -> (enc t o l[i])[j+n]?=some x -> x.plain=true) (hxp:∀x∈xs,x.plain=true) (kf:us.size=xs.length) (hx:∀(n:Nat) x,xs[n]?=some x -> ∃u,us[n]?=some u/\RV w w0.heap.size af [] x u)
  (hp:yw σ.m q (.sl t (o+2) qn (l.set i e)) m'):
  ∃b,addrAt w af ρ (j::i::aB t::q)=some ⟨b,i*aB t+j,none⟩/\w.there b (i*aB t+j) us.size/\Rl w0 N af ρ ⟨σ.t,m'⟩ a (w.setCells b (i*aB t+j) us.toList):=by
 obtain⟨s8,AK,fo⟩:=hg.ok h.root;cases fo with
 |dX=>simp at hi
 |fy=>simp at hi
 |fJ=>simp at hi
 |aG _ _ _ _ _ _ _ _ _ ho=>omega
 | own _ _ _ _ _ b cap cs u U hh hs hn rJ hc hr=>
  have vY:i*aB t+aB t <= cap*aB t:=by
   have:(i+1)*aB t <= cap*aB t:=iB _ (by omega);rw[iC]at this;exact this
  have lX:i*aB t+j+us.toList.length <= cs.size:=by rw[kW,kf,hs];omega
  have Y:=Ju w b (i*aB t+j) us.toList;obtain⟨O,gy,nq⟩:=E2 b (tid t) us.toList (i*aB t+j) w cs hh lX;have ta:∀ n,O[n]?=if n<i*aB t+j then cs[n]? else if n<i*aB t+j+xs.length then us[n-(i*aB t+j)]? else cs[n]?:=by
   intro n;have e2:O[n]?=(splice cs.toList (i*aB t+j) us.toList)[n]?:=by
    rw[show O[n]?=O.toList[n]? by simp,nq];rfl
   rw[e2,vX _ _ _ (by simpa using lX),kW,kf];simp
  have Fc:O.size=cs.size:=by
   rw[<- kW,nq];have:=s7 cs.toList _ us.toList (by simpa using lX)
   grind
  have hC:qx w (w.setCells b (i*aB t+j) us.toList) af ρ:=by
   intro k ad v ha D fR;by_cases ck:ad.block=b
   ·obtain⟨I,C,s',q',rfl,rH,af8,uK,_⟩:=AJ k ad ha;have n7:ad=⟨b,ad.off,none⟩:=by cases ad;simp_all
    rw[n7,cell_of_row w b _ cs _ _ hh]at D;rw[n7,cell_of_row _ b _ O _ _ gy,ta];by_cases h1:ad.off<i*aB t+j
    ·rw[aV h1];exact D
    ·by_cases h2:ad.off<i*aB t+j+xs.length
     ·exfalso;have hjs:ad.off-(i*aB t+j)<xs.length:=by omega
      have vZ:j+(ad.off-(i*aB t+j))<(enc t o l[i]).length:=by rw[ke];omega
      have hy:=bH vZ;generalize (enc t o l[i])[j+(ad.off-(i*aB t+j))]=y at hy;have yx:=hold _ y hjs hy;have Z:=hc i hi _ y hy;rw[show i*aB t+(j+(ad.off-(i*aB t+j)))=ad.off by omega]at Z;rw[D]at Z;injection Z with Z;have:=(hr i hi _ y hy).V6 yx;rw[<- Z,fR]at this;cases this
     ·rw[aW h1,aW h2];exact D
   ·exact(World.cell?_of_block (Y.block _ ck)).trans D
  refine⟨b,AI j i (aB t) AK U,λn uL=>⟨?_,frozen_of_row w b _ cs _ hh⟩,h.wrote Y U hC (hp.ok h.root Y U (List.suffix_refl _) hC AK ?_)⟩
  ·rw[cell_of_row w b _ cs _ _ hh];simp;omega
  ·refine RV.Jv (u:=u) (us:=λ_ n=>us.getD (n-j) undef) (cs:=cs) (xs:=xs) U gy (Fc.trans hs) hn rJ hi hj hd (λC h' I x E Jw=>?_) (λn x E=>?_)
   ·have rI:I<aB t:=by have:=(dA.1 E).1;rwa [ke]at this
    refine⟨?_,(hr C h' I x E).apart U (.inl λn6=>?_) (Nat.le_of_eq Y.size.symm) Y.block⟩
    ·rw[ta];have yz:¬ (¬ C*aB t+I<i*aB t+j/\C*aB t+I<i*aB t+j+xs.length):=by
      rintro⟨h1,h2⟩;rcases Nat.lt_trichotomy C i with c9|heq|CH
      ·have:(C+1)*aB t <= i*aB t:=iB _ c9;rw[iC]at this;omega
      ·subst heq
       grind
      ·have:(i+1)*aB t <= C*aB t:=iB _ CH;rw[iC]at this;omega
     split
     ·exact hc C h' I x E
     ·rw[aW];exact hc C h' I x E
    ·have:=n6.length_le;simp at this;omega
   ·obtain⟨v,D,th⟩:=hx n x E;have uL:n<xs.length:=(dA.1 E).1;have CI:us.getD (j+n-j) undef=v:=by rw[show j+n-j=n by omega,gN,D];rfl
    rw[CI,ta,aW,aV];refine⟨?_,th.s9 (hxp x (gv E))⟩;rw[show i*aB t+(j+n)-(i*aB t+j)=n by omega];exact D
end
def OO:Value->A
 |.bool b=>.lf (.v (.bool b))
 |.int k n=>.lf (.v (.int k n))
 |.string s=>.lf (.v (.str s))
 |.slice none 0 0=>.lf (.v .nil)
 |_=>.undef
def aI(σ:S):Operand->A
 |.tmp t=>σ.t t
 |.const v=>OO v
 |.func f=>.fn f []
 |.global _=>.undef
def gG{X:Type}(N:Nat)(σ:S)(C:aj Tmp)(x:A)(k:S->aj X):aj X:=
 match C with
 |none=>k σ
 |some d=>bif Nat.blt d N then k (σ.set d x)else none
def kK(P:Program)(w0:Wd)(N:Nat)(o:Oper)(σ D:S):Prop:=
 ∀a w K Q,R w0 N σ a w->(∀C w',R w0 N D C w'->K C w')->o.wp P a w K Q
section
variable {P:Program} {w:World} {w0:Wd} {B N:Nat} {af:bk} {ρ:Nat->Loc} {σ:S} {a:Act} {X:Type} {r:X} {k:S->aj X} {o:Oper}
def af9(v:Value):RA w B af ρ (OO v) v:=by
 unfold OO;split
 ·exact⟨rfl,.bool _ _⟩
 ·exact⟨rfl,.int _ _ _⟩
 ·exact⟨rfl,.str _ _⟩
 ·exact⟨rfl,.nil _⟩
 ·trivial
def Rl.aI(h:Rl w0 N af ρ σ a w)(x:Operand):RA w w0.heap.size af ρ (aI σ x) (a.eval x):=by
 cases x with
 |tmp t=>exact h.tmp t
 |const v=>exact af9 v
 |func f=>exact⟨#[],rfl,rfl,by simp⟩
 |global g=>trivial
def kK.val{x:A}(C:gG N σ o.dst x k=some r)(h:∀ af ρ a w,Rl w0 N af ρ σ a w -> ∃ v,(execOp a.eval o).run P w = .ok (.value v) w/\RA w w0.heap.size af ρ x v):∃ O,k O=some r/\kK P w0 N o σ O:=by
 unfold gG at C;split at C
 ·rename_i D
  refine⟨σ,C,λa w K Q hR E=>?_⟩
  obtain⟨af,ρ,hl⟩:=hR;obtain⟨v,I,T⟩:=h af ρ a w hl;unfold Oper.wp;rw[I,Oper.upon_value,D];exact E _ _ ⟨af,ρ,hl⟩
 ·rename_i d D;cases U:Nat.blt d N with
  |false=>simp_all
  | true=>
   rw[U]at C
   refine⟨_,C,λa w K Q hR E=>?_⟩
   obtain⟨af,ρ,hl⟩:=hR;obtain⟨v,I,T⟩:=h af ρ a w hl;unfold Oper.wp;rw[I,Oper.upon_value,D];exact E _ _ ⟨af,ρ,hl.set T (by have:=cr U;omega)⟩
/-! What does the same whatever comes behind. -/
def lY{α:Type}(f:(X:Type)->(α->aj X)->aj X)(y:α):Prop:=∀(X:Type) (k:α->aj X),f X k=k y
def lY.at_{α:Type}{f:(X:Type)->(α->aj X)->aj X}{y:α}(h:lY f y){X:Type}(k:α->aj X):f X k=k y:=h X k
def cm{α:Type}(f:(X:Type)->(α->aj X)->aj X):Prop:=∀(X Y:Type) (k:α->aj X) (g:X->aj Y),(f X k).bind g=f Y λy=>(k y).bind g
def cm.lA{α:Type}{f:(X:Type)->(α->aj X)->aj X}(n:cm f){X:Type}{k:α->aj X}{r:X}(h:f X k=some r):∃ y,k y=some r/\lY f y:=by
 have e:∀(Y:Type) (k:α->aj Y),f Y k=(f α some).bind k:=λY k=>(n α Y some k).symm
 rw[e]at h;cases C:f α some with
 |none=>rw[C]at h;cases h
 |some y=>rw[C]at h;exact⟨y,h,λX k=>by rw[e,C];rfl⟩
def cm.comp{α β:Type}{f:(X:Type)->(α->aj X)->aj X}{b:(X:Type)->(β->aj X)->α->aj X}(n:cm f)(m:∀y,cm λX k=>b X k y):cm λX k=>f X (b X k):=λX Y k g=>(n X Y _ g).trans (bx _ (funext λy=>m y X Y k g))
def cS{X Y:Type}{b:Bool}{x y:aj X}{C D:aj Y}{g:X->aj Y}(E:x.bind g=C)(I:y.bind g=D):(bif b then x else y).bind g=bif b then C else D:=by
 cases b
 ·exact I
 ·exact E
/-! Contents of leaves. -/
def iZ{X:Type}(m:Nat->aj aP):aa Nat->(V->aj X)->aj X
 | [r],k=>match m r with
  |some (.sl y)=>k y
  |_=>none
 | j :: i :: s :: q,k=>iZ m q λy=>match y with
  |.sl t (o+2) _ l=>if s=aB t then (if h:i<l.length then (match (enc t o l[i])[j]? with|some z=>k z|none=>none)else none)else none
  |_=>none
 |_,_=>none
def rK{m:Nat -> aj aP}:∀ (q:aa Nat) (k:V -> aj X),iZ m q k=some r -> ∃ y,vV m q y/\k y=some r
 |[],_,h=>by simp[iZ]at h
 | [x],k,h=>by
  simp only[iZ]at h;split at h
  next y D=>exact⟨y,.root x y D,h⟩
  ·cases h
 | j :: i :: s :: q,k,h=>by
  obtain⟨y,D,C⟩:=rK q _ h;clear h;split at C
  ·split at C
   ·rename_i E;subst E;split at C
    ·rename_i hi;split at C
     next z I=>exact⟨z,.elem j i q _ _ _ _ z D hi I,C⟩
     ·cases C
    ·cases C
   ·cases C
  ·cases C
def n8{X:Type}(σ:S)(x:Lf)(k:V->aj X):aj X:=
 match x with
 |.v y=>k y
 |.own q=>iZ σ.m q k
 |.dead=>none
def RV.part{q:aa Nat}{tc:TC}{g:Nat}{U:Bool}{xs:aa (T tc)}{A:aj Addr}{n c a h:Nat}(I:RV w B af q (.sl tc g U xs) (.slice A n c))(E:g<2)(h1:a <= h)(C:h <= xs.length):RV w B af q (.sl tc g false ((xs.take h).drop a)) (sliced A a h c (aB tc))/\n=xs.length/\xs.length <= c:=by
 have hlen:((xs.take h).drop a).length=h-a:=by simp;omega
 cases I with
 | dX=>
  have:a=0:=by simp at C;omega
  have:h=0:=by simpa using C
  subst_vars
  exact⟨.dX _ _ _,rfl,dz _⟩
 | fy=>
  have:h=0:=by simpa using C
  subst this;have:a=0:=by omega
  subst this;exact⟨by unfold sliced;split<;>exact .fy _ _ _ _ _ E,rfl,Nat.zero_le _⟩
 | fJ=>
  have:h=0:=by simpa using C
  subst this;have:a=0:=by omega
  subst this;exact⟨by unfold sliced;split<;>exact .fy _ _ _ _ _ E,rfl,Nat.zero_le _⟩
 |own=>omega
 | aG _ _ _ _ _ b off cap u Y hl hb hB Z hc I=>
  refine⟨?_,rfl,Z⟩;by_cases he:a=h
  ·subst he;have e0:=List.eq_nil_of_length_eq_zero (by rw[hlen];omega);rw[e0];unfold sliced;rw[Nat.sub_self];split<;>exact .fy _ _ _ _ _ E
  ·unfold sliced;rw[aW,<- hlen];have Jm:(some (⟨b,off,none⟩:Addr)).map (·.add (a*aB tc))=some ⟨b,off+a*aB tc,none⟩:=by
    simp;unfold Addr.add;simp_all
   rw[Jm];have O:∀ i (hi:i<((xs.take h).drop a).length),((xs.take h).drop a)[i]=xs[a+i]'(by omega):=by
    intro i hi;simp_all
   refine .aG _ _ _ _ _ b (off+a*aB tc) (c-a) (λi j=>u (a+i) j) Y hl hb hB (by omega) (λi hi j x D=>?_) (λi hi j x D=>?_)
   ·rw[O]at D;have:=hc _ _ j x D
    grind
   ·rw[O i]at D
    grind
def V7(s i j:Nat):V->aj V
 |.sl t _ _ l=>bif Nat.beq s (aB t)then some (.sl t 0 false ((l.take j).drop i))else none
 |_=>none
def uM{X:Type}(σ:S)(q:aa Nat)(s i j:Nat)(k:V->aj X):aj X:=
 iZ σ.m q λy=>match V7 s i j y with
  |some z=>k z
  |none=>none
def rL{X:Type}(σ:S)(y:A)(k:V->aj X):aj X:=
 match y with
 |.lf l=>n8 σ l k
 |.view q s i j=>uM σ q s i j k
 |_=>none
def V8{q:aa Nat}{s i j:Nat}{k:V -> aj X}(h:uM σ q s i j k=some r):∃ z,k z=some r/\z.aG=true /\ ∀ w0 N af ρ a w,Rl w0 N af ρ σ a w -> ∀ u,RA w w0.heap.size af ρ (.view q s i j) u -> ∀ B',RV w B' (λ_=>none) [] z u:=by
 obtain⟨y,T,E⟩:=rK q _ h;clear h;split at E
 ·rename_i z C;unfold V7 at C;split at C
  ·rename_i t g U l;cases I:Nat.beq s (aB t)with
   |false=>simp_all
   | true=>
    rw[I,aq]at C;obtain rfl:=cE I;injection C with C;subst C
    refine⟨_,E,rfl,λw0 N af ρ a w hR u Y B'=>?_⟩
    obtain⟨A,n,c,Z,h1,h3,rfl⟩:=Y;obtain⟨v,D,hr⟩:=T.ok hR.root;rw[Z]at D;injection D with D;subst D;have O:RV w B' (λ_=>none) [] (.sl t 0 U l) (.slice A n c):=hr.fZ;have hn:n=l.length:=by cases O<;>rfl
    exact(O.part (by omega) h1 (by omega)).1
  ·cases C
 ·cases E
def vK{X:Type}(x:A)(k:V->aj X):aj X:=
 match x with
 |.lf (.v y)=>k y
 |_=>none
def OP{x:A}{k:V -> aj X}(h:vK x k=some r):∃ y,x = .lf (.v y)/\k y=some r:=by
 unfold vK at h
 grind
def RV.gz{q:aa Nat}{k:IntKind}{n:Int}{u:Value}(h:RV w B af q (.int k n) u):u = .int k n:=by cases h;rfl
def RV.yA{q:aa Nat}{n:Bool}{u:Value}(h:RV w B af q (.bool n) u):u = .bool n:=by cases h;rfl
def RV.v5{q:aa Nat}{n:ByteArray}{u:Value}(h:RV w B af q (.str n) u):u = .string n:=by cases h;rfl
/-! Arithmetic and comparison. -/
def cv(n:Nat):Bool:=decide (n<1073741824)
def Fe{X:Type}(P:Program)(ty:TypeId)(op:BinOp)(x y:V)(k:V->aj X):aj X:=
 match x,y with
 | .int C a,.int D b=>match op with
  |.shl=>if b<0 then none else k (.int C (C.wrap (a*2 ^ (min b.toNat C.bits))))
  |.shr=>if b<0 then none else k (.int C (a.fdiv (2 ^ (min b.toNat C.bits))))
  | op=>if C=D then (match op with
   |.add=>k (.int C (C.wrap (a+b)))
   |.sub=>k (.int C (C.wrap (a-b)))
   |.mul=>k (.int C (C.wrap (a*b)))
   |.quo=>if b=0 then none else k (.int C (C.wrap (a.tdiv b)))
   |.rem=>if b=0 then none else k (.int C (a.tmod b))
   |.and=>k (.int C (bits .and C a b))
   |.or=>k (.int C (bits .or C a b))
   |.xor=>k (.int C (bits .xor C a b))
   |.andNot=>k (.int C (bits .andNot C a b))
   |.eql=>k (.bool (a==b))
   |.neq=>k (.bool (a != b))
   |.lss=>k (.bool (decide (a<b)))
   |.leq=>k (.bool (decide (a<=b)))
   |.gtr=>k (.bool (decide (a > b)))
   |.geq=>k (.bool (decide (a >= b)))
   |_=>none)else none
 | .bool a,.bool b=>match P.underlying ty with
  | some .bool=>(match op with
   |.eql=>k (.bool (a==b))
   |.neq=>k (.bool (!(a==b)))
   |_=>none)
  |_=>none
 | .str a,.str b=>match op with
  |.add=>bif cv (a.size+b.size)then k (.str (a++b))else none
  |.eql=>k (.bool (a.toList==b.toList))
  |.neq=>k (.bool (!(a.toList==b.toList)))
  |_=>none
 |_,_=>none
def aga{ty:TypeId}{T:BinOp}{x y:V}{k:V -> aj X}(h:Fe P ty T x y k=some r):∃ z,k z=some r/\z.plain=true /\ ∀ (w:World) (B:Nat) (af:bk) (E I:Operand) (q O:aa Nat) (u v:Value),RV w B af q x u -> RV w B af O y v ->
  ∃t,(do eqGuard T ty E I u v;binOp T ty u v:Sem Value).run P w = .ok t w/\RV w B af [] z t:=by
 unfold Fe at h;split at h
 ·rename_i kx a ky b;split at h
  ·split at h
   ·cases h
   ·rename_i hb
    refine⟨_,h,rfl,λw B af E I q O u v C D=>?_⟩
    obtain rfl:=C.gz;obtain rfl:=D.gz;exact⟨_,by simp[eqGuard,binOp,Op.shift,hb],.int _ _ _⟩
  ·split at h
   ·cases h
   ·rename_i hb
    refine⟨_,h,rfl,λw B af E I q O u v C D=>?_⟩
    obtain rfl:=C.gz;obtain rfl:=D.gz;exact⟨_,by simp[eqGuard,binOp,Op.shift,hb],.int _ _ _⟩
  ·rename_i Z h2;split at h
   ·rename_i hk;subst hk;cases T
    case shl=>exact absurd rfl Z
    case shr=>exact absurd rfl h2
    case quo=>
     by_cases hb:b=0
     ·simp only[hb,if_true]at h;cases h
     ·simp[hb]at h
      refine⟨_,h,rfl,λw B af E I q O u v C D=>?_⟩
      obtain rfl:=C.gz;obtain rfl:=D.gz;exact⟨_,by simp[eqGuard,binOp,Op.intDiv,hb],.int _ _ _⟩
    case rem=>
     by_cases hb:b=0
     ·simp only[hb,if_true]at h;cases h
     ·simp[hb]at h
      refine⟨_,h,rfl,λw B af E I q O u v C D=>?_⟩
      obtain rfl:=C.gz;obtain rfl:=D.gz;exact⟨_,by simp[eqGuard,binOp,Op.intDiv,hb],.int _ _ _⟩
    all_goals first
     | (refine⟨_,h,rfl,λw B af E I q O u v C D=>?_⟩
        obtain rfl:=C.gz;obtain rfl:=D.gz
        first
         |(refine⟨_,?_,.int _ _ _⟩;simp[eqGuard,binOp,Op.intArith];done)
         |(refine⟨_,?_,.int _ _ _⟩;simp[eqGuard,binOp,intBits_and,intBits_or,intBits_xor,intBits_andNot];done)
         |(refine⟨_,?_,.bool _ _⟩;simp[eqGuard,binOp,Op.intCmp];done))
     |cases h
   ·cases h
 ·rename_i a b;split at h
  ·rename_i Y;split at h
   ·refine⟨_,h,rfl,λw B af E I q O u v C D=>?_⟩
    obtain rfl:=C.yA;obtain rfl:=D.yA;have e:binOp .eql ty (.bool a) (.bool b)=(do pure (.bool (<- Op.equal ty (.bool a) (.bool b)))):=rfl;have g:eqGuard .eql ty E I (.bool a) (.bool b)=pure ():=rfl;exact⟨_,by rw[e,g,fQ,Sem.run_pure,lU,fQ,run_equal_bool _ _ _ _ Y];rfl,.bool _ _⟩
   ·refine⟨_,h,rfl,λw B af E I q O u v C D=>?_⟩
    obtain rfl:=C.yA;obtain rfl:=D.yA;have e:binOp .neq ty (.bool a) (.bool b)=(do pure (.bool (!(<- Op.equal ty (.bool a) (.bool b))))):=rfl;have g:eqGuard .neq ty E I (.bool a) (.bool b)=pure ():=rfl;exact⟨_,by rw[e,g,fQ,Sem.run_pure,lU,fQ,run_equal_bool _ _ _ _ Y];rfl,.bool _ _⟩
   ·cases h
  ·cases h
 ·rename_i a b;split at h
  ·cases U:cv (a.size+b.size)with
   |false=>rw[U]at h;cases h
   | true=>
    rw[U]at h
    refine⟨_,h,rfl,λw B af E I q O u v C D=>?_⟩
    obtain rfl:=C.v5;obtain rfl:=D.v5;have hL':a.size+b.size<1073741824:=by simpa [cv]using U
    refine⟨_,?_,.str _ _⟩;have h9:IntKind.i64.max=9223372036854775807:=rfl;simp only[eqGuard,binOp,Op.stringOp,h9];simp;omega
  ·refine⟨_,h,rfl,λw B af E I q O u v C D=>?_⟩
   obtain rfl:=C.v5;obtain rfl:=D.v5;exact⟨_,by simp[eqGuard,binOp,Op.stringOp],.bool _ _⟩
  ·refine⟨_,h,rfl,λw B af E I q O u v C D=>?_⟩
   obtain rfl:=C.v5;obtain rfl:=D.v5;exact⟨_,by simp[eqGuard,binOp,Op.stringOp],.bool _ _⟩
  ·cases h
 ·cases h
def Ff{X:Type}(D:UnOp)(x:V)(k:V->aj X):aj X:=
 match D,x with
 |.not,.bool b=>k (.bool (!b))
 |.neg,.int C n=>k (.int C (C.wrap (0-n)))
 |_,_=>none
def agb{D:UnOp}{x:V}{k:V->aj X}(h:Ff D x k=some r):∃ z,k z=some r/\z.plain=true/\∀ (w:World) (B:Nat) (af:bk) (q:aa Nat) (u:Value),RV w B af q x u->∃ t,(Op.unary D u).run P w = .ok t w/\RV w B af [] z t:=by
 unfold Ff at h;split at h
 ·refine⟨_,h,rfl,λw B af q u C=>?_⟩
  obtain rfl:=C.yA;exact⟨_,by simp[Op.unary],.bool _ _⟩
 ·refine⟨_,h,rfl,λw B af q u C=>?_⟩
  obtain rfl:=C.gz;exact⟨_,by simp[Op.unary,Op.intArith],.int _ _ _⟩
 ·cases h
def V.Fg{x:V}(h:x.plain=true):x.aG=true:=by cases x<;>first|rfl|cases h
end
def jg(P:Program)(t:TypeId):aj Nat:=(P.info? t).map (·.size)
def CJ(P:Program)(t:TypeId):aj Bool:=
 match P.underlying t with
 |some (.struct _)|some (.array _ _)=>some true
 |some _=>some false
 |none=>none
def oS(P:Program)(t:TypeId):aj TypeId:=
 match P.underlying t with
 |some (.slice e)=>some e
 |_=>none
def Fh(P:Program)(s:TypeId)(f:Nat):aj Field:=
 match P.underlying s with
 |some (.struct C)=>C[f]?
 |_=>none
def v7{X:Type}(P:Program)(t:TypeId)(cs:aa Lf)(k:A->aj X):aj X:=
 match jg P t with
 | some n=>if cs.length=n then (match CJ P t with
  |some true=>k (.agg cs)
  | some false=>(match cs with
   |[y]=>k (.lf y)
   |_=>none)
  |none=>none)else none
 |none=>none
def leaves(key:Nat->aa Nat):Nat->aa V->aa Lf
 |_,[]=>[]
 |j,z::C=>(bif z.aG then .v z else .own (key j))::leaves key (j+1) C
def nt{X:Type}(P:Program)(σ:S)(t:TypeId)(x:A)(k:A->aj X):aj X:=
 match jg P t with
 |none=>none
 | some n=>match x with
  | .aH r j=>(match σ.m r with
   |some (.ay cs)=>v7 P t ((cs.drop j).take n) k
   |_=>none)
  |.iX cs=>v7 P t ((cs.take n).map .v) k
  | .ptr (j :: i :: s :: q)=>iZ σ.m q λy=>(match y with
   |.sl C (o+2) _ l=>if s=aB C then (if h:i<l.length then v7 P t (leaves (λD=>D::i::s::q) j (((enc C o l[i]).drop j).take n)) k else none)else none
   |_=>none)
  |_=>none
section
variable {P:Program} {w:World} {w0:Wd} {B N:Nat} {af:bk} {ρ:Nat->Loc} {σ:S} {a:Act} {X:Type} {r:X} {o:Oper}
def V9(key:Nat -> aa Nat):∀ (j:Nat) (C:aa V) (n:Nat),(leaves key j C)[n]?=(C[n]?).map λz=>bif z.aG then .v z else .own (key (j+n))
 |_,[],n=>by simp[leaves]
 |j,z::C,0=>by simp[leaves]
 | j,z :: C,n+1=>by
  simp[leaves,List.getElem?_cons_succ,V9]
  grind
def OQ{t:TypeId}{cs:aa Lf}{k:A -> aj X}(h:v7 P t cs k=some r):∃ x,k x=some r /\ ∀ (w:World) (B:Nat) (af:bk) (ρ:Nat -> Loc) (b o:Nat) (D:aa Value),ez w B af ρ cs D.toArray -> w.rangeAt b o D ->
  ∃v,(Instr.loadAt t (.pointer (some ⟨b,o,none⟩))).run P w = .ok v w/\RA w B af ρ x v:=by
 unfold v7 at h;split at h
 ·rename_i n T;split at h
  ·rename_i hlen;split at h
   ·rename_i C
    refine⟨_,h,λw B af ρ b o D hl I=>?_⟩
    have O:D.length=n:=by have:=hl.1;simpa [hlen]using this
    unfold CJ at C;split at C
    next Z E=>exact⟨_,run_loadAt_mid w b o t D _ I E rfl (by rw[O];exact T),_,rfl,hl⟩
    next c e E=>exact⟨_,run_loadAt_mid w b o t D _ I E rfl (by rw[O];exact T),_,rfl,hl⟩
    ·cases C
    ·cases C
   ·rename_i C;split at h
    ·rename_i y
     refine⟨_,h,λw B af ρ b o D hl I=>?_⟩
     have O:D.length=1:=by have:=hl.1;simpa using this
     obtain⟨v,rfl⟩:=List.length_eq_one_iff.1 O;have U:w.cell? ⟨b,o,none⟩=some v:=I 0 v rfl;obtain⟨u,E,hR⟩:=hl.2 0 y rfl;have:v=u:=by simpa using E
     subst this;refine⟨v,?_,hR⟩;unfold CJ at C;split at C
     ·cases C
     ·cases C
     ·rename_i d hs ha E;have Y:(isAgg t).run P w = .ok false w:=by
       unfold isAgg;rw[fQ,gB E];simp_all
      simp[Instr.loadAt,Instr.sureAddr,loadVar,fQ,Y,load,Sem.run,U]
     ·cases C
    ·cases h
   ·cases h
  ·cases h
 ·cases h
def Jx{α:Type}(l:aa α)(j n i:Nat)(x:α)(h:((l.drop j).take n)[i]?=some x):i<n/\l[j+i]?=some x:=by grind
def Wa{t:TypeId}{x:A}{k:A -> aj X}(h:nt P σ t x k=some r):∃ y,k y=some r /\ ∀ af ρ a w,Rl w0 N af ρ σ a w -> ∀ u,RA w w0.heap.size af ρ x u ->
  ∃v,(Instr.loadAt t u).run P w = .ok v w/\RA w w0.heap.size af ρ y v:=by
 unfold nt at h;split at h
 ·cases h
 ·rename_i n hn;split at h
  ·rename_i r' j;split at h
   ·rename_i cs gj;obtain⟨y,Y,Z⟩:=OQ h
    refine⟨y,Y,λaf ρ a w hR u hu=>?_⟩
    obtain⟨b,off,bV,rfl⟩:=hu;have O:=hR.root r' _ gj;generalize U:aP.ay cs=x at O;cases O with
    |sl=>cases U
    |mp=>cases U
    |gh=>cases U
    | ay b' AL cells e eM us iK hl hh hs hc=>
     injection U with U;subst U;rw[bV]at iK;injection iK with e1 e2;subst e1 e2
     refine Z w _ af ρ b (off+j) (((cs.drop j).take n).mapIdx λi _=>us (j+i)) ⟨by simp,λi x C=>?_⟩ (λi v D=>?_)
     ·obtain⟨hi,lC⟩:=Jx _ _ _ _ _ C;simp_all
     ·rw[List.getElem?_mapIdx]at D;cases C:((cs.drop j).take n)[i]? with
      |none=>rw[C]at D;cases D
      | some x=>
       rw[C]at D;injection D with D;subst D;obtain⟨hi,lC⟩:=Jx _ _ _ _ _ C;rw[cell_of_row w b _ cells _ _ hh,Nat.add_assoc];simp_all
   ·cases h
  ·rename_i cs;obtain⟨y,Y,Z⟩:=OQ h
   refine⟨y,Y,λaf ρ a w hR u hu=>?_⟩
   obtain⟨b,off,rfl,hb,hl,hc⟩:=hu;have oT:∀ (i:Nat) (x:Lf),((cs.take n).map Lf.v)[i]?=some x -> ∃ z v,x = .v z/\z.aG=true/\w.cell? ⟨b,off+i,none⟩=some v/\RV w w0.heap.size af [] z v:=by
    intro i x C;rw[dW]at C;cases I:(cs.take n)[i]? with
    |none=>rw[I]at C;cases C
    | some z=>
     rw[I]at C;injection C with C;rw[List.getElem?_take]at I;split at I
     ·obtain⟨rM,v,D,O⟩:=hc i z I
      grind
     ·cases I
   refine Z w _ af ρ b off (((cs.take n).map Lf.v).mapIdx λi _=>(w.cell? ⟨b,off+i,none⟩).getD undef) ⟨by simp,λi x C=>?_⟩ (λi v D=>?_)
   ·obtain⟨z,v,rfl,rM,D,O⟩:=oT i x C;refine⟨v,?_,rM,O⟩;simp_all
   ·rw[List.getElem?_mapIdx]at D;cases C:((cs.take n).map Lf.v)[i]? with
    |none=>rw[C]at D;cases D
    |some x =>grind
  ·rename_i j i s q;obtain⟨y0,hg,T⟩:=rK _ _ h;clear h;split at T
   ·rename_i E o' qn l;split at T
    ·rename_i hs;subst hs;split at T
     ·rename_i hi;obtain⟨y,Y,Z⟩:=OQ T
      refine⟨y,Y,λaf ρ a w hR u hu=>?_⟩
      obtain⟨ad,rfl,n7⟩:=hu;obtain⟨D,kL,jI⟩:=hg.ok hR.root;cases jI with
      |dX=>simp at hi
      |fy=>simp at hi
      |fJ=>simp at hi
      |aG _ _ _ _ _ _ _ _ _ ho=>omega
      | own _ _ _ _ _ b cap cs us oU hh hs hn rJ hc O=>
       rw[AI j i (aB E) kL oU]at n7;injection n7 with n7;subst n7;have oT:∀ (m:Nat) (x:Lf),(leaves (λj'=>j' :: i :: aB E :: q) j (((enc E o' l[i]).drop j).take n))[m]?=some x -> cs[i*aB E+(j+m)]?=some (us i (j+m))/\dH w w0.heap.size af ρ x (us i (j+m)):=by
        intro m x C;rw[V9]at C;cases I:(((enc E o' l[i]).drop j).take n)[m]? with
        |none=>rw[I]at C;cases C
        | some z=>
         rw[I]at C;injection C with C;have C:(bif z.aG then Lf.v z else Lf.own ((j+m)::i::aB E::q))=x:=C;obtain⟨_,CK⟩:=Jx _ _ _ _ _ I;have h3:=hc i hi _ z CK;have h4:=O i hi _ z CK;refine⟨h3,?_⟩;cases CL:z.aG with
         | true=>
          rw[CL]at C;subst C;exact⟨CL,h4.key CL⟩
         | false=>
          rw[CL]at C;have C:Lf.own ((j+m)::i::aB E::q)=x:=C;subst C;refine⟨?_,?_⟩
          ·exact h4.OF CL
          ·rw[Jr,AI _ i _ kL oU];show w.cell? _=_;rw[cell_of_row w b _ cs _ _ hh];exact h3
       refine Z w _ af ρ b (i*aB E+j) ((leaves (λj'=>j'::i::aB E::q) j (((enc E o' l[i]).drop j).take n)).mapIdx λm _=>us i (j+m)) ⟨by simp,λm x C=>?_⟩ (λm v D=>?_)
       ·simp[*]
       ·rw[List.getElem?_mapIdx]at D;cases C:(leaves (λj'=>j' :: i :: aB E :: q) j (((enc E o' l[i]).drop j).take n))[m]? with
        |none=>rw[C]at D;cases D
        | some x=>
         rw[C]at D;injection D with D;subst D;rw[cell_of_row w b _ cs _ _ hh,Nat.add_assoc];simp_all
     ·cases T
    ·cases T
   ·cases T
  ·cases h
end
def A.yB:A->aj (aa Lf)
 |.lf x=>some [x]
 |.agg xs=>some xs
 |_=>none
def Lf.live:Lf->Bool
 |.dead=>false
 |_=>true
def Lf.pl:Lf->aj V
 |.v x=>bif x.plain then some x else none
 |_=>none
def qy:aa Lf->aj (aa V)
 |[]=>some []
 | x :: xs=>match x.pl,qy xs with
  |some y,some ys=>some (y::ys)
  |_,_=>none
def v8{X:Type}(m:Nat->aj aP):aa Nat->V->((Nat->aj aP)->aj X)->aj X
 | [r],y,k=>match m r with
  |some (.sl _)=>k (bG m r (some (.sl y)))
  |_=>none
 | j :: i :: s :: q,y,k=>iZ m q λz=>match z with
  | .sl t (o+2) C l=>if s=aB t then (if h:i<l.length then (if j<aB t then (match dec t o (splice (enc t o l[i]) j [y])with
   |some e=>v8 m q (.sl t (o+2) C (l.set i e)) k
   |none=>none)else none)else none)else none
  |_=>none
 |_,_,_=>none
def oV{X:Type}(P:Program)(σ:S)(t:TypeId)(x y:A)(k:S->aj X):aj X:=
 match jg P t,y.yB with
 | some n,some xs=>if xs.length=n then (match x with
  | .aH r j=>(match σ.m r with
   |some (.ay cs)=>if j+n<=cs.length then (bif xs.all Lf.live then k ⟨σ.t,bG σ.m r (some (.ay (splice cs j xs)))⟩else none)else none
   |_=>none)
  | .ptr (j :: i :: s :: q)=>(match qy xs with
   |none=>none
   | some D=>iZ σ.m q λy=>(match y with
    | .sl C (o+2) E l=>if s=aB C then (if h:i<l.length then (if j+D.length<=aB C then (bif (((enc C o l[i]).drop j).take D.length).all V.plain then (match dec C o (splice (enc C o l[i]) j D)with
     |some e=>v8 σ.m q (.sl C (o+2) E (l.set i e)) λm=>k ⟨σ.t,m⟩
     |none=>none)else none)else none)else none)else none
    |_=>none))
  |_=>none)else none
 |_,_=>none
section
variable {P:Program} {w:World} {w0:Wd} {B N:Nat} {af:bk} {ρ:Nat->Loc} {σ:S} {a:Act} {X:Type} {r:X} {o:Oper}
def Wb{m:Nat -> aj aP}:∀ (q:aa Nat) (y:V) (k:(Nat -> aj aP) -> aj X),v8 m q y k=some r -> ∃ m',yw m q y m'/\k m'=some r
 |[],_,_,h=>by simp[v8]at h
 | [x],y,k,h=>by
  simp only[v8]at h;split at h
  next D E=>exact⟨_,.root x D y E,h⟩
  ·cases h
 | j :: i :: s :: q,y,k,h=>by
  simp only[v8]at h;obtain⟨z,I,C⟩:=rK q _ h;clear h;split at C
  ·split at C
   ·rename_i O;subst O;split at C
    ·rename_i hi;split at C
     ·rename_i T;split at C
      next e U=>obtain⟨m',Y,Z⟩:=Wb q _ k C;exact⟨m',.elem j i q _ _ _ _ y e m' I hi T U Y,Z⟩
      ·cases C
     ·cases C
    ·cases C
   ·cases C
  ·cases C
def Jy:∀ (xs:aa Lf) (C:aa V),qy xs=some C -> xs=C.map .v /\ ∀ v∈C,v.plain=true
 | [],C,h=>by
  simp[qy]at h;subst h;exact⟨rfl,by simp⟩
 | x :: xs,C,h=>by
  unfold qy at h;split at h
  ·rename_i y ys D E;injection h with h;subst h;obtain⟨I,O⟩:=Jy xs ys E;have:x = .v y/\y.plain=true:=by
    cases x with
    | v z=>
     unfold Lf.pl at D
     grind
    |own q=>cases D
    |dead=>cases D
   simp_all
  ·cases h
def agc{u:Value}(h:u.oneCell'=true):u.cells = #[u]:=by cases u<;>first|rfl|cases h
def dH.one{x:Lf}{u:Value}(h:dH w B af ρ x u)(C:x.live=true):u.oneCell'=true:=by
 cases x with
 |v z=>exact h.2.one
 | own k=>
  have:=h.1;cases u<;>first|rfl|cases this
 |dead=>cases C
def Fi{y:A}{xs:aa Lf}(h:y.yB=some xs)(D:xs.all Lf.live=true){u:Value}(C:RA w B af ρ y u):ez w B af ρ xs u.cells/\u.cells.all (·.oneCell')=true:=by
 have key:∀ us:Array Value,ez w B af ρ xs us -> us.all (·.oneCell')=true:=by
  intro us E;rw[Array.all_eq_true];intro i hi;have O:=bH (by rw[<- E.1];exact hi);obtain⟨v,I,T⟩:=E.2 i _ O;have:us[i]=v:=by rw[Array.getElem?_eq_getElem hi]at I;injection I
  rw[this];exact T.one (bN.1 D _ (dg _))
 cases y with
 | lf x=>
  injection h with h;subst h;have C:dH w B af ρ x u:=C;have U:=C.one (by simpa using D);have:ez w B af ρ [x] u.cells:=by
   rw[agc U]
   refine⟨rfl,λj y Y=>?_⟩
   grind
  simp_all
 | agg Z=>
  injection h with h;subst h;obtain⟨us,rfl,h⟩:=C;exact⟨h,key _ h⟩
 |_=>cases h
def OR(w:World)(b o:Nat)(ty:TypeId)(v:Value)(D:w.there b o v.cells.size)(hi:(P.info? ty).map (·.size)=some v.cells.size)(I:v.cells.all (·.oneCell')=true):
  (Instr.storeAt ty (.pointer (some ⟨b,o,none⟩)) v).run P w = .ok () (w.setCells b o v.cells.toList):=by
 have:=run_storeCells_cells (P:=P) b o v.cells.toList 0 w (λj C=>by simpa using (D j (by simpa using C)).1) (λj C=>by simpa using (D j (by simpa using C)).2)
  (λv O=>(Array.all_eq_true_iff_forall_mem.1 I) v (by simpa using O))
 cases E:P.info? ty with
 |none=>simp_all
 | some i=>
  have T:v.cells.size=i.size:=by simp[E]at hi;omega
  simp[Instr.storeAt,Instr.sureAddr,storeVar,sizeOf,typeInfo,E,T,this]
def Wc{t:TypeId}{x y:A}{k:S -> aj X}(h:oV P σ t x y k=some r):∃ cG,k cG=some r /\ ∀ af ρ a w,Rl w0 N af ρ σ a w -> ∀ u v,RA w w0.heap.size af ρ x u -> RA w w0.heap.size af ρ y v ->
  ∃w',(Instr.storeAt t u v).run P w = .ok () w'/\Rl w0 N af ρ cG a w':=by
 unfold oV at h;split at h
 ·rename_i n xs hn n9;split at h
  ·rename_i hlen;split at h
   ·rename_i r' j;split at h
    ·rename_i cs gj;split at h
     ·rename_i T;cases E:xs.all Lf.live with
      |false=>grind
      | true=>
       rw[E]at h
       refine⟨_,h,λaf ρ a w hR u v U Y=>?_⟩
       obtain⟨b,off,bV,rfl⟩:=U;obtain⟨hl,Z⟩:=Fi n9 E Y;obtain⟨b',AL,iK,Fj,dc⟩:=hR.Fb gj hl (by rw[hlen];exact T);rw[bV]at iK;injection iK with e1 e2;subst e1 e2;exact⟨_,OR w b (off+j) t v Fj (by rw[hl.1,hlen];exact hn) Z,dc⟩
     ·cases h
    ·cases h
   ·rename_i j i s q;split at h
    ·cases h
    ·rename_i D jJ;obtain⟨y0,hg,C⟩:=rK _ _ h;clear h;split at C
     ·rename_i t' o' qn l;split at C
      ·rename_i hs;subst hs;split at C
       ·rename_i hi;split at C
        ·rename_i T;cases hold:(((enc t' o' l[i]).drop j).take D.length).all V.plain with
         |false=>grind
         | true=>
          rw[hold,aq]at C;split at C
          ·rename_i e he;obtain⟨m',rN,h3⟩:=Wb q _ _ C
           refine⟨_,h3,λaf ρ a w hR u v U Y=>?_⟩
           obtain⟨ad,rfl,n7⟩:=U;obtain⟨I,Jz⟩:=Jy xs D jJ;have E:xs.all Lf.live=true:=by rw[I];simp[Lf.live]
           obtain⟨hl,Z⟩:=Fi n9 E Y;have AM:D.length=n:=by rw[<- hlen,I,eN]
           have q1:∀ (n':Nat) x,n'<D.length -> (enc t' o' l[i])[j+n']?=some x -> x.plain=true:=by
            intro n' x uL hx;refine bN.1 hold x (gv (i:=n') ?_);simp_all
           have q2:∀ (n':Nat) x,D[n']?=some x -> ∃ O,v.cells[n']?=some O/\RV w w0.heap.size af [] x O:=by
            intro n' x hx;obtain⟨O,uN,fo⟩:=hl.2 n' (.v x) (by rw[I,dW,hx];rfl);exact⟨O,uN,fo.2⟩
           obtain⟨b,hb,Fj,dc⟩:=hR.af7 (xs:=D) (us:=v.cells) hg hi T he q1 Jz (by rw[hl.1,I,eN]) q2 rN;rw[n7]at hb;injection hb with hb;subst hb;exact⟨_,OR w b _ t v Fj (by rw[hl.1,hlen];exact hn) Z,dc⟩
          ·cases C
        ·cases C
       ·cases C
      ·cases C
     ·cases C
   ·cases h
  ·cases h
 ·cases h
end
def CM{X:Type}(P:Program)(s:TypeId)(x:A)(f:Nat)(k:A->aj X):aj X:=
 match Fh P s f with
 |none=>none
 | some C=>match jg P C.type with
  | some (_+1)=>(match x with
   |.aH r j=>k (.aH r (j+C.offset))
   |.iX cs=>k (.iX (cs.drop C.offset))
   |.ptr (j::i::s::q)=>k (.ptr ((j+C.offset)::i::s::q))
   |_=>none)
  |_=>none
def yC{X:Type}(P:Program)(σ:S)(t:TypeId)(x i:A)(k:A->aj X):aj X:=
 match oS P t with
 |none=>none
 | some e=>match jg P e,i with
  | some n,.lf (.v (.int _ iv))=>(match x with
   |.lf (.v (.sl C g _ l))=>if n=aB C then (bif Nat.blt g 2 then (if h:0<=iv/\iv.toNat<l.length then k (.iX (enc C g (l[iv.toNat]'h.2)))else none)else none)else none
   | .lf (.own q)=>iZ σ.m q λy=>(match y with
    |.sl C g _ l=>if n=aB C then (if h:0<=iv/\iv.toNat<l.length then (bif Nat.blt g 2 then k (.iX (enc C g (l[iv.toNat]'h.2)))else k (.ptr (0::iv.toNat::aB C::q)))else none)else none
    |_=>none)
   |_=>none)
  |_,_=>none
def AN{X:Type}(P:Program)(σ:S)(t:TypeId)(x:A)(k:A->aj X):aj X:=
 match x with
 | .lf y=>n8 σ y λz=>(match z with
  |.sl _ _ _ l=>(match P.underlying t with|some (.slice _)=>k (.lf (.v (.int .i64 (l.length:Int))))|_=>none)
  |.nil=>(match P.underlying t with|some (.slice _)=>k (.lf (.v (.int .i64 0)))|_=>none)
  |.str s=>(match P.underlying t with|some .string=>k (.lf (.v (.int .i64 (s.size:Int))))|_=>none)
  |_=>none)
 |.view _ _ i j=>(match P.underlying t with|some (.slice _)=>k (.lf (.v (.int .i64 ((j-i:Nat):Int))))|_=>none)
 |_=>none
def yD:Bool×aa Lf->aj A
 |(true,cs)=>some (.agg cs)
 |(false,[y])=>some (.lf y)
 |_=>none
def AO{X:Type}(x:A)(i:Nat)(k:A->aj X):aj X:=
 match x with
 | .eO xs=>match (xs[i]?).bind yD with
  |some y=>k y
  |none=>none
 |_=>none
section
variable {P:Program} {w:World} {w0:Wd} {B N:Nat} {af:bk} {ρ:Nat->Loc} {σ:S} {a:Act} {X:Type} {r:X} {o:Oper} {w':World} {az:bk} {ρ':Nat->Loc} {d:Nat}
def agd(n:Nat){j i s:Nat}{q:aa Nat}{ad:Addr}(h:addrAt w af ρ (j :: i :: s :: q)=some ad):addrAt w af ρ ((j+n) :: i :: s :: q)=some ⟨ad.block,ad.off+n,none⟩:=by
 match q,h with
 | [r],h=>
  simp[addrAt]at h ⊢;split at h
  ·grind
  ·cases h
 | x :: y :: q,h=>
  simp[addrAt]at h ⊢;split at h
  ·grind
  ·cases h
def OS(w:World)(s:TypeId)(f:Nat)(C:Field)(n b off:Nat)(D:Fh P s f=some C)(E:jg P C.type=some (n+1)):
  (Instr.fieldAt s (.pointer (some ⟨b,off,none⟩)) f).run P w = .ok (.pointer (some ⟨b,off+C.offset,none⟩)) w:=by
 unfold Fh at D;split at D
 ·rename_i T O;unfold jg at E;cases I:P.info? C.type with
  |none=>simp_all
  | some i=>
   have hi:i.size=n+1:=by simpa [I]using E
   simp[Instr.fieldAt,gB O,D,Instr.sureAddr,fieldPlace,sizeOf,typeInfo,I,hi,Addr.add_mid]
 ·cases D
def agf{s:TypeId}{x:A}{f:Nat}{k:A -> aj X}(h:CM P s x f k=some r):∃ y,k y=some r /\ ∀ (w:World) (B:Nat) (af:bk) (ρ:Nat -> Loc) (u:Value),RA w B af ρ x u ->
  ∃v,(Instr.fieldAt s u f).run P w = .ok v w/\RA w B af ρ y v:=by
 unfold CM at h;split at h
 ·cases h
 ·rename_i D E;split at h
  ·rename_i n I;split at h
   ·rename_i Z j
    refine⟨_,h,λw B af ρ u C=>?_⟩
    obtain⟨b,off,U,rfl⟩:=C;exact⟨_,OS w s f D n b _ E I,b,off,U,by rw[Nat.add_assoc]⟩
   ·rename_i cs
    refine⟨_,h,λw B af ρ u C=>?_⟩
    obtain⟨b,off,rfl,hb,hl,hc⟩:=C
    refine⟨_,OS w s f D n b _ E I,b,_,rfl,hb,hl,λj x hx=>?_⟩
    grind
   ·rename_i j i s' q
    refine⟨_,h,λw B af ρ u C=>?_⟩
    obtain⟨ad,rfl,O⟩:=C;have Y:=agd D.offset O;obtain⟨_,_,_,_,_,_,_,T,_⟩:=AJ _ _ O;obtain⟨b,off,sp⟩:=ad;simp only at T;subst T;exact⟨_,OS w s f D n b off E I,_,rfl,Y⟩
   ·cases h
  ·cases h
def OT(w:World)(t e:TypeId)(n b off len cap:Nat)(I:IntKind)(iv:Int)(C:oS P t=some e)(D:jg P e=some n)(O:0 <= iv)(Z:iv.toNat<len):
  (Instr.indexAt t (.slice (some ⟨b,off,none⟩) len cap) (.int I iv)).run P w = .ok (.pointer (some ⟨b,off+iv.toNat*n,none⟩)) w:=by
 unfold oS at C;split at C
 ·rename_i T U;injection C with C;subst C;unfold jg at D;cases E:P.info? T with
  |none=>simp_all
  | some i=>
   have hi:i.size=n:=by simpa [E]using D
   have Y:iv<len:=by omega
   simp[Instr.indexAt,gB U,asIntOf,O,Y,sizeOf,typeInfo,E,hi,Addr.add_mid]
 ·cases C
def agh{t:TypeId}{x i:A}{k:A -> aj X}(h:yC P σ t x i k=some r):∃ y,k y=some r /\ ∀ af ρ a w,Rl w0 N af ρ σ a w -> ∀ u v,RA w w0.heap.size af ρ x u -> RA w w0.heap.size af ρ i v ->
  ∃p,(Instr.indexAt t u v).run P w = .ok p w/\RA w w0.heap.size af ρ y p:=by
 unfold yC at h;split at h
 ·cases h
 ·rename_i e Z;split at h
  ·rename_i n kk iv hn;split at h
   ·rename_i t' g qn l;split at h
    ·rename_i AP;subst AP;cases D:Nat.blt g 2 with
     |false=>grind
     | true=>
      rw[D,aq]at h;split at h
      ·rename_i hb
       refine⟨_,h,λaf ρ a w hR u v E I=>?_⟩
       obtain rfl:=I.2.gz;have uO:g<2:=by have:=cr D;omega
       cases E.2 with
       |dX=>simp at hb
       |fy=>simp at hb
       |fJ=>simp at hb
       |own=>grind
       | aG _ _ _ _ _ b off cap us ho hl JA h1 jH hc Y=>
        refine⟨_,OT w t e _ b off _ cap kk iv Z hn hb.1 hb.2,b,_,rfl,JA,hl,λj x O=>⟨oR t' g _ uO j x O,us _ j,?_,Y _ hb.2 j x O⟩⟩
        grind
      ·cases h
    ·cases h
   ·rename_i q;obtain⟨y0,D,C⟩:=rK _ _ h;clear h;split at C
    ·rename_i t' T qn l;split at C
     ·rename_i AP;subst AP;split at C
      ·rename_i hb;cases U:Nat.blt T 2 with
       | true=>
        rw[U,aq]at C;have We:T<2:=cr U
        refine⟨_,C,λaf ρ a w hR u v E I=>?_⟩
        obtain rfl:=I.2.gz;obtain⟨s8,kL,jI⟩:=D.ok hR.root;have:s8=u:=by
         have h3:=E.2;simp_all
        subst this;cases jI with
        |dX=>simp at hb
        |fy=>simp at hb
        |fJ=>simp at hb
        |own=>grind
        | aG _ _ _ _ _ b off cap us ho hl JA h1 jH hc Y=>
         refine⟨_,OT w t e _ b off _ cap kk iv Z hn hb.1 hb.2,b,_,rfl,JA,hl,λj x O=>⟨oR t' T _ We j x O,us _ j,?_,Y _ hb.2 j x O⟩⟩
         grind
       | false=>
        rw[U,av]at C;have We:¬ T<2:=λc9=>by have h9:Nat.blt T 2=true:=iF c9;rw[h9]at U;cases U
        refine⟨_,C,λaf ρ a w hR u v E I=>?_⟩
        obtain rfl:=I.2.gz;obtain⟨s8,kL,jI⟩:=D.ok hR.root;have:s8=u:=by
         have h3:=E.2;simp_all
        subst this;cases jI with
        |dX=>simp at hb
        |fy=>simp at hb
        |fJ=>simp at hb
        |aG _ _ _ _ _ _ _ _ _ ho=>omega
        | own _ _ _ _ _ b cap cs us oU hh hs uL rJ hc Y=>
         refine⟨_,OT w t e _ b 0 _ cap kk iv Z hn hb.1 hb.2,_,rfl,?_⟩;rw[AI 0 _ _ kL oU];simp
      ·cases C
     ·cases C
    ·cases C
   ·cases h
  ·cases h
def agi{t ty:TypeId}{x:A}{k:A->aj X}(h:AN P σ t x k=some r):∃ y,k y=some r/\∀ af ρ a w,Rl w0 N af ρ σ a w->∀ u,RA w w0.heap.size af ρ x u->
  ∃v,(Builtin.len_ #[t] ty #[u]).run P w = .ok v w/\RA w w0.heap.size af ρ y v:=by
 unfold AN at h;split at h
 ·rename_i y;have key:∃ z,(∀ af ρ a w,Rl w0 N af ρ σ a w->∀ u,dH w w0.heap.size af ρ y u->∃ q,RV w w0.heap.size af q z u)/\(match z with
    |.sl _ _ _ l=>(match P.underlying t with|some (.slice _)=>k (.lf (.v (.int .i64 (l.length:Int))))|_=>none)
    |.nil=>(match P.underlying t with|some (.slice _)=>k (.lf (.v (.int .i64 0)))|_=>none)
    |.str s=>(match P.underlying t with|some .string=>k (.lf (.v (.int .i64 (s.size:Int))))|_=>none)
    |_=>none)=some r:=by
   cases y with
   |v z=>exact⟨z,λaf ρ a w _ u D=>⟨[],D.2⟩,h⟩
   |dead=>cases h
   | own q=>
    obtain⟨z,O,h⟩:=rK q _ h
    refine⟨z,λaf ρ a w hR u D=>?_,h⟩
    obtain⟨v,U,I⟩:=O.ok hR.root;have T:=D.2;rw[U]at T;injection T with T;subst T;exact⟨q,I⟩
  obtain⟨z,O,C⟩:=key;clear h;split at C
  ·rename_i Y g Z l;split at C
   ·rename_i e E
    refine⟨_,C,λaf ρ a w hR u D=>?_⟩
    obtain⟨q,I⟩:=O af ρ a w hR u D;cases I with
    |dX=>exact⟨_,by simp[Builtin.len_,gB E,goInt],rfl,.int _ _ _⟩
    |fy=>exact⟨_,by simp[Builtin.len_,gB E,goInt],rfl,.int _ _ _⟩
    |fJ=>exact⟨_,by simp[Builtin.len_,gB E,goInt],rfl,.int _ _ _⟩
    |aG=>exact⟨_,by simp[Builtin.len_,gB E,goInt],rfl,.int _ _ _⟩
    |own=>exact⟨_,by simp[Builtin.len_,gB E,goInt],rfl,.int _ _ _⟩
   ·cases C
  ·split at C
   ·rename_i e E
    refine⟨_,C,λaf ρ a w hR u D=>?_⟩
    obtain⟨q,I⟩:=O af ρ a w hR u D;cases I;exact⟨_,by simp[Builtin.len_,gB E,goInt],rfl,.int _ _ _⟩
   ·cases C
  ·split at C
   ·rename_i E
    refine⟨_,C,λaf ρ a w hR u D=>?_⟩
    obtain⟨q,I⟩:=O af ρ a w hR u D;obtain rfl:=I.v5;exact⟨_,by simp[Builtin.len_,gB E,goInt],rfl,.int _ _ _⟩
   ·cases C
  ·cases C
 ·split at h
  ·rename_i e E
   refine⟨_,h,λaf ρ a w hR u D=>?_⟩
   obtain⟨A,n,c,U,h1,C,rfl⟩:=D;exact⟨_,by cases A<;>simp[sliced,Builtin.len_,gB E,goInt],rfl,.int _ _ _⟩
  ·cases h
 ·cases h
def OU{p:Bool×aa Lf}{y:A}(h:yD p=some y){u:Value}(C:RP w B af ρ p u):RA w B af ρ y u:=by
 unfold yD at h;split at h
 ·injection h with h;subst h;exact C
 ·rename_i z;injection h with h;subst h;obtain⟨D,E,I⟩:=C.2 0 z rfl;have:u=D:=by simpa using E
  subst this;exact I
 ·cases h
def agj{x:A}{i:Nat}{k:A -> aj X}(h:AO x i k=some r):∃ y,k y=some r /\ ∀ (w:World) (B:Nat) (af:bk) (ρ:Nat -> Loc) (u:Value),RA w B af ρ x u ->
  ∃v,(Instr.extract u i).run P w = .ok v w/\RA w B af ρ y v:=by
 unfold AO at h;split at h
 ·rename_i xs;split at h
  ·rename_i y C
   refine⟨y,h,λw B af ρ u E=>?_⟩
   obtain⟨us,rfl,U,I⟩:=E;cases D:xs[i]? with
   |none=>simp_all
   | some p=>
    rw[D]at C;obtain⟨v,O,T⟩:=I i p D;exact⟨v,by simp[Instr.extract,O],OU C T⟩
  ·cases h
 ·cases h
def Wf{k:aa Nat}(h:cz d k=true):[d] <:+ k:=by
 have h:k.getLast?=some d:=by simpa [cz]using h
 obtain⟨y,C⟩:=List.getLast?_eq_some_iff.1 h;simp_all
def JB{j i s:Nat}{q:aa Nat}(C:q≠[]):cz d (j :: i :: s :: q)=cz d q:=by
 cases q with
 |nil=>simp_all
 |cons x q=>simp[cz]
structure CN (w w':World) (af az:bk) (d:Nat):Prop where
 size:w.heap.size<=w'.heap.size
 block:∀b,b<w.heap.size->af b≠some [d]->w'.heap[b]?=w.heap[b]?
 OV:∀b,b<w.heap.size->az b=af b
 ne:∀b,af b≠some []
def CN.tr(C:CN w w' af az d)(D:∀ b k,af b=some k->b<w.heap.size)(E:∀ r,r≠d->ρ' r=ρ r):Tr w w' af az ρ ρ' (cz d) (λr=>Nat.beq r d):=by
 refine⟨C.size,λb hb hl=>⟨C.block b hb (by rw[hl];simp),(C.OV b hb).trans hl⟩,λb k hl I=>⟨C.block b (D b k hl) ?_,(C.OV b (D b k hl)).trans hl⟩,λr O=>E r (by rintro rfl;simp at O),λj i s x q=>JB (by simp),λb hb=>absurd hb (C.ne b)⟩
 rw[hl];intro e;injection e with e;subst e;simp[cz]at I
def RA.OW{x:A}{u:Value}(h:RA w B af ρ x u)(C:CN w w' af az d)(D:∀b k,af b=some k->b<w.heap.size)(E:∀r,r≠d->ρ' r=ρ r):RA w' B az ρ' (x.drop d) u:=h.tr (C.tr D E) (uI (λ_ h=>h) λ_=>nZ)
def dM.OW{r:Nat}(C:r≠d){x:aP}(h:dM w B af ρ r x)(D:CN w w' af az d)(E:∀b k,af b=some k->b<w.heap.size)(I:∀r,r≠d->ρ' r=ρ r):dM w' B az ρ' r (x.drop d):=h.tr (D.tr E I) (uI (λ_ h=>h) λ_=>nZ) (by simpa [cz]using C) (nZ C)
def Rl.yE{x:aP}(h:Rl w0 N af ρ σ a w)(U:w0.F d=none)(hb:iY w0 w w')(E:CN w w' af az d)(Y:∀ b k,w.heap.size <= b -> az b=some k -> b<w'.heap.size/\k≠[])(I:∀ r,r≠d -> ρ' r=ρ r)(hx:dM w' w0.heap.size az ρ' d x):
  Rl w0 N az ρ' ((σ.drop d).root d x) a w':=by
 have T:=λb k hb=>(h.cL b k hb).2.1
 refine⟨h.below.trans hb,λb k O=>?_,λr y C=>?_,λk=>(h.tmp k).OW E T I,h.size,h.defers,λr Z D=>(I r (by rintro rfl;rw[U]at D;cases D)).trans (h.fix r Z D),h.cD⟩
 ·rcases Nat.lt_or_ge b w.heap.size with c9 | n5
  ·rw[E.OV b c9]at O;have:=h.cL b k O;exact⟨this.1,Nat.lt_of_lt_of_le this.2.1 E.size,this.2.2⟩
  ·have:=Y b k n5 O;exact⟨.inl (Nat.le_trans h.below.size n5),this.1,this.2⟩
 ·by_cases D:r=d
  ·subst D;have C:(bG (σ.drop r).m r _) r=some y:=C;rw[bJ]at C;simp_all
  ·have C:(bG (σ.drop d).m d (some x)) r=some y:=C;rw[cc _ _ _ D]at C;have hb:Nat.beq r d=false:=by
    cases hb:Nat.beq r d with
    |false=>rfl
    |true=>simp_all
   simp only[S.drop,hb,av]at C;cases hm:σ.m r with
   |none=>simp_all
   | some z=>
    rw[hm]at C;injection C with C;subst C;exact(h.root r z hm).OW D E T I
end
def gC(q:Nat)(nk k:aa Nat):aa Nat:=bif cz q k then k.dropLast++nk else k
def bk.gC(af:bk)(q:Nat)(nk:aa Nat):bk:=λb=>(af b).map (Proofs.YtgjfmljpdnnihaaGreat.gC q nk)
section
variable {P:Program} {w w':World} {w0:Wd} {B N:Nat} {af az:bk} {ρ ρ':Nat->Loc} {σ:S} {a:Act} {X:Type} {d q:Nat} {nk:aa Nat}
def Wg:gC q nk [q]=nk:=by simp[gC,cz]
def agk{k:aa Nat}(h:cz q k=false):gC q nk k=k:=by simp[gC,h]
def agl{j i s:Nat}{k:aa Nat}(C:k≠[]):gC q nk (j :: i :: s :: k)=j :: i :: s :: gC q nk k:=by
 unfold gC;rw[JB C];cases cz q k with
 |false=>rfl
 | true=>
  cases k with
  |nil=>simp_all
  |cons x k=>simp
def Wh{k:aa Nat}(C:nk≠[])(D:k≠[]):gC q nk k≠[]:=by
 unfold gC;cases cz q k with
 |false=>simp_all
 |true=>simp[C]
def bk.OX{b:Nat}(h:af b=none):af.gC q nk b=none:=by simp[bk.gC,h]
def bk.Wi{b:Nat}{k:aa Nat}(h:af b=some k):af.gC q nk b=some (Proofs.YtgjfmljpdnnihaaGreat.gC q nk k):=by simp[bk.gC,h]
def bk.Wj{b:Nat}{k:aa Nat}(h:af b=some k)(C:cz q k=false):af.gC q nk b=some k:=by rw[bk.Wi h,agk C]
def RV.gC{k:aa Nat}{x:V}{v:Value}(h:RV w B af k x v)(D:∀ b,af b≠some []):RV w B (af.gC q nk) (Proofs.YtgjfmljpdnnihaaGreat.gC q nk k) x v:=
 h.map (Q:=λk C=>C=Proofs.YtgjfmljpdnnihaaGreat.gC q nk k) (dz _) (λb _ h=>⟨rfl,bk.OX h⟩) (λb k C _ hl e=>by
  subst e;exact⟨rfl,bk.Wi hl,λj i s=>(agl λe=>D b (e ▸ hl)).symm⟩) (.inr rfl)
structure Rel (q:Nat) (af az:bk):Prop where
 ne:∀b,af b≠some []
 none:∀b,af b=none->az b=Option.none
 iW:∀b k,af b=some k->cz q k=false->az b=some k
def Fk(C:∀b,af b≠some []):Rel q af (af.gC q nk):=⟨C,λ_ h=>bk.OX h,λ_ _ h D=>bk.Wj h D⟩
def Rel.tr(C:Rel q af az):Tr w w af az ρ ρ (cz q) (λ_=>false):=
 ⟨dz _,λb _ hl=>⟨rfl,C.none b hl⟩,λb k hl D=>⟨rfl,C.iW b k hl D⟩,λ_ _=>rfl,λj i s x q=>JB (by simp),λb hb=>absurd hb (C.ne b)⟩
def RV.rel(C:Rel q af az){k:aa Nat}{x:V}{v:Value}(h:RV w B af k x v)(D:cz q k=false\/x.aG=true):RV w B az k x v:=h.tr (ρ:=λ_=>.dn undef) C.tr D.symm
def agm(C:Rel q af az)(k:aa Nat)(u:Value)(D:cz q k=false)(h:cF w af ρ k=some u):cF w az ρ k=some u:=OJ C.tr k u (.inr D) (OL k) h
def ez.rel(C:Rel q af az){cs:aa Lf}{us:Array Value}(h:ez w B af ρ cs us):ez w B az ρ (cs.map (Lf.drop q)) us:=h.tr C.tr (uI (λ_ h=>h) λ_ _=>rfl)
def RA.rel(C:Rel q af az){x:A}{u:Value}(h:RA w B af ρ x u):RA w B az ρ (x.drop q) u:=h.tr C.tr (uI (λ_ h=>h) λ_ _=>rfl)
def dM.rel(C:Rel q af az){r:Nat}(D:r≠q){x:aP}(h:dM w B af ρ r x):dM w B az ρ r (x.drop q):=h.tr C.tr (uI (λ_ h=>h) λ_ _=>rfl) (by simpa [cz]using D) rfl
def Rl.v9(h:Rl w0 N af ρ σ a w):∀b,af b≠some []:=λb hb=>(h.cL b [] hb).2.2 rfl
def Rl.rel(h:Rl w0 N af ρ σ a w)(E:Rel q af az)(O:∀ b k,az b=some k -> (∃ D,af b=some D)/\k≠[]):Rl w0 N az ρ (σ.drop q) a w:=by
 refine⟨h.below,λb k T=>?_,λr x C=>?_,λk=>(h.tmp k).rel E,h.size,h.defers,h.fix,h.cD⟩
 ·obtain⟨⟨D,hl⟩,Y⟩:=O b k T;have:=h.cL b D hl;simp_all
 ·have C:(bif Nat.beq r q then none else (σ.m r).map _)=some x:=C;cases hb:Nat.beq r q with
  |true=>simp_all
  | false=>
   rw[hb]at C;have U:r≠q:=by rintro rfl;simp at hb
   cases I:σ.m r with
   |none=>simp_all
   | some y=>
    rw[I]at C;injection C with C;subst C;exact(h.root r y I).rel E U
def Rl.agn{z:V}(h:Rl w0 N af ρ σ a w)(O:σ.m q=some (.sl z))(T:nk≠[]):∃ u,ρ q = .dn u/\Rl w0 N (af.gC q nk) ρ (σ.drop q) a w/\RV w w0.heap.size (af.gC q nk) nk z u:=by
 have E:=h.v9;have I:=h.root q _ O;generalize C:aP.sl z=x at I;cases I with
 |ay=>cases C
 |mp=>cases C
 |gh=>cases C
 | sl u y U Y=>
  injection C with C;subst C
  refine⟨u,U,h.rel (Fk E) λb k D=>?_,?_⟩
  ·unfold bk.gC at D;cases hl:af b with
   |none=>simp_all
   | some Z=>
    rw[hl]at D;injection D with D;subst D;exact⟨⟨Z,rfl⟩,Wh T (λe=>E b (by rw[hl,e]))⟩
  ·have:=Y.gC (q:=q) (nk:=nk) E
   rwa [Wg]at this
def gH(r:Nat)(key:Nat->aa Nat):Nat->Nat->aa Lf->S->aj (aa V×S)
 |_,_,[],σ=>some ([],σ)
 |f+1,j,.v x::xs,σ=>(gH r key f (j+1) xs σ).map λp=>(x::p.1,p.2)
 | f+1,j,.own [q] :: xs,σ=>match σ.m q with
  |some (.sl z)=>bif Nat.beq q r then none else (gH r key f (j+1) (xs.map (Lf.drop q)) (σ.drop q)).map λp=>(z::p.1,p.2)
  |_=>none
 |_,_,_,_=>none
def JC{r:Nat}{key:Nat->aa Nat}(Y:∀ j,cz r (key j)=true):∀ (f j:Nat) (xs:aa Lf) (σ E:S) (I:aa V),gH r key f j xs σ=some (I,E)->∀ af ρ a w,Rl w0 N af ρ σ a w->∀ us:aa Value,ez w w0.heap.size af ρ xs us.toArray->
  ∃ az,Rl w0 N az ρ E a w/\I.length=xs.length/\(∀ (n:Nat) x,I[n]?=some x->∃ u,us[n]?=some u/\RV w w0.heap.size az (key (j+n)) x u)/\(∀ k x v,cz r k=true->RV w w0.heap.size af k x v->RV w w0.heap.size az k x v)/\
   (∀x,σ.m r=some (.sl x)->E.m r=some (.sl x))/\(∀k u,cz r k=true->cF w af ρ k=some u->cF w az ρ k=some u)/\(∀b,af b=some [r]->az b=some [r])/\(∀b,af b=none->az b=none)
 | 0,j,[],σ,E,I,h,af,ρ,a,w,hR,us,O=>by
  simp only[gH,ia,Prod.mk.injEq]at h;obtain⟨rfl,rfl⟩:=h;exact⟨af,hR,rfl,by simp,λ_ _ _ _ h=>h,λ_ h=>h,λ_ _ _ h=>h,λ_ h=>h,λ_ h=>h⟩
 | f+1,j,[],σ,E,I,h,af,ρ,a,w,hR,us,O=>by
  simp only[gH,ia,Prod.mk.injEq]at h;obtain⟨rfl,rfl⟩:=h;exact⟨af,hR,rfl,by simp,λ_ _ _ _ h=>h,λ_ h=>h,λ_ _ _ h=>h,λ_ h=>h,λ_ h=>h⟩
 |0,j,x::xs,σ,E,I,h,af,ρ,a,w,hR,us,O=>by simp[gH]at h
 | f+1,j,x :: xs,σ,E,I,h,af,ρ,a,w,hR,us,O=>by
  obtain⟨U,us,rfl⟩:∃ U JD,us=U :: JD:=by
   cases us with
   |nil=>have:=O.1;simp at this
   |cons U us=>exact⟨_,_,rfl⟩
  have Z:dH w w0.heap.size af ρ x U:=by
   obtain⟨u,e,h⟩:=O.2 0 x rfl;simp at e;subst e;exact h
  have kf:ez w w0.heap.size af ρ xs us.toArray:=⟨by have:=O.1;simpa using this,λn y C=>by
   obtain⟨u,e,h⟩:=O.2 (n+1) y C;exact⟨u,by simpa using e,h⟩⟩
  cases x with
  | v x=>
   simp only[gH,Option.map_eq_some_iff]at h;obtain⟨⟨OY,rO⟩,h,e⟩:=h;simp only[Prod.mk.injEq]at e;obtain⟨rfl,rfl⟩:=e;obtain⟨az,h1,h2,h3,D,h5⟩:=JC Y f (j+1) xs σ rO OY h af ρ a w hR us kf
   refine⟨az,h1,by simp[h2],λn y C=>?_,D,h5⟩
   cases n with
   | zero=>
    simp at C;subst C;refine⟨U,rfl,D _ _ _ (Y _) (Z.2.key Z.1)⟩
   | succ n=>
    obtain⟨u,e,h⟩:=h3 n y (by simpa using C);exact⟨u,by simpa using e,by rw[show j+(n+1)=j+1+n by omega];exact h⟩
  |dead=>simp[gH]at h
  | own k=>
   match k,Z,h with
   |[],_,h=>simp[gH]at h
   |_::_::_,_,h=>simp[gH]at h
   | [q],Z,h=>
    simp only[gH]at h;split at h
    ·rename_i z hz;cases OZ:Nat.beq q r with
     |true=>rw[OZ]at h;cases h
     | false=>
      rw[OZ,av,Option.map_eq_some_iff]at h;obtain⟨⟨OY,rO⟩,ago,e⟩:=h;simp only[Prod.mk.injEq]at e;obtain⟨rfl,rfl⟩:=e;have ck:q≠r:=by rintro rfl;simp at OZ
      have Wl:key j≠[]:=by intro e;have:=Y j;rw[e]at this;simp[cz]at this
      obtain⟨u,bV,dc,jI⟩:=hR.agn hz Wl;have Fl:u=U:=by
       have D:=Z.2;simp only[cF,bV]at D;injection D
      subst Fl;have nu:∀ k,cz r k=true->cz q k=false:=by
       intro k T;cases hq:cz q k with
       |false=>rfl
       | true=>
        exfalso;have h1:=Wf T;have h2:=Wf hq;exact ck (V5 h1 h2)
      obtain⟨az,h1,h2,h3,D,h5,h6,h7,h8⟩:=JC Y f (j+1) (xs.map (Lf.drop q)) (σ.drop q) rO OY ago _ ρ a w dc us (kf.rel (Fk hR.v9))
      refine⟨az,h1,by simp[h2],λn y C=>?_,λk x v T hv=>D _ _ _ T (hv.rel (Fk hR.v9) (.inl (nu k T))),λx hx=>h5 x ?_,λk v T hv=>h6 k v T (agm (Fk hR.v9) k v (nu k T) hv),λb hb=>h7 b (bk.Wj hb (by simpa [cz]using λe=>ck e.symm)),λb hb=>h8 b (bk.OX hb)⟩
      ·cases n with
       | zero=>
        simp at C;subst C;exact⟨u,rfl,D _ _ _ (Y _) jI⟩
       | succ n=>
        obtain⟨u,e,h⟩:=h3 n y (by simpa using C);exact⟨u,by simpa using e,by rw[show j+(n+1)=j+1+n by omega];exact h⟩
      ·have hb:Nat.beq r q=false:=by
        cases hb:Nat.beq r q with
        |false=>rfl
        |true=>exact absurd (cE hb).symm ck
       show (bif Nat.beq r q then none else (σ.m r).map (aP.drop q))=_;rw[hb,hx];rfl
    ·cases h
end
def nv:Value->Lf
 |.int k n=>.v (.int k n)
 |.bool b=>.v (.bool b)
 |.string s=>.v (.str s)
 |.slice none 0 0=>.v .nil
 |_=>.dead
def zeroV:Value->aj V
 |.int k n=>some (.int k n)
 |.bool b=>some (.bool b)
 |.string s=>some (.str s)
 |.slice none 0 0=>some .nil
 |_=>none
def Fm:aa Value->aj (aa V)
 |[]=>some []
 | v :: C=>match zeroV v,Fm C with
  |some x,some xs=>some (x::xs)
  |_,_=>none
def zeroOf(P:Program)(e:TypeId):aj Value:=(P.info? e).bind (·.zero)
def bytesOf(P:Program)(e:TypeId):aj Nat:=(P.info? e).map (·.bytes)
def gI{X:Type}(N:Nat)(σ:S)(d:Nat)(x:aP)(y:A)(k:S->aj X):aj X:=
 bif Nat.blt d N then k (((σ.drop d).root d x).set d y)else none
def qz{X:Type}(P:Program)(N:Nat)(σ:S)(d:Nat)(e:TypeId)(k:S->aj X):aj X:=
 match zeroOf P e with
 |some z=>gI N σ d (.ay (z.cells.toList.map nv)) (.aH d 0) k
 |none=>none
def uP(P:Program)(t:TypeId):aj (TypeId×TC):=
 match oS P t with
 |none=>none
 | some e=>match VY e,jg P e,bytesOf P e with
  |some tc,some n,some b=>bif Nat.beq n (aB tc)&&Nat.ble b 65536 then some (e,tc)else none
  |_,_,_=>none
def JE(P:Program)(e:TypeId)(tc:TC):aj (T tc):=
 match zeroOf P e with
 |none=>none
 | some z=>match Fm z.cells.toList with
  |none=>none
  |some C=>dec tc (full tc) C
def yF{X:Type}(P:Program)(N:Nat)(σ:S)(d:Nat)(t:TypeId)(l c:A)(k:S->aj X):aj X:=
 match uP P t,l,c with
 | some (e,tc),.lf (.v (.int _ n)),.lf (.v (.int _ c))=>match JE P e tc with
  |none=>none
  |some z=>if 0<=n/\n<=c/\c<1073741824 then gI N σ d (.sl (.sl tc (full tc+2) false (List.replicate n.toNat z))) (.lf (.own [d])) k else none
 |_,_,_=>none
def V.JF(t:TC):V->aj (aa (T t))
 |.sl C _ _ l=>if h:C=t then some (h ▸ l)else none
 |.nil=>some []
 |_=>none
def tj{X:Type}(P:Program)(N:Nat)(σ:S)(d:Nat)(t:TypeId)(x y:A)(k:S->aj X):aj X:=
 match uP P t with
 | some (e,tc)=>bif Nat.beq (full tc) 0&&(zeroOf P e).any (λz=>Nat.beq z.cells.size (aB tc))then rL σ y λC=>(match C.JF tc with
  |none=>none
  | some l2=>match x with
   |.lf (.v .nil)=>bif cv l2.length then gI N σ d (.sl (.sl tc 2 false l2)) (.lf (.own [d])) k else none
   | .lf (.own [r])=>(match σ.m r with
    |some (.sl (.sl D (o+2) q l))=>if h:D=tc then (bif Nat.blt d N&&(Nat.blt r N ||Nat.ble 60000 r)&&cv (l.length+l2.length)then k (((σ.drop r).root r (.sl (.sl tc (o+2) false ((h ▸ l)++l2)))).set d (.lf (.own [r])))else none)else none
    |_=>none)
   |_=>none)else none
 |none=>none
section
variable {P:Program} {w w':World} {w0:Wd} {B N:Nat} {af az:bk} {ρ ρ':Nat->Loc} {σ:S} {a:Act} {X:Type} {d:Nat} {r:X} {q:Nat} {o:Oper}
def JG(v:Value):dH w B af ρ (nv v) v:=by
 unfold nv;split
 ·exact⟨rfl,.int _ _ _⟩
 ·exact⟨rfl,.bool _ _⟩
 ·exact⟨rfl,.str _ _⟩
 ·exact⟨rfl,.nil _⟩
 ·trivial
def Wm{v:Value}{x:V}(h:zeroV v=some x)(q:aa Nat):RV w B af q x v:=by
 unfold zeroV at h;split at h<;>first|(injection h with h;subst h;first|exact .int _ _ _|exact .bool _ _|exact .str _ _|exact .nil _)|cases h
def O0:∀ (C:aa Value) (xs:aa V),Fm C=some xs -> xs.length=C.length /\ ∀ (j:Nat) x,xs[j]?=some x -> ∃ v,C[j]?=some v/\zeroV v=some x
 | [],xs,h=>by
  simp[Fm]at h;simp_all
 | v :: C,xs,h=>by
  unfold Fm at h;split at h
  ·rename_i y ys E D;injection h with h;subst h;obtain⟨I,O⟩:=O0 C ys D
   grind
  ·cases h
def iY.Wn(w0:Wd)(w:World)(o:Obj)(h:w0.heap.size<=w.heap.size):iY w0 w (w.alloc o):=.of ((Below.refl w0.heap.size w).alloc h o) (dz _)
def Rl.CO{c:Array Value}{e:TypeId}{x:aP}{ρ':Nat -> Loc}(h:Rl w0 N af ρ σ a w)(D:w0.F d=none)(E:∀ r,r≠d -> ρ' r=ρ r)
  (I:dM (w.alloc (.cells c e)) w0.heap.size (bG af w.heap.size (some [d])) ρ' d x):Rl w0 N (bG af w.heap.size (some [d])) ρ' ((σ.drop d).root d x) a (w.alloc (.cells c e)):=by
 refine h.yE D (iY.Wn w0 w _ h.below.size) ⟨by simp,λb hb _=>Below.heap_alloc w _ b hb,λb hb=>cc _ _ _ (by omega),λb hb=>(h.cL b [] hb).2.2 rfl⟩ (λb k hb C=>?_) E I
 by_cases e:b=w.heap.size
 ·subst e;rw[bJ]at C;injection C with C;subst C;simp_all
 ·rw[cc _ _ _ e]at C;have:=(h.cL b k C).2.1;omega
def oa{x:aP}{y:A}{k:S -> aj X}(h:gI N σ d x y k=some r):d<N/\k (((σ.drop d).root d x).set d y)=some r:=by
 unfold gI at h;cases C:Nat.blt d N with
 |false=>simp_all
 |true=>simp_all
def agp{e:TypeId}{k:S -> aj X}(h:qz P N σ d e k=some r):∃ E,k E=some r /\ ∀ af ρ a w,Rl w0 N af ρ σ a w -> ∃ w' az ρ' v,(Instr.alloc e true (.tuple #[])).run P w = .ok v w'/\Rl w0 N az ρ' E (a.put (some d) v) w':=by
 unfold qz at h;split at h
 ·rename_i z D;obtain⟨I,h⟩:=oa h
  refine⟨_,h,λaf ρ a w hR=>?_⟩
  have U:(Instr.alloc e true (.tuple #[])).run P w = .ok (.pointer (some ⟨w.heap.size,0,none⟩)) (w.alloc (.cells z.cells e)):=by
   unfold zeroOf at D;cases hi:P.info? e with
   |none=>simp_all
   | some i=>
    have D:i.zero=some z:=by simpa [hi]using D
    simp[Instr.alloc,zeroValue,typeInfo,hi,D,newVar,newRow]
  refine⟨_,bG af w.heap.size (some [d]),bG ρ d (.ay w.heap.size 0),_,U,(hR.CO (hR.cD d (.inl I)) (λr Y=>cc _ _ _ Y) ?_).set ⟨w.heap.size,0,bJ _ _ _,rfl⟩ I⟩
  refine .ay w.heap.size 0 z.cells e _ (λj=>z.cells.getD j undef) (bJ _ _ _) (bJ _ _ _) (heap_alloc_new w _) (by simp) λj x C=>?_
  rw[dW]at C;cases O:z.cells.toList[j]? with
  |none=>simp_all
  | some v=>
   rw[O]at C;injection C with C;subst C;have T:z.cells[j]?=some v:=by simpa using O
   have Z:z.cells.getD j undef=v:=by rw[gN,T];rfl
   rw[Z,ff];exact⟨T,JG v⟩
 ·cases h
def yG{t e:TypeId}{tc:TC}(h:uP P t=some (e,tc)):P.underlying t=some (.slice e)/\tid tc=e /\ ∃ i,P.info? e=some i/\i.size=aB tc/\i.bytes <= 65536:=by
 unfold uP at h;split at h
 ·cases h
 ·rename_i E C;split at h
  ·rename_i I n b O T hb;cases D:(Nat.beq n (aB I)&&Nat.ble b 65536)with
   |false=>simp_all
   | true=>
    rw[D,aq]at h;injection h with h;injection h with U Y;subst U Y;rw[aJ]at D;refine⟨?_,af1 O,?_⟩
    ·unfold oS at C;split at C
     ·simp_all
     ·cases C
    ·unfold jg at T;unfold bytesOf at hb;cases hi:P.info? E with
     |none=>simp_all
     |some i =>simp_all
  ·cases h
def Wo(z:Array Value)(n i j:Nat)(C:j<z.size)(h:i*z.size+j<n):(madeCells z n)[i*z.size+j]?=some z[j]:=by
 have D:(i*z.size+j) % z.size=j:=by rw[Nat.add_comm,Nat.add_mul_mod_self_right,Nat.mod_eq_of_lt C]
 simp[madeCells,Array.getElem?_map,Array.getElem?_range,h,if_true,Option.map_some,D];simp[C]
def agq{t:TypeId}{l c:A}{k:S -> aj X}(h:yF P N σ d t l c k=some r):∃ cG,k cG=some r /\ ∀ af ρ a w,Rl w0 N af ρ σ a w -> ∀ u v,RA w w0.heap.size af ρ l u -> RA w w0.heap.size af ρ c v ->
  ∃w' az ρ' x,(Instr.makeSlice t u v).run P w = .ok x w'/\Rl w0 N az ρ' cG (a.put (some d) x) w':=by
 unfold yF at h;split at h
 ·rename_i e tc kl n kc c oc;split at h
  ·cases h
  ·rename_i z D;split at h
   ·rename_i hb;obtain⟨hd,h⟩:=oa h
    refine⟨_,h,λaf ρ a w hR u v hu T=>?_⟩
    obtain rfl:=hu.2.gz;obtain rfl:=T.2.gz;obtain⟨fS,ht,i,hi,gZ,jC⟩:=yG oc;unfold JE at D;split at D
    ·cases D
    ·rename_i C CP;split at D
     ·cases D
     ·rename_i vs jJ;have od:i.zero=some C:=by unfold zeroOf at CP;simpa [hi]using CP
      obtain⟨qA,kM⟩:=O0 _ _ jJ;have U:=lz tc (full tc) vs z D;have O:C.cells.size=aB tc:=by rw[<- ke tc (full tc) z,<- U.1,qA];simp
      have Ot:(i.bytes:Int)*c <= 281474976710656:=by
       have h1:(i.bytes:Int) <= 65536:=by omega
       have h2:i.bytes*c <= 65536*c:=Int.mul_le_mul_of_nonneg_right h1 (by omega);omega
      have dV:=run_make (P:=P) w t e i C fS hi od kl kc n c hb.1 hb.2.1 Ot (by omega);rw[gZ,<- O]at dV
      refine⟨_,bG af w.heap.size (some [d]),bG ρ d (.dn (.slice (some ⟨w.heap.size,0,none⟩) n.toNat c.toNat)),_,dV,(hR.CO (hR.cD d (.inl hd)) (λr hr=>cc _ _ _ hr) ?_).set ⟨rfl,?_⟩ hd⟩
      ·refine .sl _ _ (bJ _ _ _) ?_;have hlen:(List.replicate n.toNat z).length=n.toNat:=by simp
       have:=RV.own (w:=w.alloc (.cells (madeCells C.cells (c.toNat*C.cells.size)) e)) (B:=w0.heap.size) (af:=bG af w.heap.size (some [d])) [d] tc (full tc) false (List.replicate n.toNat z) w.heap.size c.toNat (madeCells C.cells (c.toNat*C.cells.size)) (λ_ j=>C.cells.getD j undef)
        (bJ _ _ _) (by rw[ht];exact heap_alloc_new w _) (by rw[size_madeCells,O]) (by rw[hlen];omega) ⟨by unfold maxLen;omega,λh=>by cases h⟩ (λY h' j x E=>?_) (λY h' j x E=>?_)
       ·rw[hlen]at this;exact this
       ·rw[List.getElem_replicate]at E;have I:j<aB tc:=by have:=(dA.1 E).1;rwa [ke]at this
        rw[hlen]at h';rw[<- O]at I;rw[<- O,Wo C.cells _ Y j I (by
         have:(Y+1)*C.cells.size <= c.toNat*C.cells.size:=iB _ (by omega);rw[iC]at this;omega)]
        simp[gN,I]
       ·rw[List.getElem_replicate]at E;have I:j<(enc tc (full tc) z).length:=(dA.1 E).1;rw[<- U.1]at I;have Z:=bH I;generalize vs[j]=y at Z;obtain⟨v,T,O1⟩:=kM j y Z;have s8:C.cells[j]?=some v:=by simpa using T
        have hg:C.cells.getD j undef=v:=by rw[gN,s8];rfl
        rw[hg];exact(Wm O1 _).wk (U.2 j y x Z E)
      ·simp[cF,bJ]
   ·cases h
 ·cases h
def CQ(t:TC)(h:full t=0)(o C:Nat)(x:T t):enc t o x=enc t C x:=by
 have key:∀ o,enc t o x=enc t 0 x:=by
  intro o;rw[VZ t o x];have:=yp t o x h
  conv=>lhs;rw[<- List.map_id (enc t o x)]
  apply List.map_congr_left;intro y D;have E:=this y D;cases y<;>first|rfl|cases E
 simp_all
def we(u:Nat->Nat->Value)(n s:Nat):aa Value:=(List.range (n*s)).map λk=>u (k / s) (k % s)
def Wp(u:Nat -> Nat -> Value)(n s i j:Nat)(hi:i<n)(C:j<s):(we u n s)[i*s+j]?=some (u i j):=by
 have D:i*s+j<n*s:=by
  have:(i+1)*s <= n*s:=iB _ hi
  grind
 have E:(i*s+j) / s=i:=by rw[Nat.add_comm,Nat.add_mul_div_right _ _ (by omega),Nat.div_eq_of_lt C,ff]
 have I:(i*s+j) % s=j:=by rw[Nat.add_comm,Nat.add_mul_mod_self_right,Nat.mod_eq_of_lt C]
 simp[we,D,E,I]
def JH(u:Nat -> Nat -> Value)(n s k:Nat)(v:Value)(D:0<s)(h:(we u n s)[k]?=some v):∃ i j,k=i*s+j/\i<n/\j<s/\v=u i j:=by
 have C:k<n*s:=by
  have:=(dA.1 h).1
  simpa [we]using this
 refine⟨k / s,k % s,by rw[Nat.mul_comm];exact(Nat.div_add_mod k s).symm,Nat.div_lt_of_lt_mul (by rw[Nat.mul_comm];exact C),Nat.mod_lt _ D,?_⟩;simp[we,dW,List.getElem?_range C,Option.map_some,ia]at h;simp_all
def AQ(t:TC)(o:Nat)(x:T t)(j:Nat)(C:j<aB t):∃y,(enc t o x)[j]?=some y:=⟨_,bH (by rw[ke];exact C)⟩
def wg(t:TC)(l:aa (T t))(C:aa Value):Prop:=
 ∀i (hi:i<l.length) (o j:Nat) x,(enc t o l[i])[j]?=some x->∃v,C[i*aB t+j]?=some v/\v.oneCell'=true/\∀(w':World) (B':Nat) (az:bk) (D:aa Nat),RV w' B' az D x v
def RV.reads{q:aa Nat}{t:TC}{g:Nat}{qn:Bool}{l:aa (T t)}{u:Value}(h:RV w B af q (.sl t g qn l) u)(Y:full t=0):
  ∃A c news,u = .slice A l.length c/\Reads w w.heap.size (aB t) A l.length news/\(∀v∈news,v.oneCell'=true)/\wg t l news:=by
 cases h with
 |dX=>exact⟨none,0,[],rfl,Reads.none_,by simp,λi hi=>by simp at hi⟩
 |fy=>exact⟨_,_,[],rfl,⟨by simp,λh=>by simp at h⟩,by simp,λi hi=>by simp at hi⟩
 |fJ=>exact⟨_,_,[],rfl,⟨by simp,λh=>by simp at h⟩,by simp,λi hi=>by simp at hi⟩
 | aG _ _ _ _ _ b off cap us ho hl hb h1 jH hc O=>
  have U:∀ i (hi:i<l.length) j,j<aB t -> (us i j).oneCell'=true:=by
   intro i hi j C;obtain⟨y,I⟩:=AQ t g l[i] j C;exact(O i hi j y I).one
  refine⟨_,cap,we us l.length (aB t),rfl,⟨by simp[we],λhn=>⟨b,off,rfl,hb,λk v E=>?_⟩⟩,λv E=>?_,λi hi o j x D=>?_⟩
  ·obtain⟨i,j,rfl,hi,C,rfl⟩:=JH us _ _ k v (nW t) E;obtain⟨y,I⟩:=AQ t g l[i] j C;exact hc i hi j y I
  ·obtain⟨k,Z⟩:=List.mem_iff_getElem?.1 E;obtain⟨i,j,rfl,hi,C,rfl⟩:=JH us _ _ k v (nW t) Z;exact U i hi j C
  ·have C:j<aB t:=by have:=(dA.1 D).1;rwa [ke]at this
   rw[CQ t Y o g]at D
   refine⟨us i j,Wp us _ _ i j hi C,U i hi j C,λw' B' az q'=>(O i hi j x D).s9 (yp t g l[i] Y x (gv D))⟩
 | own _ _ o _ _ b cap cs us hl hh hs hn hm hc O=>
  have U:∀ i (hi:i<l.length) j,j<aB t -> (us i j).oneCell'=true:=by
   intro i hi j C;obtain⟨y,I⟩:=AQ t o l[i] j C;exact(O i hi j y I).one
  refine⟨_,cap,we us l.length (aB t),rfl,⟨by simp[we],λhn=>⟨b,0,rfl,(hU.1 hh).1,λk v E=>?_⟩⟩,λv E=>?_,λi hi o' j x D=>?_⟩
  ·obtain⟨i,j,rfl,hi,C,rfl⟩:=JH us _ _ k v (nW t) E;obtain⟨y,I⟩:=AQ t o l[i] j C;rw[ff,cell_of_row w b _ cs _ _ hh];simp_all
  ·obtain⟨k,Z⟩:=List.mem_iff_getElem?.1 E;obtain⟨i,j,rfl,hi,C,rfl⟩:=JH us _ _ k v (nW t) Z;exact U i hi j C
  ·have C:j<aB t:=by have:=(dA.1 D).1;rwa [ke]at this
   rw[CQ t Y o' o]at D
   refine⟨us i j,Wp us _ _ i j hi C,U i hi j C,λw' B' az q'=>(O i hi j x D).s9 (yp t o l[i] Y x (gv D))⟩
def RV.Wq{q:aa Nat}{t:TC}{o:Nat}{D:Bool}{l:aa (T t)}{u:Value}(h:RV w B af q (.sl t (o+2) D l) u)(E:full t=0){B':Nat}(hB:∀ b,af b=some q -> B' <= b):
  ∃xs,w.ownsRow B' (tid t) (aB t) u l.length xs/\(∀b,u.ownBlock=some b -> af b=some q)/\(D=true -> u.ownBlock≠none)/\wg t l xs:=by
 cases h with
 |fy=>omega
 |fJ=>omega
 |dX=>exact⟨[],⟨by simp,.inl ⟨rfl,rfl⟩⟩,by simp[Value.ownBlock],by simp,λi hi=>by simp at hi⟩
 |aG _ _ _ _ _ _ _ _ _ ho=>omega
 | own _ _ _ _ _ b cap cs us hl O U Y Z hc I=>
  refine⟨cs.toList.take _,⟨?_,.inr ⟨b,cap,cs,rfl,hB b hl,O,Y,Z.1,U,rfl⟩⟩,λb' wh=>?_,λ_=>by simp[Value.ownBlock],λi hi o' j x C=>?_⟩
  ·simp_all
  ·have:b=b':=by simpa [Value.ownBlock]using wh
   simp_all
  ·have hj:j<aB t:=by have:=(dA.1 C).1;rwa [ke]at this
   have c9:i*aB t+j<l.length*aB t:=by
    have:(i+1)*aB t <= l.length*aB t:=iB _ hi;rw[iC]at this;omega
   rw[CQ t E o' o]at C
   refine⟨us i j,?_,(I i hi j x C).one,λw' B' az q'=>(I i hi j x C).s9 (yp t o l[i] E x (gv C))⟩
   grind
def wg.append{t:TC}{l l2:aa (T t)}{xs ys:aa Value}(h:wg t l xs)(E:wg t l2 ys)(hl:xs.length=l.length*aB t):wg t (l++l2) (xs++ys):=by
 intro i hi o j x C;by_cases D:i<l.length
 ·rw[List.getElem_append_left D]at C;obtain⟨v,I,r⟩:=h i D o j x C
  grind
 ·rw[List.getElem_append_right (by omega)]at C;have O:i-l.length<l2.length:=by rw[List.length_append]at hi;omega
  obtain⟨v,I,r⟩:=E _ O o j x C;refine⟨v,?_,r⟩;have e:i*aB t+j=xs.length+((i-l.length)*aB t+j):=by
   rw[hl,Nat.sub_mul];have:l.length*aB t <= i*aB t:=iB _ (by omega);omega
  grind
def O2{q:aa Nat}{t:TC}{o:Nat}{l:aa (T t)}{u:Value}{xs:aa Value}{B':Nat}(h:w.ownsRow B' (tid t) (aB t) u l.length xs)(D:wg t l xs)(hl:∀ b,u.ownBlock=some b -> af b=some q):
  RV w B af q (.sl t (o+2) false l) u:=by
 rcases h.2 with ⟨rfl,E⟩|⟨b,cap,cs,rfl,hB,I,O,U,Y,ht⟩
 ·have:=List.eq_nil_of_length_eq_zero E;subst this;exact .dX _ _ _
 ·have oT:∀ i _ j x,(enc t o l[i])[j]?=some x -> ∃ v,cs[i*aB t+j]?=some v /\ ∀ w' B' az Z,RV w' B' az Z x v:=by
   intro i hi j x C;obtain⟨v,hv,_,r⟩:=D i hi o j x C
   grind
  refine .own q t o false l b cap cs (λi j=>(cs[i*aB t+j]?).getD undef) (hl b rfl) I Y O ⟨U,λh=>by cases h⟩ (λi hi j x C=>?_) (λi hi j x C=>?_)
  ·grind
  ·grind
def Rl.append{t e ty:TypeId}{tc:TC}{i:TypeInfo}{z:Value}{rr o g:Nat}{q qn:Bool}{l l2:aa (T tc)}{u v:Value}{q':aa Nat}{Bx:Nat}{O3:bk}(h:Rl w0 N af ρ σ a w)(hF:w0.F rr=none)(fS:P.underlying t=some (.slice e))(ht:tid tc=e)(hi:P.info? e=some i)(hz:i.zero=some z)
  (gZ:i.size=aB tc) (jC:i.bytes <= 65536) (mI:z.cells.size=aB tc) (hf:full tc=0) (hd:RV w w0.heap.size af [rr] (.sl tc (o+2) q l) u) (hs:RV w Bx O3 q' (.sl tc g qn l2) v) (hlen:l.length+l2.length<1073741824):
  ∃C w' az,(Builtin.append_ #[t,t] ty #[u,v]).run P w = .ok C w'/\Rl w0 N az (bG ρ rr (.dn C)) ((σ.drop rr).root rr (.sl (.sl tc (o+2) false (l++l2)))) a w'/\lW C=true:=by
 subst ht;obtain⟨xs,yH,U,Fo,ic⟩:=hd.Wq hf (B':=0) (λb _=>Nat.zero_le b);obtain⟨A,c,news,rfl,tq,oe,Fp⟩:=hs.reads hf;have gy:(l.length+l2.length)*i.bytes <= 140737488355328:=by
  have h1:(l.length+l2.length)*i.bytes <= 1073741824*65536:=Nat.mul_le_mul (by omega) jC;omega
 obtain⟨C,w',dV,I,E,ig⟩:=Oq (P:=P) w 0 t ty (tid tc) i z (aB tc) i.bytes fS hi hz gZ rfl mI (nW tc) u l.length xs yH _ A l2.length c news tq oe (by unfold maxLen;omega) gy (Nat.zero_le _);have Fq:(l++l2).length=l.length+l2.length:=List.length_append;rw[<- Fq]at I;have AR:=ic.append Fp yH.1;have fR:lW C=true:=by rcases I.2 with ⟨rfl,_⟩|⟨_,_,_,rfl,_⟩<;>rfl
 have Y:Below 0 w w':=(Below.refl 0 w).grown E (Nat.zero_le _) (λ_ _=>Nat.zero_le _);have rP:iY w0 w w':=⟨Y.os,Y.tape,Y.output,Y.size,λk D hL=>E.block k (Nat.lt_of_lt_of_le D h.below.size) (λO=>by
  rcases(h.cL k _ (U k O.symm)).1 with h1|h1
  ·exact absurd D (Nat.not_lt.2 h1)
  ·exact h1 hL)⟩
 by_cases Z:C.ownBlock=some w.heap.size
 ·have c9:w.heap.size<w'.heap.size:=by
   rcases I.2 with ⟨rfl,_⟩|⟨b,cap,cs,rfl,_,hh,_⟩
   ·cases Z
   ·have:b=w.heap.size:=by simpa [Value.ownBlock]using Z
    grind
  refine⟨C,w',bG af w.heap.size (some [rr]),dV,h.yE hF rP ⟨E.size,λb hb ck=>E.block b hb (λO=>ck (U b O.symm)),λb hb=>cc _ _ _ (by omega),λb hb=>(h.cL b [] hb).2.2 rfl⟩ (λb k hb D=>?_) (λr hr=>cc _ _ _ hr) (.sl C _ (bJ _ _ _) (O2 I AR (λb hb=>?_))),fR⟩
  ·by_cases e:b=w.heap.size
   ·subst e;rw[bJ]at D
    grind
   ·rw[cc _ _ _ e]at D;have:=(h.cL b k D).2.1;omega
  ·rw[Z]at hb;injection hb with hb;subst hb;exact bJ _ _ _
 ·have O4:C.ownBlock=u.ownBlock:=by
   rcases ig with ig|ig
   ·exact ig
   ·exact absurd ig Z
  refine⟨C,w',af,dV,h.yE hF rP ⟨E.size,λb hb ck=>E.block b hb (λO=>ck (U b O.symm)),λ_ _=>rfl,λb hb=>(h.cL b [] hb).2.2 rfl⟩ (λb k hb D=>?_) (λr hr=>cc _ _ _ hr) (.sl C _ (bJ _ _ _) (O2 I AR (λb hb=>U b (by rw[<- O4];exact hb)))),fR⟩
  have:=(h.cL b k D).2.1;omega
def O5{t:TC}{x:V}{l:aa (T t)}(h:x.JF t=some l){q:aa Nat}{u:Value}(C:RV w B af q x u):∃ g D,RV w B af q (.sl t g D l) u:=by
 unfold V.JF at h;split at h
 ·grind
 ·injection h with h;subst h;cases C;exact⟨0,false,.dX _ _ _⟩
 ·cases h
def O6{x:Lf}{k:V -> aj X}(h:n8 σ x k=some r):∃ y,(∀ af ρ a w,Rl w0 N af ρ σ a w -> ∀ u,dH w w0.heap.size af ρ x u -> ∃ q,RV w w0.heap.size af q y u)/\k y=some r:=by
 cases x with
 |v z=>exact⟨z,λaf ρ a w _ u C=>⟨[],C.2⟩,h⟩
 |dead=>cases h
 | own q=>
  obtain⟨z,D,h⟩:=rK q _ h
  refine⟨z,λaf ρ a w hR u C=>?_,h⟩
  obtain⟨v,E,I⟩:=D.ok hR.root;have O:=C.2
  grind
def Wr{y:A}{k:V -> aj X}(h:rL σ y k=some r):∃ z,(∀ af ρ a w,Rl w0 N af ρ σ a w -> ∀ u,RA w w0.heap.size af ρ y u -> ∃ q B' az,RV w B' az q z u)/\k z=some r:=by
 unfold rL at h;split at h
 ·obtain⟨z,C,D⟩:=O6 h;exact⟨z,λaf ρ a w hR u E=>let ⟨q,I⟩:=C af ρ a w hR u E;⟨q,_,_,I⟩,D⟩
 ·obtain⟨z,D,_,C⟩:=V8 h;exact⟨z,λaf ρ a w hR u E=>⟨[],0,_,C _ _ _ _ _ _ hR u E 0⟩,D⟩
 ·cases h
def agr{t ty:TypeId}{x y:A}{k:S -> aj X}(h:tj P N σ d t x y k=some r):∃ cG,k cG=some r /\ ∀ af ρ a w,Rl w0 N af ρ σ a w -> ∀ u v,RA w w0.heap.size af ρ x u -> RA w w0.heap.size af ρ y v ->
  ∃w' az ρ' z,(Builtin.append_ #[t,t] ty #[u,v]).run P w = .ok z w'/\Rl w0 N az ρ' cG (a.put (some d) z) w':=by
 unfold tj at h;split at h
 ·rename_i e tc oc;obtain⟨fS,ht,i,hi,gZ,jC⟩:=yG oc;cases T:(Nat.beq (full tc) 0&&(zeroOf P e).any (λz=>Nat.beq z.cells.size (aB tc)))with
  |false=>grind
  | true=>
   rw[T,aq]at h;rw[aJ]at T;have hf:=cE T.1;obtain⟨z,hz,U⟩:=(Option.any_eq_true _ _).1 T.2;have U:=cE U;have od:i.zero=some z:=by unfold zeroOf at hz;simpa [hi]using hz
   obtain⟨yv,JI,C⟩:=Wr (w0:=w0) (N:=N) h;clear h;split at C
   ·cases C
   ·rename_i l2 kM;split at C
    ·cases D:cv l2.length with
     |false=>grind
     | true=>
      rw[D,aq]at C;have D:l2.length<1073741824:=by simpa [cv]using D
      obtain⟨Y,h3⟩:=oa C
      refine⟨_,h3,λaf ρ a w hR u v O Z=>?_⟩
      have O:u = .slice none 0 0:=by cases O.2;rfl
      subst O;obtain⟨q',_,_,E⟩:=JI af ρ a w hR v Z;obtain⟨g,qn,E⟩:=O5 kM E;obtain⟨v',w',az,dV,dc,fR⟩:=hR.append (ty:=ty) (rr:=d) (o:=0) (q:=false) (l:=[]) (hR.cD d (.inl Y)) fS ht hi od gZ jC U hf (.dX _ _ _) E (by simpa using D);exact⟨w',az,_,v',dV,dc.set ⟨fR,by simp[cF,bJ]⟩ Y⟩
    ·rename_i rr;split at C
     ·rename_i t' o q l hm;split at C
      ·rename_i mR;subst mR;cases D:(Nat.blt d N&&(Nat.blt rr N || Nat.ble 60000 rr)&&cv (l.length+l2.length))with
       |false=>grind
       | true=>
        rw[D,aq]at C;rw[aJ,aJ,dS]at D;have Fs:l.length+l2.length<1073741824:=by simpa [cv]using D.2
        have Y:d<N:=by have:=cr D.1.1;omega
        have mQ:rr<N \/ 60000 <= rr:=D.1.2.imp (λh=>by have:=cr h;omega) (λh=>cr h)
        refine⟨_,C,λaf ρ a w hR u v O Z=>?_⟩
        obtain⟨q',_,_,E⟩:=JI af ρ a w hR v Z;obtain⟨g,qn,E⟩:=O5 kM E;have eI:=hR.root rr _ hm;generalize I:aP.sl (.sl t' (o+2) q l)=x at eI;cases eI with
        |ay=>cases I
        |mp=>cases I
        |gh=>cases I
        | sl uu y bV hr=>
         injection I with I;subst I;have Fl:uu=u:=by
          have h4:=O.2;simp only[cF,bV]at h4;simp_all
         subst Fl;obtain⟨v',w',az,dV,dc,fR⟩:=hR.append (ty:=ty) (hR.cD rr mQ) fS ht hi od gZ jC U hf hr E Fs;exact⟨w',az,_,v',dV,dc.set ⟨fR,by simp[cF,bJ]⟩ Y⟩
      ·cases C
     ·cases C
    ·cases C
 ·cases h
def Rl.Ws{t:TC}{g p:Nat}{qn:Bool}{l ys:aa (T t)}{news:aa Value}(h:Rl w0 N af ρ σ a w)(hm:σ.m q=some (.sl (.sl t (g+2) qn l)))(hf:full t=0)(hp:p+ys.length <= l.length)(nu:0<l.length)(ic:wg t ys news)(rQ:news.length=ys.length*aB t):
  ∃ b cap,ρ q = .dn (.slice (some ⟨b,0,none⟩) l.length cap)/\l.length <= cap/\(∀ n,n<news.length -> (w.cell? ⟨b,p*aB t+n,none⟩).isSome=true/\w.frozen? ⟨b,p*aB t+n,none⟩=false) /\
   Rl w0 N af ρ ⟨σ.t,bG σ.m q (some (.sl (.sl t (g+2) qn (splice l p ys))))⟩ a (w.setCells b (p*aB t) news):=by
 have eI:=h.root q _ hm;generalize U:aP.sl (.sl t (g+2) qn l)=x at eI;cases eI with
 |ay=>cases U
 |mp=>cases U
 |gh=>cases U
 | sl v y bV ij=>
  injection U with U;subst U;cases ij with
  |dX=>exact absurd nu (Nat.lt_irrefl 0)
  |fy=>exact absurd nu (Nat.lt_irrefl 0)
  |fJ=>exact absurd nu (Nat.lt_irrefl 0)
  |aG _ _ _ _ _ _ _ _ _ ho=>omega
  | own _ _ _ _ _ b cap cs u oU hh hs hn rJ hc hr=>
   have vY:(p+ys.length)*aB t <= cap*aB t:=iB _ (by omega);rw[Nat.add_mul]at vY;have lX:p*aB t+news.length <= cs.size:=by rw[rQ,hs];exact vY
   have hW:=Ju w b (p*aB t) news;obtain⟨I,gy,nq⟩:=E2 b (tid t) news (p*aB t) w cs hh lX;have ta:∀ n,I[n]?=if n<p*aB t then cs[n]? else if n<p*aB t+news.length then news[n-p*aB t]? else cs[n]?:=by
    intro n;have e2:I[n]?=(splice cs.toList (p*aB t) news)[n]?:=by
     rw[show I[n]?=I.toList[n]? by simp,nq];rfl
    rw[e2,vX _ _ _ (by simpa using lX)];simp
   have Fc:I.size=cs.size:=by
    rw[<- kW,nq];have:=s7 cs.toList (p*aB t) news (by simpa using lX);simp only[splice]at this;simp_all
   have tu:=nW t;have hC:qx w (w.setCells b (p*aB t) news) af ρ:=by
    intro k ad v ha E fR;by_cases ck:ad.block=b
    ·obtain⟨D,C,s',q',rfl,rH,af8,uK,_⟩:=AJ k ad ha;have n7:ad=⟨b,ad.off,none⟩:=by cases ad;simp_all
     rw[n7,cell_of_row w b _ cs _ _ hh]at E;rw[n7,cell_of_row _ b _ I _ _ gy,ta];by_cases Y:ad.off<p*aB t
     ·rw[aV Y];exact E
     ·by_cases h2:ad.off<p*aB t+news.length
      ·exfalso;have hk:ad.off=(ad.off / aB t)*aB t+ad.off % aB t:=by rw[Nat.mul_comm];exact(Nat.div_add_mod _ _).symm
       have c9:ad.off<l.length*aB t:=by
        have:(p+ys.length)*aB t <= l.length*aB t:=iB _ hp;rw[Nat.add_mul]at this;omega
       have hi:ad.off / aB t<l.length:=Nat.div_lt_of_lt_mul (by rw[Nat.mul_comm];exact c9);obtain⟨y,hy⟩:=AQ t g l[ad.off / aB t] (ad.off % aB t) (Nat.mod_lt _ tu);have h3:=hc _ hi _ y hy;rw[<- hk,E]at h3;injection h3 with h3;have:=(hr _ hi _ y hy).V6 (yp t g _ hf y (gv hy));rw[<- h3,fR]at this;cases this
      ·rw[aW Y,aW h2];exact E
    ·exact(World.cell?_of_block (hW.block _ ck)).trans E
   have AK:cF w af ρ [q]=some (.slice (some ⟨b,0,none⟩) l.length cap):=by simp only[cF,bV]
   refine⟨b,cap,bV,hn,λn uL=>⟨?_,frozen_of_row w b _ cs _ hh⟩,h.wrote hW oU hC ((yw.root q _ _ hm).ok h.root hW oU (List.suffix_refl _) hC AK ?_)⟩
   ·rw[cell_of_row w b _ cs _ _ hh];simp;omega
   ·have hlen:(splice l p ys).length=l.length:=s7 l p ys hp;have key:∀ C (h:C<(splice l p ys).length) (D:Nat) x,(enc t g (splice l p ys)[C])[D]?=some x -> ∃ v,I[C*aB t+D]?=some v/\RV (w.setCells b (p*aB t) news) w0.heap.size af (D :: C :: aB t :: [q]) x v:=by
     intro C h' D x Z;have rI:D<aB t:=by have:=(dA.1 Z).1;rwa [ke]at this
     have O:=bH h';generalize (splice l p ys)[C]=e at O Z;rw[vX l p ys hp]at O;have yx:=yp t g e hf x (gv Z);have old:l[C]?=some e -> ∃ v,cs[C*aB t+D]?=some v/\RV (w.setCells b (p*aB t) news) w0.heap.size af (D :: C :: aB t :: [q]) x v:=λhle=>by
      obtain⟨hi,rfl⟩:=dA.1 hle;exact⟨_,hc C hi D x Z,(hr C hi D x Z).s9 yx⟩
     by_cases Y:C<p
     ·rw[aV Y]at O;have c9:(C+1)*aB t <= p*aB t:=iB _ Y;rw[iC]at c9;rw[ta,aV];exact old O
     ·rw[aW Y]at O;by_cases h2:C<p+ys.length
      ·rw[aV h2]at O;obtain⟨hi,rfl⟩:=dA.1 O;obtain⟨v,E,_,jI⟩:=ic (C-p) hi g D x Z;have O7:(C-p)*aB t=C*aB t-p*aB t:=Nat.sub_mul _ _ _;have hle:p*aB t <= C*aB t:=iB _ (by omega);have c9:=(dA.1 E).1;refine⟨v,?_,jI _ _ _ _⟩;rw[ta,aW,aV,<- E];congr 1;omega
      ·rw[aW h2]at O;have n5:(p+ys.length)*aB t <= C*aB t:=iB _ (by omega);rw[Nat.add_mul]at n5;rw[ta,aW,aW (by rw[rQ];omega)];exact old O
    rw[<- hlen]
    refine .own [q] t g qn (splice l p ys) b cap I (λC D=>(I[C*aB t+D]?).getD undef) oU gy (Fc.trans hs) (by rw[hlen];exact hn) ⟨rJ.1,λh=>by rw[hlen];exact rJ.2 h⟩ (λC h D x lC=>?_) (λC h D x lC=>?_)
    ·obtain⟨v,E,_⟩:=key C h D x lC;rw[E];rfl
    ·obtain⟨v,E,hr⟩:=key C h D x lC;rw[E];exact hr
def Wt(b i c s:Nat):sliced (some ⟨b,0,none⟩) 0 i c s = .slice (some ⟨b,0,none⟩) i c:=by
 unfold sliced;split
 ·rfl
 ·rw[Option.map_some,Addr.add_lit];simp
def Ft{X:Type}(P:Program)(N:Nat)(σ:S)(d:Nat)(t:TypeId)(x y:A)(k:S->aj X):aj X:=
 match x,y with
 | .view [q] s 0 i,.view [D] E j m=>(match uP P t with
  | some (e,tc)=>bif Nat.beq D q&&Nat.beq s (aB tc)&&Nat.beq E (aB tc)&&Nat.beq (full tc) 0&&Nat.blt d N then (match σ.m q with
   |some (.sl (.sl C (o+2) I l))=>bif Nat.beq (full C) 0&&Nat.beq (aB C) (aB tc)then (if i<=j/\j<=m/\m<=l.length/\0<l.length then k ((σ.root q (.sl (.sl C (o+2) I (splice l i ((l.take m).drop j))))).set d (.view [q] s 0 (i+(m-j))))else none)else none
   |_=>none)else none
  |none=>none)
 |_,_=>none
def ags{t ty:TypeId}{x y:A}{k:S -> aj X}(h:Ft P N σ d t x y k=some r):∃ cG,k cG=some r /\ ∀ af ρ a w,Rl w0 N af ρ σ a w -> ∀ u v,RA w w0.heap.size af ρ x u -> RA w w0.heap.size af ρ y v ->
  ∃w' az ρ' z,(Builtin.append_ #[t,t] ty #[u,v]).run P w = .ok z w'/\Rl w0 N az ρ' cG (a.put (some d) z) w':=by
 unfold Ft at h;split at h
 ·rename_i q s i q' s' j m;split at h
  ·rename_i e tc oc;obtain⟨fS,ht,inf,hi,I,jC⟩:=yG oc;cases hc:(Nat.beq q' q&&Nat.beq s (aB tc)&&Nat.beq s' (aB tc)&&Nat.beq (full tc) 0&&Nat.blt d N)with
   |false=>grind
   | true=>
    rw[hc,aq]at h;simp only[aJ]at hc;obtain⟨⟨⟨⟨c1,c2⟩,c3⟩,c4⟩,c5⟩:=hc;obtain rfl:=cE c1;obtain rfl:=cE c2;obtain rfl:=cE c3;have hd:d<N:=by have:=cr c5;omega
    split at h
    ·rename_i O g qn l hm;cases T:(Nat.beq (full O) 0&&Nat.beq (aB O) (aB tc))with
     |false=>grind
     | true=>
      rw[T,aq]at h;rw[aJ]at T;have hf:=cE T.1;have U:=cE T.2;split at h
      ·rename_i hb;obtain⟨b1,b2,b3,b4⟩:=hb
       refine⟨_,h,λaf ρ a w hR u v hu hv=>?_⟩
       obtain⟨A,n,c,Wu,a1,a2,rfl⟩:=hu;obtain⟨A',n',c',Y,a1',a2',rfl⟩:=hv;rw[Wu]at Y;injection Y with Y;injection Y with C e2 e3;subst C e2 e3
       -- what is moved
       have eI:=hR.root q' _ hm;generalize D:aP.sl (.sl O (g+2) qn l)=x at eI;cases eI with
       |ay=>cases D
       |mp=>cases D
       |gh=>cases D
       | sl wj y bV ij=>
        injection D with D;subst D;have JJ:wj = .slice A n c:=by
         simp only[cF,bV]at Wu;simp_all
        subst JJ;have JK:RV w 0 (λ_=>none) [] (.sl O 0 qn l) (.slice A n c):=ij.fZ;have hn:n=l.length:=by cases JK<;>rfl
        obtain⟨hp,CR,wm⟩:=JK.part (a:=j) (h:=m) (by omega) b2 (by omega);obtain⟨A2,c2,news,fR,tq,oe,ic⟩:=hp.reads hf;have hlen:((l.take m).drop j).length=m-j:=by rw[List.length_drop,kG];omega
        obtain⟨b,cap,Z,jH,mS,dc⟩:=hR.Ws hm hf (p:=i) (ys:=(l.take m).drop j) (news:=news) (by rw[hlen];omega) b4 ic (by rw[hlen];exact hlen ▸ tq.1);rw[bV]at Z;injection Z with Z;injection Z with C e2 e3;subst C e2 e3;rw[hlen]at fR;have og:sliced (some ⟨b,0,none⟩) 0 i c (aB tc) = .slice (some ⟨b,0,none⟩) i c:=Wt b i c _;obtain⟨ad,wj⟩:∃ ad,sliced (some ⟨b,0,none⟩) j m c (aB tc) = .slice (some ad) (m-j) (c-j):=by
         unfold sliced;by_cases hcj:c=j
         ·grind
         ·grind
        have O8:A2=some ad:=by
         grind
        subst O8;have rQ:news.length=(m-j)*inf.size:=by rw[tq.1,hlen,I,U]
        have dV:=run_append_room_cells (P:=P) w t ty e inf fS hi b 0 i c ad (m-j) (c-j) news rQ (λk u E=>by
         have oh:=(dA.1 E).1;have tu:0<((l.take m).drop j).length:=by
          rcases Nat.eq_zero_or_pos ((l.take m).drop j).length with h0|h0
          ·grind
          ·exact h0
         obtain⟨b',AL,C,_,wo⟩:=tq.2 tu;injection C with C;subst C;rw[Addr.add_lit];exact wo k u E) oe (by omega) (λk E=>by rw[ff,I,<- U];exact(mS k E).1) (λk E=>by rw[ff,I,<- U];exact(mS k E).2)
        refine⟨_,af,ρ,_,by rw[og,wj];exact dV,?_⟩;rw[ff,I,<- U];exact dc.set ⟨some ⟨b,0,none⟩,l.length,c,by simp only[cF,bV],Nat.zero_le _,by omega,(Wt b _ c _).symm⟩ hd
      ·cases h
    ·cases h
  ·cases h
 ·cases h
def agt{t:TypeId}{x y:A}:cm λX k=>Ft (X:=X) P N σ d t x y k:=λX Y k g=>by
 unfold Ft
 repeat' first|rfl|refine cS ?_ ?_|split
def Fu{X:Type}(P:Program)(σ:S)(t:TypeId)(x:A)(k:S->aj X):aj X:=
 match x with
 | .view [q] s i j=>(match uP P t with
  | some (e,tc)=>(match JE P e tc with
   | some z=>(match σ.m q with
    |some (.sl (.sl C (o+2) D l))=>if h:tc=C then (bif Nat.beq s (aB tc)&&Nat.beq (full tc) 0 then (if i<=j/\j<=l.length then k (σ.root q (.sl (.sl C (o+2) D (splice l i (List.replicate (j-i) (h ▸ z))))))else none)else none)else none
    |_=>none)
   |none=>none)
  |none=>none)
 |_=>none
def agu{t ty:TypeId}{x:A}{k:S->aj X}(h:Fu P σ t x k=some r):∃ cG,k cG=some r/\∀ af ρ a w,Rl w0 N af ρ σ a w->∀ u,RA w w0.heap.size af ρ x u->
  ∃w',(Builtin.clear_ #[t] ty #[u]).run P w = .ok (.tuple #[]) w'/\Rl w0 N af ρ cG a w':=by
 unfold Fu at h;split at h
 ·rename_i q s i j;split at h
  ·rename_i e tc oc;obtain⟨fS,ht,inf,hi,gZ,jC⟩:=yG oc;split at h
   ·rename_i z T;split at h
    ·rename_i t' g qn l hm;split at h
     ·rename_i mR;subst mR;cases U:(Nat.beq s (aB tc)&&Nat.beq (full tc) 0)with
      |false=>rw[U]at h;cases h
      | true=>
       rw[U,aq]at h;rw[aJ]at U;obtain rfl:=cE U.1;have hf:=cE U.2;split at h
       ·rename_i hb
        refine⟨_,h,λaf ρ a w hR u hu=>?_⟩
        obtain⟨A,n,c,Y,a1,a2,rfl⟩:=hu;unfold JE at T;split at T
        ·cases T
        ·rename_i C CP;split at T
         ·cases T
         ·rename_i vs jJ;have od:inf.zero=some C:=by unfold zeroOf at CP;simpa [hi]using CP
          obtain⟨qA,kM⟩:=O0 _ _ jJ;have D:=lz tc (full tc) vs z T;have mI:C.cells.size=aB tc:=by rw[<-ke tc (full tc) z,<-D.1,qA];simp
          have hzr:∀w:World,(zeroValue e).run P w = .ok C w:=λw=>by simp[zeroValue,typeInfo,hi,od]
          rcases Nat.eq_zero_or_pos (j-i)with h0|h0
          ·have uK:splice l i (List.replicate (j-i) z)=l:=by rw[h0];simp[splice]
           refine⟨w,?_,?_⟩
           ·unfold sliced;rw[h0];cases (if c=i then A else A.map (·.add (i*aB tc)))<;>simp[Builtin.clear_,gB fS]
           ·show Rl w0 N af ρ (σ.root q (.sl (.sl tc (g+2) qn (splice l i (List.replicate (j-i) z))))) a w;rw[uK];have:σ.root q (.sl (.sl tc (g+2) qn l))=σ:=by
             unfold S.root;have:bG σ.m q (some (.sl (.sl tc (g+2) qn l)))=σ.m:=by
              funext k;by_cases D:k=q
              ·subst D;rw[bJ,hm]
              ·rw[cc _ _ _ D]
             rw[this]
            rw[this];exact hR
          ·have om:(Builtin.zeroCells C.cells (j-i))=madeCells C.cells ((j-i)*C.cells.size):=rfl;have ic:wg tc (List.replicate (j-i) z) (Builtin.zeroCells C.cells (j-i)).toList:=by
            intro i' h' o' E x I;rw[List.getElem_replicate]at I;have hj:E<aB tc:=by have:=(dA.1 I).1;rwa [ke]at this
            rw[jX]at h';have rI:=hj;rw[<-mI]at rI;have Z:(Builtin.zeroCells C.cells (j-i)).toList[i'*aB tc+E]?=some C.cells[E]:=by
             rw[om,Array.getElem?_toList,<-mI];exact Wo C.cells _ i' E rI (by
              have:(i'+1)*C.cells.size<=(j-i)*C.cells.size:=iB _ (by omega);rw[iC]at this;omega)
            rw[CQ tc hf o' (full tc)]at I;have Fv:E<(enc tc (full tc) z).length:=(dA.1 I).1;rw[<-D.1]at Fv;have hy:=bH Fv;generalize vs[E]=y at hy;obtain⟨v,hv,O1⟩:=kM E y hy;have O:C.cells[E]=v:=by
             have e1:C.cells.toList[E]?=some C.cells[E]:=by simp[rI]
             rw[e1]at hv;injection hv
            have jI:∀(w':World) (B':Nat) (az:bk) (q':aa Nat),RV w' B' az q' x v:=λw' B' az q'=>(Wm O1 _).wk (D.2 E y x hy I)
            exact⟨_,Z,by rw[O];exact(jI w 0 (λ_=>none) []).one,λw' B' az q'=>by rw[O];exact jI _ _ _ _⟩
           have rQ:(Builtin.zeroCells C.cells (j-i)).toList.length=(List.replicate (j-i) z).length*aB tc:=by rw[om,jX,kW,size_madeCells,mI]
           obtain⟨b,cap,bV,jH,Z,dc⟩:=hR.Ws hm hf (p:=i) (ys:=List.replicate (j-i) z) (by rw[jX];omega) (by omega) ic rQ;simp only[cF,bV]at Y;injection Y with Y;injection Y with e1 e2 e3;subst e1 e2 e3;refine⟨_,?_,dc⟩;have fR:sliced (some ⟨b,0,none⟩) i j cap (aB tc) = .slice (some ⟨b,i*aB tc,none⟩) (j-i) (cap-i):=by
            unfold sliced;rw[aW,Option.map_some,Addr.add_lit,ff]
           have jK:=run_storeCells_cells (P:=P) b (i*aB tc) (Builtin.zeroCells C.cells (j-i)).toList 0 w (λk D=>(Z k D).1) (λk D=>(Z k D).2) (λv hv=>by
            obtain⟨k,D⟩:=List.mem_iff_getElem?.1 hv;have oh:=(dA.1 D).1;rw[rQ,jX]at oh;have tu:=nW tc;obtain⟨x,I⟩:=AQ tc 0 z (k % aB tc) (Nat.mod_lt _ tu);have c9:k / aB tc<(List.replicate (j-i) z).length:=by rw[jX];exact Nat.div_lt_of_lt_mul (by rw[Nat.mul_comm];exact oh)
            obtain⟨v',O,oe,_⟩:=ic (k / aB tc) c9 0 (k % aB tc) x (by rw[List.getElem_replicate];exact I);rw[Nat.mul_comm,Nat.div_add_mod,D]at O;injection O with O;rw[O];exact oe)
           simp only[Nat.add_zero]at jK;rw[fR];obtain⟨n',uL⟩:∃n',j-i=n'+1:=⟨j-i-1,by omega⟩
           rw[uL]at jK ⊢;simp[Builtin.clear_,gB fS,hzr,jK]
       ·cases h
     ·cases h
    ·cases h
   ·cases h
  ·cases h
 ·cases h
def agv{t:TypeId}{x:A}:cm λX k=>Fu (X:=X) P σ t x k:=λX Y k g=>by
 unfold Fu
 repeat' first|rfl|refine cS ?_ ?_|split
end
def yI(place:Nat->aj (Nat×Nat))(cells:aa Lf):aa (Nat×A)->aj (aa Lf)
 |[]=>some cells
 | (i,x) :: rest=>match place i,x.yB with
  |some (off,n),some xs=>if xs.length=n/\off+n<=cells.length then (bif xs.all Lf.live then yI place (splice cells off xs) rest else none)else none
  |_,_=>none
def Wv(P:Program)(t:TypeId):aj (Nat->aj (Nat×Nat)):=
 match P.underlying t with
 |some (.array _ e)=>(P.info? e).map λC=>λi=>some (i*C.size,C.size)
 |some (.struct fields)=>(fields.toList.mapM (λf=>(P.info? f.type).map λi=>(f.offset,i.size))).map λps=>(ps.toArray[·]?)
 |_=>none
def CS{X:Type}(P:Program)(σ:S)(t:TypeId)(parts:aa (Nat×Operand))(k:A->aj X):aj X:=
 match zeroOf P t,Wv P t with
 | some z,some pl=>match yI pl (z.cells.toList.map nv) (parts.map λp=>(p.1,aI σ p.2))with
  |some cs=>k (.agg cs)
  |none=>none
 |_,_=>none
def Lf.asV:Lf->aj V
 |.v x=>some x
 |_=>none
def uQ:aa Lf->aj (aa V)
 |[]=>some []
 | x :: xs=>match x.asV,uQ xs with
  |some y,some ys=>some (y::ys)
  |_,_=>none
def Fw(t:TC)(g:Nat):Nat->aa V->aj (aa (T t))
 |0,[]=>some []
 |0,_=>none
 | n+1,C=>match dec t g (C.take (aB t)),Fw t g n (C.drop (aB t))with
  |some x,some xs=>some (x::xs)
  |_,_=>none
def yJ{X:Type}(P:Program)(N:Nat)(σ:S)(d:Nat)(t:TypeId)(len:Nat)(parts:aa (Nat×Operand))(k:S->aj X):aj X:=
 match uP P t with
 | some (e,tc)=>match zeroOf P e with
  | some z=>bif Nat.beq (full tc) 0&&Nat.beq z.cells.size (aB tc)&&Nat.blt (len*aB tc) 16777217 then (match yI (λi=>some (i*aB tc,aB tc)) (List.replicate len (z.cells.toList.map nv)).flatten (parts.map λp=>(p.1,aI σ p.2))with
   | some cs=>(match uQ cs with
    | some C=>(match Fw tc 0 len C with
     |some l=>gI N σ d (.sl (.sl tc 2 true l)) (.lf (.own [d])) k
     |none=>none)
    |none=>none)
   |none=>none)else none
  |none=>none
 |none=>none
section
variable {P:Program} {w w':World} {w0:Wd} {B N:Nat} {af az:bk} {ρ ρ':Nat->Loc} {σ:S} {a:Act} {X:Type} {d:Nat} {r:X}
def Ww(off:Nat):∀ (l:aa Value) (n:Nat) (cs:Array Value),off+n+l.length <= cs.size ->
  ((l.zipIdx n).foldl (λ(cs:Array Value) (p:Value×Nat)=>cs.setIfInBounds (off+p.2) p.1) cs).toList=splice cs.toList (off+n) l
 |[],n,cs,_=>by simp[splice]
 | v :: l,n,cs,h=>by
  simp at h;rw[List.zipIdx_cons,List.foldl_cons,Ww off l (n+1) _ (by simp;omega)];have C:off+n<cs.toList.length:=by simp;omega
  simp only[splice,Array.toList_setIfInBounds,List.length_cons];have D:(cs.toList.set (off+n) v).take (off+(n+1))=cs.toList.take (off+n)++[v]:=by
   rw[show off+(n+1)=off+n+1 by omega,List.take_succ_eq_append_getElem (by simpa using C),List.getElem_set_self,List.take_set_of_le (dz _)]
  have E:(cs.toList.set (off+n) v).drop (off+(n+1)+l.length)=cs.toList.drop (off+(n+1)+l.length):=by
   rw[List.drop_set_of_lt (by omega)]
  grind
def ez.splice{cs xs:aa Lf}{D E:Array Value}(h:ez w B af ρ cs D)(I:ez w B af ρ xs E){off:Nat}(O:off+xs.length <= cs.length){T:Array Value}(Y:T.toList=Proofs.YtgjfmljpdnnihaaGreat.splice D.toList off E.toList):ez w B af ρ (Proofs.YtgjfmljpdnnihaaGreat.splice cs off xs) T:=by
 have Z:off+E.toList.length <= D.toList.length:=by rw[kW,kW,I.1,h.1];exact O
 refine⟨?_,λj x C=>?_⟩
 ·rw[s7 _ _ _ O,<- kW,Y,s7 _ _ _ Z,kW,h.1]
 ·have e:T[j]?=(Proofs.YtgjfmljpdnnihaaGreat.splice D.toList off E.toList)[j]?:=by rw[<- Y,Array.getElem?_toList]
  rw[e,vX _ _ _ Z,kW,I.1];rw[vX _ _ _ O]at C;by_cases U:j<off
  ·simp[U,Array.getElem?_toList]at C ⊢;exact h.2 j x C
  ·by_cases h2:j<off+xs.length
   ·simp[U,h2,Array.getElem?_toList]at C ⊢;exact I.2 _ x C
   ·simp[U,h2,Array.getElem?_toList]at C ⊢;exact h.2 j x C
def JL{place:Nat -> aj (Nat×Nat)}:∀ (parts:aa (Nat×A)) (cells:aa Lf) (C:Array Value) (D:aa (Nat×Value)) (out:aa Lf),yI place cells parts=some out -> ez w B af ρ cells C -> D.length=parts.length ->
  (∀(j:Nat) p q,parts[j]?=some p -> D[j]?=some q -> p.1=q.1/\RA w B af ρ p.2 q.2) -> ∃E,Instr.fill place C D=some E/\ez w B af ρ out E
 | [],cells,C,D,out,h,hR,hl,I=>by
  have:D=[]:=List.eq_nil_of_length_eq_zero hl;subst this;injection h with h;subst h;exact⟨C,rfl,hR⟩
 | (i,x) :: rest,cells,C,D,out,h,hR,hl,I=>by
  cases D with
  |nil=>simp at hl
  | cons v D=>
   obtain⟨i',v⟩:=v;obtain⟨e,O⟩:=I 0 _ _ rfl rfl;simp only at e O;subst e;unfold yI at h;split at h
   ·rename_i off n xs Y Z;split at h
    ·rename_i hb;cases T:xs.all Lf.live with
     |false=>grind
     | true=>
      rw[T,aq]at h;obtain⟨U,_⟩:=Fi Z T O;have Fx:v.cells.size=n:=by rw[U.1];exact hb.1
      have lX:¬ (off+v.cells.size > C.size):=by rw[Fx,hR.1];omega
      have agw:(v.cells.zipIdx.foldl (λ(cs:Array Value) (p:Value×Nat)=>cs.setIfInBounds (off+p.2) p.1) C).toList=Proofs.YtgjfmljpdnnihaaGreat.splice C.toList off v.cells.toList:=by
       have:=Ww off v.cells.toList 0 C (by rw[kW];omega);rw[<- Array.foldl_toList,Array.toList_zipIdx];exact this
      have uK:=hR.splice U (off:=off) (by rw[hb.1];exact hb.2) agw;obtain⟨E,rM,dc⟩:=JL rest _ _ D out h uK (by simpa using hl) (λj p q Fy rH=>I (j+1) p q (by simpa using Fy) (by simpa using rH));refine⟨E,?_,dc⟩;have ck:(v.cells.size≠n || off+v.cells.size > C.size)=false:=by
       grind
      simp only[Instr.fill,Y];rw[aW (by rw[ck];simp)];exact rM
    ·cases h
   ·cases h
def agx(z:Value):ez w B af ρ (z.cells.toList.map nv) z.cells:=by
 refine⟨by simp,λj x C=>?_⟩
 rw[dW]at C;cases D:z.cells.toList[j]? with
 |none=>simp_all
 | some v=>
  rw[D]at C;injection C with C;subst C;exact⟨v,by simpa using D,JG v⟩
def agy{t:TypeId}{parts:Array (Nat×Operand)}{k:A -> aj X}(h:CS P σ t parts.toList k=some r):∃ y,k y=some r /\ ∀ af ρ a w,Rl w0 N af ρ σ a w ->
  ∃v,(Instr.build t (parts.map λ(i,x)=>(i,a.eval x))).run P w = .ok v w/\RA w w0.heap.size af ρ y v:=by
 unfold CS at h;split at h
 ·rename_i z pl E C;split at h
  ·rename_i cs gj
   refine⟨_,h,λaf ρ a w hR=>?_⟩
   obtain⟨U,Y,dc⟩:=JL (w:=w) (B:=w0.heap.size) (af:=af) (ρ:=ρ) _ _ z.cells (parts.toList.map λp=>(p.1,a.eval p.2)) cs gj (agx z) (by simp) (λj p q D I=>by
    rw[dW]at D I;cases Z:parts.toList[j]? with
    |none=>rw[Z]at D;cases D
    | some x=>
     rw[Z]at D I;injection D with D;injection I with I;subst D I;exact⟨rfl,hR.aI x.2⟩)
   refine⟨_,run_build (P:=P) w t _ U ?_,U,rfl,dc⟩;have Fz:(parts.map λ(i,x)=>(i,a.eval x)).toList=parts.toList.map λp=>(p.1,a.eval p.2):=by simp
   rw[Fz];unfold zeroOf at E;unfold Program.built;cases hi:P.info? t with
   |none=>simp[hi]at E
   | some i=>
    have E:i.zero=some z:=by simpa [hi]using E
    unfold Wv at C;split at C
    ·rename_i n e O;cases T:P.info? e with
     |none=>simp[T]at C
     | some ie=>
      rw[T]at C;injection C with C;subst C;simp[O,E,T];exact Y
    ·rename_i fields O;cases D:fields.toList.mapM (λf=>(P.info? f.type).map λi=>(f.offset,i.size))with
     |none=>rw[D]at C;cases C
     | some ps=>
      rw[D]at C;injection C with C;subst C;simp only[O,E,D];exact Y
    ·cases C
  ·cases h
 ·cases h
def JM:∀ (cs:aa Lf) (C:aa V),uQ cs=some C->cs=C.map .v
 |[],C,h=>by injection h with h;subst h;rfl
 | x :: xs,C,h=>by
  unfold uQ at h;split at h
  next y ys D E=>injection h with h;subst h;rw[JM xs ys E,List.map_cons];cases x<;>first|(injection D with D;rw[D])|cases D
  ·cases h
def O9(t:TC)(g:Nat):∀ (n:Nat) (C:aa V) (l:aa (T t)),Fw t g n C=some l -> l.length=n/\C.length=n*aB t /\ ∀ i (hi:i<l.length) (j:Nat) x,(enc t g l[i])[j]?=some x -> ∃ y,C[i*aB t+j]?=some y/\Wk y x
 | 0,[],l,h=>by
  injection h with h;subst h;exact⟨rfl,by simp,λi hi=>by simp at hi⟩
 |0,_::_,l,h=>by cases h
 | n+1,C,l,h=>by
  unfold Fw at h;split at h
  ·rename_i x xs I O;injection h with h;subst h;obtain⟨U,h2,h3⟩:=O9 t g n _ xs O;have D:=lz t g _ x I;have hlen:(C.take (aB t)).length=aB t:=by rw[D.1,ke]
   have n5:aB t <= C.length:=by rw[kG]at hlen;omega
   refine⟨by simp[U],?_,λi hi j y E=>?_⟩
   ·grind
   ·cases i with
    | zero=>
     have Y:j<aB t:=by have:=(dA.1 E).1;rwa [ke]at this
     have Z:=bH (by rw[hlen];exact Y);refine⟨_,?_,D.2 j _ y Z E⟩;simp_all
    |succ i =>grind
  ·cases h
def RV.under{k:aa Nat}{x:V}{v:Value}{n:Nat}(h:RV w B af k x v)(E:1<k.length\/x.aG=true)(I:w.heap.size<=w'.heap.size)(hb:∀ b,b<w.heap.size->af b≠some [n]->w'.heap[b]?=w.heap[b]?)(hl:∀ b,b<w.heap.size->az b=af b):RV w' B az k x v:=
 h.map (Q:=λk D=>k=D/\1<k.length) I (λb C h=>⟨hb b C (by rw[h];simp),(hl b C).trans h⟩) (λb k D C h e=>by
  obtain⟨rfl,e⟩:=e;exact⟨hb b C (by rw[h];rintro⟨⟩;simp at e),(hl b C).trans h,λ_ _ _=>⟨rfl,by simp⟩⟩) (E.symm.imp_right λh=>⟨rfl,h⟩)
def tv(w:World)(B:Nat)(af:bk)(n C:Nat)(t:TC)(o:Nat)(l:aa (T t))(D:aa Value):Prop:=
 ∀i (hi:i<l.length) j x,(enc t o l[i])[j]?=some x->∃v,D[i*aB t+j]?=some v/\RV w B af (j::(C+i)::aB t::[n]) x v
def RV.agz{n:Nat}{t:TC}{o:Nat}{C:Bool}{l:aa (T t)}{u:Value}(h:RV w B af [n] (.sl t (o+2) C l) u){B':Nat}(hB:∀ b,af b=some [n] -> B' <= b):
  ∃xs,w.ownsRow B' (tid t) (aB t) u l.length xs/\(∀b,u.ownBlock=some b -> af b=some [n])/\(C=true -> u.ownBlock≠none)/\tv w B af n 0 t o l xs:=by
 cases h with
 |fy=>omega
 |fJ=>omega
 |dX=>exact⟨[],⟨by simp,.inl ⟨rfl,rfl⟩⟩,by simp[Value.ownBlock],by simp,λi hi=>by simp at hi⟩
 |aG _ _ _ _ _ _ _ _ _ ho=>omega
 | own _ _ _ _ _ b cap cs us hl D E I O hc hr=>
  refine⟨cs.toList.take _,⟨?_,.inr ⟨b,cap,cs,rfl,hB b hl,D,I,O.1,E,rfl⟩⟩,λU Y=>?_,λ_=>by simp[Value.ownBlock],λi hi j x Z=>?_⟩
  ·simp_all
  ·have:b=U:=by simpa [Value.ownBlock]using Y
   simp_all
  ·have hj:j<aB t:=by have:=(dA.1 Z).1;rwa [ke]at this
   have c9:i*aB t+j<l.length*aB t:=by
    have:(i+1)*aB t <= l.length*aB t:=iB _ hi;rw[iC]at this;omega
   grind
def tv.append{n:Nat}{t:TC}{o:Nat}{l l2:aa (T t)}{xs ys:aa Value}(h:tv w B af n 0 t o l xs)(E:tv w B af n l.length t o l2 ys)(hl:xs.length=l.length*aB t):tv w B af n 0 t o (l++l2) (xs++ys):=by
 intro i hi j x C;by_cases D:i<l.length
 ·rw[List.getElem_append_left D]at C;obtain⟨v,I,r⟩:=h i D j x C
  grind
 ·rw[List.getElem_append_right (by omega)]at C;have O:i-l.length<l2.length:=by rw[List.length_append]at hi;omega
  obtain⟨v,I,r⟩:=E _ O j x C;refine⟨v,?_,?_⟩
  ·have e:i*aB t+j=xs.length+((i-l.length)*aB t+j):=by
    rw[ Nat.sub_mul];have:l.length*aB t <= i*aB t:=iB _ (by omega);omega
   grind
  ·grind
def tv.under{n C:Nat}{t:TC}{o:Nat}{l:aa (T t)}{D:aa Value}(h:tv w B af n C t o l D)(E:w.heap.size<=w'.heap.size)(hb:∀ b,b<w.heap.size->af b≠some [n]->w'.heap[b]?=w.heap[b]?)(hl:∀ b,b<w.heap.size->az b=af b):tv w' B az n C t o l D:=
 λi hi j x I=>let ⟨v,O,r⟩:=h i hi j x I;⟨v,O,r.under (.inl (by simp)) E hb hl⟩
def Wx{n:Nat}{t:TC}{o:Nat}{l:aa (T t)}{u:Value}{xs:aa Value}{B':Nat}(h:w.ownsRow B' (tid t) (aB t) u l.length xs)(D:tv w B af n 0 t o l xs)(hl:∀ b,u.ownBlock=some b -> af b=some [n]):
  RV w B af [n] (.sl t (o+2) false l) u:=by
 rcases h.2 with ⟨rfl,E⟩|⟨b,cap,cs,rfl,hB,I,O,U,Y,Z⟩
 ·have:=List.eq_nil_of_length_eq_zero E;subst this;exact .dX _ _ _
 ·have oT:∀ i _ j x,(enc t o l[i])[j]?=some x -> ∃ v,cs[i*aB t+j]?=some v/\RV w B af (j :: i :: aB t :: [n]) x v:=by
   intro i hi j x C;obtain⟨v,hv,r⟩:=D i hi j x C
   grind
  refine .own [n] t o false l b cap cs (λi j=>(cs[i*aB t+j]?).getD undef) (hl b rfl) I Y O ⟨U,λh=>by cases h⟩ (λi hi j x C=>?_) (λi hi j x C=>?_)
  ·grind
  ·grind
def Rl.agA{t e ty:TypeId}{tc:TC}{i:TypeInfo}{z:Value}{rr o m c:Nat}{q:Bool}{l l2:aa (T tc)}{u:Value}{ad:aj Addr}{news:aa Value}(h:Rl w0 N af ρ σ a w)(hF:w0.F rr=none)(fS:P.underlying t=some (.slice e))(ht:tid tc=e)(hi:P.info? e=some i)(hz:i.zero=some z)
  (gZ:i.size=aB tc) (jC:i.bytes <= 65536) (mI:z.cells.size=aB tc) (hd:RV w w0.heap.size af [rr] (.sl tc (o+2) q l) u) (tq:Reads w w.heap.size (aB tc) ad m news) (oe:∀v∈news,v.oneCell'=true) (hm:m=l2.length)
  (Fp:tv w w0.heap.size af rr l.length tc o l2 news) (hlen:l.length+l2.length<1073741824):
  ∃C w' az,(Builtin.append_ #[t,t] ty #[u,.slice ad m c]).run P w = .ok C w'/\Rl w0 N az (bG ρ rr (.dn C)) ((σ.drop rr).root rr (.sl (.sl tc (o+2) false (l++l2)))) a w'/\lW C=true:=by
 subst ht hm;obtain⟨xs,yH,Z,Fo,ic⟩:=hd.agz (B':=0) (λb _=>Nat.zero_le b);have gy:(l.length+l2.length)*i.bytes <= 140737488355328:=by
  have h1:(l.length+l2.length)*i.bytes <= 1073741824*65536:=Nat.mul_le_mul (by omega) jC;omega
 obtain⟨C,w',dV,I,E,ig⟩:=Oq (P:=P) w 0 t ty (tid tc) i z (aB tc) i.bytes fS hi hz gZ rfl mI (nW tc) u l.length xs yH _ ad l2.length c news tq oe (by unfold maxLen;omega) gy (Nat.zero_le _);have Fq:(l++l2).length=l.length+l2.length:=List.length_append;rw[<- Fq]at I;have AR:=ic.append Fp yH.1;have fR:lW C=true:=by rcases I.2 with ⟨rfl,_⟩|⟨_,_,_,rfl,_⟩<;>rfl
 have O:Below 0 w w':=(Below.refl 0 w).grown E (Nat.zero_le _) (λ_ _=>Nat.zero_le _);have rP:iY w0 w w':=⟨O.os,O.tape,O.output,O.size,λk D hL=>E.block k (Nat.lt_of_lt_of_le D h.below.size) (λe'=>by
  rcases(h.cL k _ (Z k e'.symm)).1 with h1|h1
  ·exact absurd D (Nat.not_lt.2 h1)
  ·exact h1 hL)⟩
 have U:∀b,b<w.heap.size -> af b≠some [rr] -> w'.heap[b]?=w.heap[b]?:=λb hb ck=>E.block b hb (λe'=>ck (Z b e'.symm))
 by_cases Y:C.ownBlock=some w.heap.size
 ·have c9:w.heap.size<w'.heap.size:=by
   rcases I.2 with ⟨rfl,_⟩|⟨b,cap,cs,rfl,_,hh,_⟩
   ·cases Y
   ·have:b=w.heap.size:=by simpa [Value.ownBlock]using Y
    grind
  have FA:∀b,b<w.heap.size -> bG af w.heap.size (some [rr]) b=af b:=λb hb=>cc _ _ _ (by omega)
  refine⟨C,w',bG af w.heap.size (some [rr]),dV,h.yE hF rP ⟨E.size,U,FA,λb hb=>(h.cL b [] hb).2.2 rfl⟩ (λb k hb D=>?_) (λr hr=>cc _ _ _ hr) (.sl C _ (bJ _ _ _) (Wx I (AR.under E.size U FA) (λb hb=>?_))),fR⟩
  ·by_cases e:b=w.heap.size
   ·subst e;rw[bJ]at D
    grind
   ·rw[cc _ _ _ e]at D;have:=(h.cL b k D).2.1;omega
  ·rw[Y]at hb;injection hb with hb;subst hb;exact bJ _ _ _
 ·have O4:C.ownBlock=u.ownBlock:=by
   rcases ig with ig|ig
   ·exact ig
   ·exact absurd ig Y
  refine⟨C,w',af,dV,h.yE hF rP ⟨E.size,U,λ_ _=>rfl,λb hb=>(h.cL b [] hb).2.2 rfl⟩ (λb k hb D=>?_) (λr hr=>cc _ _ _ hr) (.sl C _ (bJ _ _ _) (Wx I (AR.under E.size U (λ_ _=>rfl)) (λb hb=>Z b (by rw[<- O4];exact hb)))),fR⟩
  have:=(h.cL b k D).2.1;omega
end
end Go.Proofs.YtgjfmljpdnnihaaGreat
