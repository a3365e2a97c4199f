/-
  Running the program over pure contents, and that it follows (part 1). Nothing here is a claim.
-/
import Derived.Test.YtgjfmljpdnnihaaGreatAppend
import Derived.Test.YtgjfmljpdnnihaaGreatLaws
import Derived.Handy
import Derived.Great.BuildSlice
import Derived.ArgAppend
set_option linter.unusedSimpArgs false
namespace Go.Proofs.YtgjfmljpdnnihaaGreat
open Go.RowKit
set_option linter.defProp false
abbrev aa:=List
abbrev ah:=Option
abbrev aj:=Unit
def aq:=@cond_true
def dZ:=@Bool.or_eq_true
def aK:=@Bool.and_eq_true
def cH:=@Nat.eq_of_beq_eq_true
def cu:=@Nat.le_of_ble_eq_true
def gy:=@List.mem_of_getElem?
def ef:=@List.getElem?_map
def ic:=@Array.getElem?_eq_some_iff
def dH:=@Nat.le_refl
def fe:=@Nat.zero_add
def av:=@cond_false
def bS:=@List.all_eq_true
def bz:=@congrArg
def nD:=@List.any_eq_false
theorem aW.{u}{c:Prop}{h:Decidable c}(k:c:=by omega){α:Sort u}{t e:α}:ite c t e=t:=if_pos k
def eT:=@List.length_map
def gT:=@Array.getD_eq_getD_getElem?
def lu:=@Array.length_toList
theorem aX.{u}{c:Prop}{h:Decidable c}(k:¬c:=by omega){α:Sort u}{t e:α}:ite c t e=e:=if_neg k
def jb:=@List.length_set
def dI:=@List.getElem?_eq_some_iff
def bK:=@List.getElem?_eq_getElem
def jF:=@Nat.mul_le_mul_right
def vg:=@List.eq_nil_of_length_eq_zero
def fR:=@Sem.run_bind
def lU:=@Result.andThen_ok
def gF:=@run_underlying
def dc:=@List.getElem_mem
def jc:=@Nat.ble_eq_true_of_le
def ig:=@Option.some.injEq
def kL:=@List.length_take
def jX:=@List.length_replicate
def mN:=@List.length_cons
def o9:=@List.getElem?_eq_none
def cL:=@List.getD_eq_getElem?_getD
def mO:=@Bool.or_eq_false_iff
def gk:=@Bool.not_eq_true'
def gp:=@List.mem_cons
def cM:=@Bool.true_and
def lz:=@List.mem_append
def gL:=@List.mem_singleton
theorem aO.{u}{c:Prop}{h:Decidable c}(k:c:=by omega){α:Sort u}{t:c->α}{e:¬c->α}:dite c t e=t k:=dif_pos k
def gq:=@List.mem_range
def lV:=@List.getElem_range
theorem aY{p:Prop}[Decidable p](k:p:=by omega):decide p=true:=decide_eq_true k
def fq:=@decide_eq_true_eq
def bL:=@Bool.not_true
def gz:=@Int.le_refl
def rS:=@Int.tmod_eq_emod_of_nonneg
theorem bq{p:Prop}[Decidable p](k:¬p:=by omega):decide p=false:=decide_eq_false k
def bE:=@Int.toNat_natCast
def dz:=@Int.natCast_zero
def fS:=@Int.eq_ofNat_of_zero_le
def gA:=@Sum.elim_inl
def mP:=@List.take_length
def kM:=@beq_self_eq_true
def jY:=@List.mem_iff_getElem
def qN:=@List.findIdx?_eq_some_iff_getElem
def eD:=@List.length_range
def ff:=@beq_iff_eq
def qO:=@decide_eq_false_iff_not
set_option linter.unusedVariables false
set_option linter.unusedSimpArgs false
structure aH where
 bM:Int
 aE:Int
 rows:Int
 aR:Int
structure aP where
 ay:Int
 row:Int
 bZ:Int
structure qP where
 order:Int
 hash:Bool
structure aS where
 kind:Int
 ay:Int
 row:Int
 bZ:Int
structure bW where
 qQ:Int
 rp:Int
 jG:Int
 rT:Int
 om:Int
 jZ:Int
 rU:Int
 rV:Int
 mQ:Int
 wr:Int
 rW:Int
 rX:Int
 vh:Int
 tL:Int
 tM:Int
 xp:Int
 xs:Int
structure dQ where
 open_:Bool
 row:Int
structure bJ where
 aE:List dQ
 aN:Int
structure bH where
 at_:Int
 cmd:aS
structure dN where
 last:List Int
 aZ:List Int
structure cy where
 symbols:List Int
 pg:Bool
structure dj where
 cells:List cy
 bu:List Int
 bg:List Int
structure lA where
 bu:Int
 bg:Int
structure cJ where
 rows:List Int
 counts:List Int
 fh:Int
structure ke where
 cS:Int
 map:List Int
structure eB where
 aD:List Int
 wait:Int
 dJ:Bool
structure aV where
 id:Int
 dR:Int
 line:Int
 write:Bool
 data:Int
 at_:Int
structure dw where
 weight:Int
 fB:Int
structure mR where
 on:Bool
 low:Int
 high:Int
structure ij where
 state:Int
 since:Int
 idle:Int
structure wG where
 down:Int
 sleep:Int
structure cI where
 line:Int
 code:Int
 times:Int
structure tN where
 next:Int
 every:Int
 wait:Int
structure dD where
 eI:Int
 cap:Int
 dG:Int
 low:Int
 high:Int
 weights:List Int
 bF:wG
structure mS where
 bT:dD
 next:dD
 waits:Bool
structure fl where
 ak:aH
 bP:bW
 mapping:qP
 cS:Int
 interval:Int
 gU:Int
 dO:lA
structure eJ where
 id:Int
 at_:Int
 data:Int
 code:Int
structure au where
 config:fl
 box:mS
 now:Int
 aI:bJ
 ready:dN
 array:dj
 spare:ke
 aB:eB
 bB:List cJ
 guard:List Int
 pending:List aP
 queue:List aV
 shares:List dw
 drain:mR
 aN:ij
 eg:tN
 errors:List cI
 trace:List bH
 cc:List eJ
structure jr where
 kind:Int
 request:aV
 n:Int
 JS:Int
 addr:aP
 eK:dD
structure bw where
 b:List Int
 i:Int
 h:Int
inductive TC where
 |int|u8|bool|str
 |fG
 |Addr
 |vi
 |Command
 |js
 |jH
 |kN
 |Event
 |oq
 |Cell
 |Array
 |wI
 |mT
 |rY
 |mU
 |eE
 |iG
 |tO
 |Power
 |wJ
 |iP
 |vj
 |mV
 |rZ
 |Config
 |nE
 |dV
 |Act
 |r3
 |sl (t:TC)
 |Fu
 |A8 (g:Nat)
 |A9 (g:Nat)
 |Ba (g:Nat)
 |fnCommand (g:Nat)
deriving DecidableEq
def T:TC->Type
 |.int=>Int
 |.u8=>Int
 |.bool=>Bool
 |.str=>ByteArray
 |.fG=>aH
 |.Addr=>aP
 |.vi=>qP
 |.Command=>aS
 |.js=>bW
 |.jH=>dQ
 |.kN=>bJ
 |.Event=>bH
 |.oq=>dN
 |.Cell=>cy
 |.Array=>dj
 |.wI=>lA
 |.mT=>cJ
 |.rY=>ke
 |.mU=>eB
 |.eE=>aV
 |.iG=>dw
 |.tO=>mR
 |.Power=>ij
 |.wJ=>wG
 |.iP=>cI
 |.vj=>tN
 |.mV=>dD
 |.rZ=>mS
 |.Config=>fl
 |.nE=>eJ
 |.dV=>au
 |.Act=>jr
 |.r3=>bw
 |.sl t=>aa (T t)
 |.Fu=>au
 |.A8 _=>Int
 |.A9 _=>aV
 |.Ba _=>aP
 |.fnCommand _=>aS
def aC:TC->Nat
 |.Fu=>76
 |.A8 _=>3
 |.A9 _=>8
 |.Ba _=>5
 |.fnCommand _=>6
 |.fG=>4
 |.Addr=>3
 |.vi=>2
 |.Command=>4
 |.js=>17
 |.jH=>2
 |.kN=>2
 |.Event=>5
 |.oq=>2
 |.Cell=>2
 |.Array=>3
 |.wI=>2
 |.mT=>3
 |.rY=>2
 |.mU=>3
 |.eE=>6
 |.iG=>2
 |.tO=>3
 |.Power=>3
 |.wJ=>2
 |.iP=>3
 |.vj=>3
 |.mV=>8
 |.rZ=>17
 |.Config=>28
 |.nE=>4
 |.dV=>75
 |.Act=>20
 |.r3=>3
 |_=>1
def full:TC->Nat
 |.int|.u8|.bool|.str=>0
 |.fG=>0
 |.Addr=>0
 |.vi=>0
 |.Command=>0
 |.js=>0
 |.jH=>0
 |.kN=>2
 |.Event=>0
 |.oq=>2
 |.Cell=>2
 |.Array=>4
 |.wI=>0
 |.mT=>2
 |.rY=>2
 |.mU=>2
 |.eE=>0
 |.iG=>0
 |.tO=>0
 |.Power=>0
 |.wJ=>0
 |.iP=>0
 |.vj=>0
 |.mV=>2
 |.rZ=>2
 |.Config=>0
 |.nE=>0
 |.dV=>4
 |.Act=>2
 |.r3=>2
 |.sl t=>full t+2
 |.Fu=>4
 |.A8 _=>0
 |.A9 _=>0
 |.Ba _=>0
 |.fnCommand _=>0
def tid:TC->TypeId
 |.int=>3
 |.u8=>5
 |.bool=>4
 |.str=>9
 |.fG=>25
 |.Addr=>96
 |.vi=>29
 |.Command=>86
 |.js=>27
 |.jH=>130
 |.kN=>47
 |.Event=>189
 |.oq=>49
 |.Cell=>169
 |.Array=>52
 |.wI=>31
 |.mT=>116
 |.rY=>54
 |.mU=>56
 |.eE=>77
 |.iG=>172
 |.tO=>62
 |.Power=>64
 |.wJ=>36
 |.iP=>186
 |.vj=>66
 |.mV=>38
 |.rZ=>44
 |.Config=>33
 |.nE=>80
 |.dV=>71
 |.Act=>98
 |.r3=>154
 |.sl .int=>34
 |.sl .bool=>276
 |.sl .str=>0
 |_=>0
inductive V where
 |int (k:IntKind) (n:Int)
 |bool (b:Bool)
 |str (s:ByteArray)
 |nil
 |sl (t:TC) (o:Nat) (q:Bool) (l:List (T t))
def V.aU:V->ah Int|.int .i64 n=>some n|_=>none
def V.OR:V->ah Int|.int .u8 n=>some n|_=>none
def V.nG:V->ah Bool|.bool b=>some b|_=>none
def V.OS:V->ah ByteArray|.str s=>some s|_=>none
def V.fj(t:TC)(o:Nat):V->ah (aa (T t))
 |.sl D C _ l=>bif Nat.beq C o ||(Nat.ble (full t+2) C&&Nat.ble (full t+2) o)then (if h:D=t then some (h ▸ l)else none)else none
 |.nil=>some []
 |_=>none
inductive Wk:V->V->Prop
 |same (x:V):Wk x x
 |nil (t:TC) (o:Nat):Wk .nil (.sl t o false [])
 |q (t:TC) (o:Nat) (l:List (T t)):Wk (.sl t o true l) (.sl t o false l)
 |gr (t:TC) (o o':Nat) (qn:Bool) (l:List (T t)) (h:full t+2<=o) (h':full t+2<=o'):Wk (.sl t o' qn l) (.sl t o false l)
def kO(xs ys:aa V):Prop:=xs.length=ys.length/\∀(j:Nat) (x y:V),xs[j]?=some x->ys[j]?=some y->Wk x y
def kO.nil:kO [] []:=⟨rfl,by simp⟩
def kO.cons{x y:V}{xs ys:aa V}(h:Wk x y)(k:kO xs ys):kO (x :: xs) (y :: ys):=by
 refine⟨by simp[k.1],λj a b C D=>?_⟩
 cases j with
 |zero=>simp_all
 |succ j=>simp at C D;exact k.2 j a b C D
def V.agm{x:V}{n:Int}(h:x.aU=some n):Wk x (.int .i64 n):=by
 unfold V.aU at h;split at h<;>first|(injection h with h;subst h;exact .same _)|cases h
def V.agn{x:V}{n:Int}(h:x.OR=some n):Wk x (.int .u8 n):=by
 unfold V.OR at h;split at h<;>first|(injection h with h;subst h;exact .same _)|cases h
def V.ago{x:V}{n:Bool}(h:x.nG=some n):Wk x (.bool n):=by
 unfold V.nG at h;split at h<;>first|(injection h with h;subst h;exact .same _)|cases h
def V.agp{x:V}{n:ByteArray}(h:x.OS=some n):Wk x (.str n):=by
 unfold V.OS at h;split at h<;>first|(injection h with h;subst h;exact .same _)|cases h
def V.Fv{x:V}{t:TC}{o:Nat}{l:aa (T t)}(h:x.fj t o=some l):Wk x (.sl t o false l):=by
 unfold V.fj at h;split at h
 ·rename_i E C q I;cases hc:(Nat.beq C o || (Nat.ble (full t+2) C&&Nat.ble (full t+2) o))with
  |false=>simp_all
  | true=>
   rw[hc,aq]at h;split at h
   ·rename_i D;subst D;injection h with h;subst h;rw[dZ,aK]at hc;rcases hc with hc | hc
    ·obtain rfl:=cH hc;cases q
     ·exact .same _
     ·exact .q _ _ _
    ·exact .gr _ _ _ _ _ (cu hc.2) (cu hc.1)
   ·cases h
 ·injection h with h;subst h;exact .nil _ _
 ·cases h
def De(x:aP)(o:Nat):aa V:=[.int .i64 x.ay,.int .i64 x.row,.int .i64 x.bZ]
def Df(x:aS)(o:Nat):aa V:=[.int .i64 x.kind,.int .i64 x.ay,.int .i64 x.row,.int .i64 x.bZ]
def Dg(x:aV)(o:Nat):aa V:=[.int .i64 x.id,.int .i64 x.dR,.int .i64 x.line,.bool x.write,.int .i64 x.data,.int .i64 x.at_]
def Dh(x:au)(o:Nat):aa V:=[.int .i64 x.config.ak.bM,.int .i64 x.config.ak.aE,.int .i64 x.config.ak.rows,.int .i64 x.config.ak.aR,.int .i64 x.config.bP.qQ,.int .i64 x.config.bP.rp,.int .i64 x.config.bP.jG,.int .i64 x.config.bP.rT,.int .i64 x.config.bP.om,.int .i64 x.config.bP.jZ,.int .i64 x.config.bP.rU,.int .i64 x.config.bP.rV,.int .i64 x.config.bP.mQ,.int .i64 x.config.bP.wr,.int .i64 x.config.bP.rW,.int .i64 x.config.bP.rX,.int .i64 x.config.bP.vh,.int .i64 x.config.bP.tL,.int .i64 x.config.bP.tM,.int .i64 x.config.bP.xp,.int .i64 x.config.bP.xs,.int .i64 x.config.mapping.order,.bool x.config.mapping.hash,.int .i64 x.config.cS,.int .i64 x.config.interval,.int .i64 x.config.gU,.int .i64 x.config.dO.bu,.int .i64 x.config.dO.bg,.int .i64 x.box.bT.eI,.int .i64 x.box.bT.cap,.int .i64 x.box.bT.dG,.int .i64 x.box.bT.low,.int .i64 x.box.bT.high,.sl .int o false x.box.bT.weights,.int .i64 x.box.bT.bF.down,.int .i64 x.box.bT.bF.sleep,.int .i64 x.box.next.eI,.int .i64 x.box.next.cap,.int .i64 x.box.next.dG,.int .i64 x.box.next.low,.int .i64 x.box.next.high,.sl .int o false x.box.next.weights,.int .i64 x.box.next.bF.down,.int .i64 x.box.next.bF.sleep,.bool x.box.waits,.int .i64 x.now,.sl .jH o false x.aI.aE,.int .i64 x.aI.aN,.sl .int o false x.ready.last,.sl .int o false x.ready.aZ,.sl .Cell o false x.array.cells,.sl .int o false x.array.bu,.sl .int o false x.array.bg,.int .i64 x.spare.cS,.sl .int o false x.spare.map,.sl .int o false x.aB.aD,.int .i64 x.aB.wait,.bool x.aB.dJ,.sl .mT o false x.bB,.sl .int o false x.guard,.sl .Addr o false x.pending,.sl .eE o false x.queue,.sl .iG o false x.shares,.bool x.drain.on,.int .i64 x.drain.low,.int .i64 x.drain.high,.int .i64 x.aN.state,.int .i64 x.aN.since,.int .i64 x.aN.idle,.int .i64 x.eg.next,.int .i64 x.eg.every,.int .i64 x.eg.wait,.sl .iP o false x.errors,.sl .Event o false x.trace,.sl .nE o false x.cc]
def enc:(t:TC)->(o:Nat)->T t->aa V
 |.int,_,x=>[.int .i64 x]
 |.u8,_,x=>[.int .u8 x]
 |.bool,_,x=>[.bool x]
 |.str,_,x=>[.str x]
 |.fG,o,x=>[.int .i64 x.bM,.int .i64 x.aE,.int .i64 x.rows,.int .i64 x.aR]
 |.Addr,o,x=>De x o
 |.vi,o,x=>[.int .i64 x.order,.bool x.hash]
 |.Command,o,x=>Df x o
 |.js,o,x=>[.int .i64 x.qQ,.int .i64 x.rp,.int .i64 x.jG,.int .i64 x.rT,.int .i64 x.om,.int .i64 x.jZ,.int .i64 x.rU,.int .i64 x.rV,.int .i64 x.mQ,.int .i64 x.wr,.int .i64 x.rW,.int .i64 x.rX,.int .i64 x.vh,.int .i64 x.tL,.int .i64 x.tM,.int .i64 x.xp,.int .i64 x.xs]
 |.jH,o,x=>[.bool x.open_,.int .i64 x.row]
 |.kN,o,x=>[.sl .jH o false x.aE,.int .i64 x.aN]
 |.Event,o,x=>[.int .i64 x.at_,.int .i64 x.cmd.kind,.int .i64 x.cmd.ay,.int .i64 x.cmd.row,.int .i64 x.cmd.bZ]
 |.oq,o,x=>[.sl .int o false x.last,.sl .int o false x.aZ]
 |.Cell,o,x=>[.sl .int o false x.symbols,.bool x.pg]
 |.Array,o,x=>[.sl .Cell o false x.cells,.sl .int o false x.bu,.sl .int o false x.bg]
 |.wI,o,x=>[.int .i64 x.bu,.int .i64 x.bg]
 |.mT,o,x=>[.sl .int o false x.rows,.sl .int o false x.counts,.int .i64 x.fh]
 |.rY,o,x=>[.int .i64 x.cS,.sl .int o false x.map]
 |.mU,o,x=>[.sl .int o false x.aD,.int .i64 x.wait,.bool x.dJ]
 |.eE,o,x=>Dg x o
 |.iG,o,x=>[.int .i64 x.weight,.int .i64 x.fB]
 |.tO,o,x=>[.bool x.on,.int .i64 x.low,.int .i64 x.high]
 |.Power,o,x=>[.int .i64 x.state,.int .i64 x.since,.int .i64 x.idle]
 |.wJ,o,x=>[.int .i64 x.down,.int .i64 x.sleep]
 |.iP,o,x=>[.int .i64 x.line,.int .i64 x.code,.int .i64 x.times]
 |.vj,o,x=>[.int .i64 x.next,.int .i64 x.every,.int .i64 x.wait]
 |.mV,o,x=>[.int .i64 x.eI,.int .i64 x.cap,.int .i64 x.dG,.int .i64 x.low,.int .i64 x.high,.sl .int o false x.weights,.int .i64 x.bF.down,.int .i64 x.bF.sleep]
 |.rZ,o,x=>[.int .i64 x.bT.eI,.int .i64 x.bT.cap,.int .i64 x.bT.dG,.int .i64 x.bT.low,.int .i64 x.bT.high,.sl .int o false x.bT.weights,.int .i64 x.bT.bF.down,.int .i64 x.bT.bF.sleep,.int .i64 x.next.eI,.int .i64 x.next.cap,.int .i64 x.next.dG,.int .i64 x.next.low,.int .i64 x.next.high,.sl .int o false x.next.weights,.int .i64 x.next.bF.down,.int .i64 x.next.bF.sleep,.bool x.waits]
 |.Config,o,x=>[.int .i64 x.ak.bM,.int .i64 x.ak.aE,.int .i64 x.ak.rows,.int .i64 x.ak.aR,.int .i64 x.bP.qQ,.int .i64 x.bP.rp,.int .i64 x.bP.jG,.int .i64 x.bP.rT,.int .i64 x.bP.om,.int .i64 x.bP.jZ,.int .i64 x.bP.rU,.int .i64 x.bP.rV,.int .i64 x.bP.mQ,.int .i64 x.bP.wr,.int .i64 x.bP.rW,.int .i64 x.bP.rX,.int .i64 x.bP.vh,.int .i64 x.bP.tL,.int .i64 x.bP.tM,.int .i64 x.bP.xp,.int .i64 x.bP.xs,.int .i64 x.mapping.order,.bool x.mapping.hash,.int .i64 x.cS,.int .i64 x.interval,.int .i64 x.gU,.int .i64 x.dO.bu,.int .i64 x.dO.bg]
 |.nE,o,x=>[.int .i64 x.id,.int .i64 x.at_,.int .i64 x.data,.int .i64 x.code]
 |.dV,o,x=>Dh x o
 |.Act,o,x=>[.int .i64 x.kind,.int .i64 x.request.id,.int .i64 x.request.dR,.int .i64 x.request.line,.bool x.request.write,.int .i64 x.request.data,.int .i64 x.request.at_,.int .i64 x.n,.int .i64 x.JS,.int .i64 x.addr.ay,.int .i64 x.addr.row,.int .i64 x.addr.bZ,.int .i64 x.eK.eI,.int .i64 x.eK.cap,.int .i64 x.eK.dG,.int .i64 x.eK.low,.int .i64 x.eK.high,.sl .int o false x.eK.weights,.int .i64 x.eK.bF.down,.int .i64 x.eK.bF.sleep]
 |.r3,o,x=>[.sl .u8 o false x.b,.int .i64 x.i,.int .i64 x.h]
 |.sl t,o,x=>[.sl t o false x]
 |.Fu,o,x=>.bool true::Dh x o
 |.A8 g,o,x=>.bool false::.int .i64 (g:Int)::[.int .i64 x]
 |.A9 g,o,x=>.bool false::.int .i64 (g:Int)::Dg x o
 |.Ba g,o,x=>.bool false::.int .i64 (g:Int)::De x o
 |.fnCommand g,o,x=>.bool false::.int .i64 (g:Int)::Df x o
def dF{α β:Type}(g:V->ah β)(f:β->aa V->ah α):aa V->ah α
 |x::cs=>(g x).bind λy=>f y cs
 |[]=>none
def dE{α:Type}(x:α):aa V->ah α
 |[]=>some x
 |_=>none
def V.cz(b:Bool):V->ah Bool|.bool c=>bif c==b then some c else none|_=>none
def V.Di(n:Int):V->ah Int|.int .i64 m=>if m=n then some m else none|_=>none
def DQ{α:Type}(e:α->aa V)(p:aa V->aa V)(d:aa V->ah α):Prop:=∀cs x,d cs=some x->∃L,e x=p L/\kO cs L
def agq{α:Type}{e:α->aa V}{p:aa V->aa V}{x:α}(h:e x=p []):DQ e p (dE x):=λcs y C=>by
 cases cs with
 |nil=>injection C with C;subst C;exact⟨[],h,.nil⟩
 |cons=>cases C
def bind_some{α β:Type}{a:ah α}{f:α -> ah β}{b:β}(h:a.bind f=some b):∃ x,a=some x/\f x=some b:=by
 cases a with
 |none=>cases h
 |some x=>simp_all
def Bb{α β:Type}{e:α->aa V}{p:aa V->aa V}{g:V->ah β}{k:β->V}(D:∀ {x y},g x=some y->Wk x (k y)){f:β->aa V->ah α}(E:∀ y,DQ e (λL=>p (k y :: L)) (f y)):DQ e p (dF g f):=λcs x C=>by
 cases cs with
 |nil=>cases C
 | cons c cs=>
  obtain⟨y,I,O⟩:=bind_some C;obtain⟨L,T,U⟩:=E y cs x O;exact⟨k y::L,T,.cons (D I) U⟩
def V.agr{b:Bool}{x:V}{c:Bool}(h:x.cz b=some c):Wk x (.bool b):=by
 unfold V.cz at h;split at h
 next C=>cases C<;>cases b<;>first|exact .same _|cases h
 ·cases h
def V.ags{n:Int}{x:V}{c:Int}(h:x.Di n=some c):Wk x (.int .i64 n):=by
 unfold V.Di at h;split at h
 ·split at h
  next C=>subst C;exact .same _
  ·cases h
 ·cases h
abbrev Wn (o:Nat):aa V->ah aP:=dF V.aU λC=>dF V.aU λD=>dF V.aU λE=>dE ⟨C,D,E⟩
abbrev Wo (o:Nat):aa V->ah aS:=dF V.aU λC=>dF V.aU λD=>dF V.aU λE=>dF V.aU λI=>dE ⟨C,D,E,I⟩
abbrev Wp (o:Nat):aa V->ah aV:=dF V.aU λC=>dF V.aU λD=>dF V.aU λE=>dF V.nG λI=>dF V.aU λO=>dF V.aU λT=>dE ⟨C,D,E,I,O,T⟩
abbrev Wr (o:Nat):aa V->ah au:=dF V.aU λC=>dF V.aU λD=>dF V.aU λE=>dF V.aU λI=>dF V.aU λO=>dF V.aU λT=>dF V.aU λU=>dF V.aU λY=>dF V.aU λZ=>dF V.aU λx9=>dF V.aU λwK=>dF V.aU λwL=>dF V.aU λwM=>dF V.aU λwN=>dF V.aU λwO=>dF V.aU λwP=>dF V.aU λwQ=>dF V.aU λFw=>dF V.aU λFx=>dF V.aU λFy=>dF V.aU λOT=>dF V.aU λOU=>dF V.nG λOV=>dF V.aU λOW=>dF V.aU λOX=>dF V.aU λOY=>dF V.aU λOZ=>dF V.aU λO0=>dF V.aU λx28=>dF V.aU λx29=>dF V.aU λx30=>dF V.aU λx31=>dF V.aU λx32=>dF (V.fj .int o) λx33=>dF V.aU λx34=>dF V.aU λx35=>dF V.aU λx36=>dF V.aU λx37=>dF V.aU λx38=>dF V.aU λx39=>dF V.aU λx40=>dF (V.fj .int o) λx41=>dF V.aU λx42=>dF V.aU λx43=>dF V.nG λx44=>dF V.aU λx45=>dF (V.fj .jH o) λx46=>dF V.aU λx47=>dF (V.fj .int o) λx48=>dF (V.fj .int o) λx49=>dF (V.fj .Cell o) λx50=>dF (V.fj .int o) λx51=>dF (V.fj .int o) λx52=>dF V.aU λx53=>dF (V.fj .int o) λx54=>dF (V.fj .int o) λx55=>dF V.aU λx56=>dF V.nG λx57=>dF (V.fj .mT o) λx58=>dF (V.fj .int o) λx59=>dF (V.fj .Addr o) λx60=>dF (V.fj .eE o) λx61=>dF (V.fj .iG o) λx62=>dF V.nG λx63=>dF V.aU λx64=>dF V.aU λx65=>dF V.aU λx66=>dF V.aU λx67=>dF V.aU λx68=>dF V.aU λx69=>dF V.aU λx70=>dF V.aU λx71=>dF (V.fj .iP o) λx72=>dF (V.fj .Event o) λx73=>dF (V.fj .nE o) λx74=>dE ⟨⟨⟨C,D,E,I⟩,⟨O,T,U,Y,Z,x9,wK,wL,wM,wN,wO,wP,wQ,Fw,Fx,Fy,OT⟩,⟨OU,OV⟩,OW,OX,OY,⟨OZ,O0⟩⟩,⟨⟨x28,x29,x30,x31,x32,x33,⟨x34,x35⟩⟩,⟨x36,x37,x38,x39,x40,x41,⟨x42,x43⟩⟩,x44⟩,x45,⟨x46,x47⟩,⟨x48,x49⟩,⟨x50,x51,x52⟩,⟨x53,x54⟩,⟨x55,x56,x57⟩,x58,x59,x60,x61,x62,⟨x63,x64,x65⟩,⟨x66,x67,x68⟩,⟨x69,x70,x71⟩,x72,x73,x74⟩
def dec:(t:TC)->(o:Nat)->aa V->ah (T t)
 |.int,_=>dF V.aU dE
 |.u8,_=>dF V.OR dE
 |.bool,_=>dF V.nG dE
 |.str,_=>dF V.OS dE
 |.fG,o=>dF V.aU λC=>dF V.aU λD=>dF V.aU λE=>dF V.aU λI=>dE ⟨C,D,E,I⟩
 |.Addr,o=>Wn o
 |.vi,o=>dF V.aU λC=>dF V.nG λD=>dE ⟨C,D⟩
 |.Command,o=>Wo o
 |.js,o=>dF V.aU λC=>dF V.aU λD=>dF V.aU λE=>dF V.aU λI=>dF V.aU λO=>dF V.aU λU=>dF V.aU λY=>dF V.aU λZ=>dF V.aU λx8=>dF V.aU λx9=>dF V.aU λwK=>dF V.aU λwL=>dF V.aU λwM=>dF V.aU λwN=>dF V.aU λwO=>dF V.aU λwP=>dF V.aU λwQ=>dE ⟨C,D,E,I,O,U,Y,Z,x8,x9,wK,wL,wM,wN,wO,wP,wQ⟩
 |.jH,o=>dF V.nG λC=>dF V.aU λD=>dE ⟨C,D⟩
 |.kN,o=>dF (V.fj .jH o) λC=>dF V.aU λD=>dE ⟨C,D⟩
 |.Event,o=>dF V.aU λC=>dF V.aU λD=>dF V.aU λE=>dF V.aU λI=>dF V.aU λO=>dE ⟨C,⟨D,E,I,O⟩⟩
 |.oq,o=>dF (V.fj .int o) λC=>dF (V.fj .int o) λD=>dE ⟨C,D⟩
 |.Cell,o=>dF (V.fj .int o) λC=>dF V.nG λD=>dE ⟨C,D⟩
 |.Array,o=>dF (V.fj .Cell o) λC=>dF (V.fj .int o) λD=>dF (V.fj .int o) λE=>dE ⟨C,D,E⟩
 |.wI,o=>dF V.aU λC=>dF V.aU λD=>dE ⟨C,D⟩
 |.mT,o=>dF (V.fj .int o) λC=>dF (V.fj .int o) λD=>dF V.aU λE=>dE ⟨C,D,E⟩
 |.rY,o=>dF V.aU λC=>dF (V.fj .int o) λD=>dE ⟨C,D⟩
 |.mU,o=>dF (V.fj .int o) λC=>dF V.aU λD=>dF V.nG λE=>dE ⟨C,D,E⟩
 |.eE,o=>Wp o
 |.iG,o=>dF V.aU λC=>dF V.aU λD=>dE ⟨C,D⟩
 |.tO,o=>dF V.nG λC=>dF V.aU λD=>dF V.aU λE=>dE ⟨C,D,E⟩
 |.Power,o=>dF V.aU λC=>dF V.aU λD=>dF V.aU λE=>dE ⟨C,D,E⟩
 |.wJ,o=>dF V.aU λC=>dF V.aU λD=>dE ⟨C,D⟩
 |.iP,o=>dF V.aU λC=>dF V.aU λD=>dF V.aU λE=>dE ⟨C,D,E⟩
 |.vj,o=>dF V.aU λC=>dF V.aU λD=>dF V.aU λE=>dE ⟨C,D,E⟩
 |.mV,o=>dF V.aU λC=>dF V.aU λD=>dF V.aU λE=>dF V.aU λI=>dF V.aU λO=>dF (V.fj .int o) λU=>dF V.aU λY=>dF V.aU λZ=>dE ⟨C,D,E,I,O,U,⟨Y,Z⟩⟩
 |.rZ,o=>dF V.aU λC=>dF V.aU λD=>dF V.aU λE=>dF V.aU λI=>dF V.aU λO=>dF (V.fj .int o) λU=>dF V.aU λY=>dF V.aU λZ=>dF V.aU λx8=>dF V.aU λx9=>dF V.aU λwK=>dF V.aU λwL=>dF V.aU λwM=>dF (V.fj .int o) λwN=>dF V.aU λwO=>dF V.aU λwP=>dF V.nG λwQ=>dE ⟨⟨C,D,E,I,O,U,⟨Y,Z⟩⟩,⟨x8,x9,wK,wL,wM,wN,⟨wO,wP⟩⟩,wQ⟩
 |.Config,o=>dF V.aU λC=>dF V.aU λD=>dF V.aU λE=>dF V.aU λI=>dF V.aU λO=>dF V.aU λU=>dF V.aU λY=>dF V.aU λZ=>dF V.aU λx8=>dF V.aU λx9=>dF V.aU λwK=>dF V.aU λwL=>dF V.aU λwM=>dF V.aU λwN=>dF V.aU λwO=>dF V.aU λwP=>dF V.aU λwQ=>dF V.aU λFw=>dF V.aU λFx=>dF V.aU λFy=>dF V.aU λOT=>dF V.aU λOU=>dF V.nG λOV=>dF V.aU λOW=>dF V.aU λOX=>dF V.aU λOY=>dF V.aU λOZ=>dF V.aU λO0=>dE ⟨⟨C,D,E,I⟩,⟨O,U,Y,Z,x8,x9,wK,wL,wM,wN,wO,wP,wQ,Fw,Fx,Fy,OT⟩,⟨OU,OV⟩,OW,OX,OY,⟨OZ,O0⟩⟩
 |.nE,o=>dF V.aU λC=>dF V.aU λD=>dF V.aU λE=>dF V.aU λI=>dE ⟨C,D,E,I⟩
 |.dV,o=>Wr o
 |.Act,o=>dF V.aU λC=>dF V.aU λD=>dF V.aU λE=>dF V.aU λI=>dF V.nG λO=>dF V.aU λU=>dF V.aU λY=>dF V.aU λZ=>dF V.aU λx8=>dF V.aU λx9=>dF V.aU λwK=>dF V.aU λwL=>dF V.aU λwM=>dF V.aU λwN=>dF V.aU λwO=>dF V.aU λwP=>dF V.aU λwQ=>dF (V.fj .int o) λFw=>dF V.aU λFx=>dF V.aU λFy=>dE ⟨C,⟨D,E,I,O,U,Y⟩,Z,x8,⟨x9,wK,wL⟩,⟨wM,wN,wO,wP,wQ,Fw,⟨Fx,Fy⟩⟩⟩
 |.r3,o=>dF (V.fj .u8 o) λC=>dF V.aU λD=>dF V.aU λE=>dE ⟨C,D,E⟩
 |.sl t,o=>dF (V.fj t o) dE
 |.Fu,o=>dF (V.cz true) λ_=>Wr o
 |.A8 g,o=>dF (V.cz false) λ_=>dF (V.Di g) λ_=>dF V.aU dE
 |.A9 g,o=>dF (V.cz false) λ_=>dF (V.Di g) λ_=>Wp o
 |.Ba g,o=>dF (V.cz false) λ_=>dF (V.Di g) λ_=>Wn o
 |.fnCommand g,o=>dF (V.cz false) λ_=>dF (V.Di g) λ_=>Wo o
def Ws:TC->Nat->aa V
 |.dV,o=>Dh ⟨⟨⟨0,0,0,0⟩,⟨0,0,0,0,0,0,0,0,0,0,0,0,0,0,0,0,0⟩,⟨0,false⟩,0,0,0,⟨0,0⟩⟩,⟨⟨0,0,0,0,0,[],⟨0,0⟩⟩,⟨0,0,0,0,0,[],⟨0,0⟩⟩,false⟩,0,⟨[],0⟩,⟨[],[]⟩,⟨[],[],[]⟩,⟨0,[]⟩,⟨[],0,false⟩,[],[],[],[],[],⟨false,0,0⟩,⟨0,0,0⟩,⟨0,0,0⟩,[],[],[]⟩ o
 |_,_=>[]
def kf(t:TC)(o:Nat)(x:T t):(enc t o x).length=aC t:=by cases t<;>rfl
def ot(t:TC):0<aC t:=by cases t<;>simp[aC]
def agt(t:TC)(o:Nat):DQ (enc t o) id (dec t o):=by
 cases t<;>dsimp only[dec]<;>(repeat' first|exact agq rfl|refine Bb V.agm λ_=>?_|refine Bb V.ago λ_=>?_|refine Bb V.Fv λ_=>?_|refine Bb V.agp λ_=>?_|refine Bb V.agn λ_=>?_|refine Bb V.agr λ_=>?_|refine Bb V.ags λ_=>?_)
def lC(t:TC)(o:Nat)(cs:aa V)(x:T t)(h:dec t o cs=some x):kO cs (enc t o x):=by
 obtain⟨L,C,D⟩:=agt t o cs x h;rw[C];exact D
def V.low(n:Nat):V->Bool
 |.sl t _ _ _=>Nat.ble (full t+2) n
 |_=>true
def JT(t:TC)(o:Nat)(x:T t):∀ y∈enc t o x,y.low (full t)=true:=by
 cases t<;>simp[enc,V.low,full,De,Df,Dg,Dh]
def V.plain:V->Bool
 |.int _ _|.bool _|.str _=>true
 |_=>false
def yQ(t:TC)(o:Nat)(x:T t)(h:full t=0):∀ y∈enc t o x,y.plain=true:=by
 cases t<;>first|(simp[full]at h;done)|simp[enc,V.plain,De,Df,Dg]
def V.jI:V->Bool
 |.nil=>false
 |_=>true
def O1(t:TC)(o:Nat)(x:T t):∀ y∈enc t o x,y.jI=true:=by
 cases t<;>simp[enc,V.jI,De,Df,Dg,Dh]
def tcs:aa TC:=[.int,.u8,.bool,.str,.sl .int,.sl .bool,.sl .str,.fG,.Addr,.vi,.Command,.js,.jH,.kN,.Event,.oq,.Cell,.Array,.wI,.mT,.rY,.mU,.eE,.iG,.tO,.Power,.wJ,.iP,.vj,.mV,.rZ,.Config,.nE,.dV,.Act,.r3]
def Wt(e:TypeId):ah TC:=tcs.find? λt=>Nat.beq (tid t) e
def agu{e:TypeId}{t:TC}(h:Wt e=some t):tid t=e:=cH (List.find?_some (p:=λt=>Nat.beq (tid t) e) h)
def V.gr(o:Nat):V->Bool
 |.sl _ C _ _=>C==o
 |_=>true
def yR(t:TC)(o:Nat)(x:T t):∀ y∈enc t o x,y.gr o=true:=by
 cases t<;>simp[enc,V.gr,De,Df,Dg,Dh]
def V.aF:V->Bool
 |.sl _ o _ _=>decide (o<2)
 |_=>true
def V.fZ:V->V
 |.sl t _ q l=>.sl t 0 q l
 |x=>x
def agv(t:TC)(o:Nat)(x y:T t):(enc t o x).map (λv=>(v.plain,v.aF))=(enc t o y).map (λv=>(v.plain,v.aF)):=by cases t<;>rfl
def V.agw(x:V):x.fZ.aF=true:=by cases x<;>simp[V.fZ,V.aF]
def pn(t:TC)(o:Nat)(x:T t)(C:o<2)(j:Nat)(y:V)(h:(enc t o x)[j]?=some y):y.aF=true:=by
 have:=yR t o x y (gy h);cases y<;>simp_all [V.gr,V.aF]
def Wu(t:TC)(o:Nat)(x:T t):enc t 0 x=(enc t o x).map V.fZ:=by cases t<;>rfl
def wR(t:TC)(o:Nat)(x:T t)(j:Nat)(y:V)(h:(enc t 0 x)[j]?=some y):∃ z,(enc t o x)[j]?=some z/\y=z.fZ:=by
 rw[Wu t o x,ef]at h
 grind
def inner:Nat->Nat
 |0=>0
 |1=>1
 |n+2=>n
abbrev bh:=Nat->ah (aa Nat)
inductive RV (w:World) (B:Nat) (af:bh):List Nat->V->Value->Prop
 |int (q:List Nat) (k:IntKind) (n:Int):RV w B af q (.int k n) (.int k n)
 |bool (q:List Nat) (b:Bool):RV w B af q (.bool b) (.bool b)
 |str (q:List Nat) (s:ByteArray):RV w B af q (.str s) (.string s)
 |nil (q:List Nat):RV w B af q .nil (.slice none 0 0)
 |eo (q:List Nat) (t:TC) (o:Nat):RV w B af q (.sl t o false []) (.slice none 0 0)
 |fy (q:List Nat) (t:TC) (o:Nat) (A:Addr) (c:Nat) (ho:o<2):RV w B af q (.sl t o false []) (.slice (some A) 0 c)
 |fH (q:List Nat) (t:TC) (o:Nat) (A:Addr) (c:Nat) (ho:o<2):RV w B af q (.sl t o true []) (.slice (some A) 0 c)
 | aF (q:List Nat) (t:TC) (o:Nat) (qn:Bool) (l:List (T t)) (b off cap:Nat) (u:Nat->Nat->Value) (ho:o<2) (hl:af b=none) (hb:b<w.heap.size) (h1:o=1->B<=b) (iI:l.length<=cap)
   (hc:∀i (h:i<l.length) j x,(enc t o l[i])[j]?=some x->w.cell? ⟨b,off+(i*aC t+j),none⟩=some (u i j))
   (hr:∀i (h:i<l.length) j x,(enc t o l[i])[j]?=some x->RV w B af [] x (u i j)):RV w B af q (.sl t o qn l) (.slice (some ⟨b,off,none⟩) l.length cap)
 | own (q:List Nat) (t:TC) (o:Nat) (qn:Bool) (l:List (T t)) (b cap:Nat) (cs:Array Value) (u:Nat->Nat->Value) (hl:af b=some q) (hh:w.heap[b]?=some (.cells cs (tid t) (0,0)))
   (hs:cs.size=cap*aC t) (hn:l.length<=cap) (hm:cap<=maxLen/\(qn=true->cap=l.length))
   (hc:∀i (h:i<l.length) j x,(enc t o l[i])[j]?=some x->cs[i*aC t+j]?=some (u i j))
   (hr:∀i (h:i<l.length) j x,(enc t o l[i])[j]?=some x->RV w B af (j::i::aC t::q) x (u i j)):RV w B af q (.sl t (o+2) qn l) (.slice (some ⟨b,0,none⟩) l.length cap)
section
variable {w w':World} {B:Nat} {af az:bh}
def V.Fz(n:Nat):V->V
 |.sl t _ q l=>.sl t n q l
 |x=>x
def agx(t:TC)(o n:Nat)(x:T t):enc t n x=(enc t o x).map (V.Fz n):=by cases t<;>rfl
def V.fu(n:Nat):V->Prop
 |.sl t o _ _=>full t+2<=o/\full t+2<=n
 |_=>True
def RV.Fz{q:aa Nat}{x:V}{v:Value}(h:RV w B af q x v):∀ n,x.fu n -> RV w B af q (x.Fz n) v:=by
 induction h with
 |int=>exact λ_ _=>.int _ _ _
 |bool=>exact λ_ _=>.bool _ _
 |str=>exact λ_ _=>.str _ _
 |nil=>exact λ_ _=>.nil _
 |eo=>exact λ_ _=>.eo _ _ _
 |fy q t o A c I=>exact λn C=>by have:=C.1;omega
 |fH q t o A c I=>exact λn C=>by have:=C.1;omega
 |aF q t o T l b off cap u I O hb U iI Y Z ih=>exact λn C=>by have:=C.1;omega
 | own q t o T l b cap cs u O hh hs C hm Y Z ih=>
  intro n hf;obtain⟨U,h2⟩:=hf;obtain⟨m,rfl⟩:∃m,n=m+2:=⟨n-2,by omega⟩
  have key:∀ (i:Nat) (h:i<l.length) (j:Nat) (x:V),(enc t m l[i])[j]?=some x -> ∃ y:V,(enc t o l[i])[j]?=some y/\y.Fz m=x/\y.fu m:=by
   intro i h j x D;rw[agx t o m l[i],ef]at D;cases E:(enc t o l[i])[j]? with
   |none=>simp_all
   | some y=>
    rw[E]at D;injection D with D;refine⟨y,rfl,D,?_⟩;have g1:=yR t o l[i] y (gy E);have g2:=JT t o l[i] y (gy E);cases y with
    | sl t' o' q' l'=>
     have e:o'=o:=by simpa [V.gr]using g1
     have:=cu (show Nat.ble _ _=true from g2);exact⟨by omega,by omega⟩
    |_=>trivial
  refine .own _ _ _ _ _ _ _ cs u O hh hs C hm (λi h j x D=>?_) (λi h j x D=>?_)
  ·grind
  ·grind
def RV.wk{q:aa Nat}{x y:V}{v:Value}(h:RV w B af q x v)(k:Wk x y):RV w B af q y v:=by
 cases k with
 |same=>exact h
 |nil t o=>cases h;exact .eo _ _ _
 | gr t o o' O l T h2=>
  have h:=h.Fz o ⟨h2,T⟩;cases h with
  |eo=>exact .eo _ _ _
  |fy q t o A c C=>grind
  |fH q t o A c C=>grind
  |aF q t o O l b off cap u C D hb T iI E I=>grind
  |own q t o O l b cap cs u D U Y Z hm E I=>exact .own _ _ _ _ _ _ _ cs u D U Y Z ⟨hm.1,λh=>by cases h⟩ E I
 | q t o l=>
  cases h with
  |fH q t o A c C=>exact .fy _ _ _ _ _ C
  |aF q t o O l b off cap u C D hb T iI E I=>exact .aF _ _ _ _ _ _ _ _ u C D hb T iI E I
  |own q t o O l b cap cs u D U Y Z hm E I=>exact .own _ _ _ _ _ _ _ cs u D U Y Z ⟨hm.1,λh=>by cases h⟩ E I
def RV.map{Q:aa Nat->aa Nat->Prop}(hz:w.heap.size<=w'.heap.size)(h0:∀ b,b<w.heap.size->af b=none->w'.heap[b]?=w.heap[b]?/\az b=none)
  (h1:∀b q C,b<w.heap.size->af b=some q->Q q C->w'.heap[b]?=w.heap[b]?/\az b=some C/\∀j i s,Q (j::i::s::q) (j::i::s::C)) {q C:aa Nat} {x:V} {v:Value} (h:RV w B af q x v) (hq:x.aF=true\/Q q C):RV w' B az C x v:=by
 induction h generalizing C with
 |int=>exact .int _ _ _
 |bool=>exact .bool _ _
 |str=>exact .str _ _
 |nil=>exact .nil _
 |eo=>exact .eo _ _ _
 |fy _ _ _ _ _ D=>exact .fy _ _ _ _ _ D
 |fH _ _ _ _ _ D=>exact .fH _ _ _ _ _ D
 | aF q t o qn l b off cap u D I Z Wv iI O hr T=>
  obtain⟨U,Y⟩:=h0 b Z I;exact .aF _ _ _ _ _ _ _ _ u D Y (Nat.lt_of_lt_of_le Z hz) Wv iI (λi h j x E=>(World.cell?_of_block (a:=⟨b,_,none⟩) U).trans (O i h j x E)) (λi h j x E=>T i h j x E (.inl (pn t o l[i] D j x E)))
 | own q t o qn l b cap cs u I hh hs hn hm O hr T=>
  obtain⟨U,Y,e3⟩:=h1 b q C (ic.1 hh).1 I (hq.resolve_left (by simp[V.aF]));exact .own _ _ _ _ _ _ _ cs u Y (U.trans hh) hs hn hm O (λi h j x E=>T i h j x E (.inr (e3 _ _ _)))
def RV.Ww{q C:aa Nat}{x:V}{v:Value}(h:RV w B af q x v)(D:x.aF=true)(E:∀ b,af b=none->az b=none):RV w B az C x v:=
 h.map (Q:=λ_ _=>False) (dH _) (λb _ h=>⟨rfl,E b h⟩) (λ_ _ _ _ _ h=>h.elim) (.inl D)
def RV.JU{q:aa Nat}{x:V}{v:Value}(h:RV w B af q x v)(C:x.aF=true)(D:∀b,af b=none->az b=none):RV w B az q x v:=h.Ww C D
def RV.key{q C:aa Nat}{x:V}{v:Value}(h:RV w B af q x v)(D:x.aF=true):RV w B af C x v:=h.Ww D λ_ h=>h
def lW:Value->Bool
 |.slice ..=>true
 |_=>false
def RV.O2{q:aa Nat}{x:V}{u:Value}(h:RV w B af q x u)(C:x.aF=false):lW u=true:=by
 cases h<;>first|rfl|cases C
def RV.one{q:aa Nat}{x:V}{u:Value}(h:RV w B af q x u):u.oneCell'=true:=by
 cases h<;>rfl
def RV.iQ{q:aa Nat}{x:V}{v:Value}(h:RV w B af q x v)(I:w.heap.size<=w'.heap.size)(D:∀ b,b<w.heap.size->w'.heap[b]?=w.heap[b]?/\az b=af b):RV w' B az q x v:=
 h.map (Q:=Eq) I (λb C E=>⟨(D b C).1,(D b C).2.trans E⟩) (λb q O C E e=>by subst e;exact⟨(D b C).1,(D b C).2.trans E,λ_ _ _=>rfl⟩) (.inr rfl)
def RV.apart{q kt:aa Nat}{x:V}{v:Value}{bt:Nat}(h:RV w B af q x v)(C:af bt=some kt)(O:¬ q <:+ kt\/x.aF=true)(T:w.heap.size<=w'.heap.size)(E:∀ b,b≠bt->w'.heap[b]?=w.heap[b]?):RV w' B af q x v:=
 h.map (Q:=λq I=>q=I/\¬ q <:+ kt) T (λb _ D=>⟨E b (by rintro rfl;rw[D]at C;cases C),D⟩) (λb q I _ D e=>by
  obtain⟨rfl,e⟩:=e;exact⟨E b (by rintro rfl;rw[D]at C;injection C with C;subst C;exact e (List.suffix_refl _)),D,λj i s=>⟨rfl,λU=>e (List.IsSuffix.trans ⟨[j,i,s],rfl⟩ U)⟩⟩) (O.symm.imp_right λh=>⟨rfl,h⟩)
def RV.fZ{q E:aa Nat}{x:V}{v:Value}(h:RV w B af q x v){B':Nat}:RV w B' (λ_=>none) E x.fZ v:=by
 induction h generalizing E with
 |int=>exact .int _ _ _
 |bool=>exact .bool _ _
 |str=>exact .str _ _
 |nil=>exact .nil _
 |eo=>exact .eo _ _ _
 |fy=>exact .fy _ _ _ _ _ (by first|assumption|omega)
 |fH=>exact .fH _ _ _ _ _ (by first|assumption|omega)
 | aF q t o T l b off cap u ho U Y h1 Z I hr ih=>
  refine .aF _ _ _ _ _ _ _ _ u (by omega) rfl Y (by omega) Z (λi h j x C=>?_) (λi h j x C=>?_)
  ·obtain⟨y,D,_⟩:=wR t o l[i] j x C;simp_all
  ·obtain⟨y,D,rfl⟩:=wR t o l[i] j x C;simp_all
 | own q t o T l b cap cs u U O hs hn hm I hr ih=>
  refine .aF _ _ _ _ _ _ _ _ u (by omega) rfl (ic.1 O).1 (by omega) hn (λi h j x C=>?_) (λi h j x C=>?_)
  ·obtain⟨y,D,_⟩:=wR t o l[i] j x C;have:=I i h j y D;rw[fe,cell_of_row w b _ cs _ _ O];exact this
  ·obtain⟨y,D,rfl⟩:=wR t o l[i] j x C;simp_all
end
set_option linter.unusedVariables false
inductive Lf where
 |v (x:V)
 |own (k:List Nat)
 |dead
inductive A where
 |undef
 |skip
 |lf (x:Lf)
 |agg (cs:List Lf)
 |eU (xs:List (Bool×List Lf))
 |ptr (k:List Nat)
 |aJ (r j:Nat)
 |iR (cs:List V)
 |mW (f:Nat) (cs:List V)
 |pk (r n:Nat)
 |view (k:List Nat) (s i j:Nat)
 |fn (f:Nat) (cap:List (Nat×Nat))
inductive aQ where
 |aA (cs:List Lf)
 |sl (y:V)
 |mp (l:List (Int×Bool))
 |gh (xs:List A)
structure S where
 t:Nat->A
 m:Nat->Option aQ
inductive Loc where
 |aA (b off:Nat)
 |dA (v:Value)
 |bA (us:List Value)
def addrAt(w:World)(af:bh)(ρ:Nat->Loc):aa Nat->ah Addr
 | j :: i :: s :: [r]=>match ρ r with
  |.dA (.slice (some ⟨b,0,none⟩) _ _)=>if af b=some [r]then some ⟨b,i*s+j,none⟩else none
  |_=>none
 | j :: i :: s :: q=>match (addrAt w af ρ q).bind w.cell? with
  |some (.slice (some ⟨b,0,none⟩) _ _)=>if af b=some q then some ⟨b,i*s+j,none⟩else none
  |_=>none
 |_=>none
def cK(w:World)(af:bh)(ρ:Nat->Loc):aa Nat->ah Value
 | [r]=>match ρ r with
  |.dA v=>some v
  |_=>none
 |q=>(addrAt w af ρ q).bind w.cell?
def dK(w:World)(B:Nat)(af:bh)(ρ:Nat->Loc):Lf->Value->Prop
 |.v x,u=>x.aF=true/\RV w B af [] x u
 |.own k,u=>lW u=true/\cK w af ρ k=some u
 |.dead,_=>True
def eC(w:World)(B:Nat)(af:bh)(ρ:Nat->Loc)(cs:aa Lf)(us:Array Value):Prop:=
 us.size=cs.length/\∀(j:Nat) x,cs[j]?=some x->∃u,us[j]?=some u/\dK w B af ρ x u
def RP(w:World)(B:Nat)(af:bh)(ρ:Nat->Loc)(p:Bool×aa Lf)(u:Value):Prop:=
 match p with
 |(true,cs)=>∃us,u = .agg us/\eC w B af ρ cs us
 |(false,cs)=>eC w B af ρ cs #[u]
def qR:Nat:=4294967296
def JV(b n:Nat):Value:=bif Nat.beq n qR then .map (some b)else .slice (some ⟨b,0,none⟩) n n
def O3{b n:Nat}(h:n<qR):JV b n = .slice (some ⟨b,0,none⟩) n n:=by
 unfold JV;cases C:Nat.beq n qR with
 |true=>simp_all
 |false=>rfl
def O4(b:Nat):JV b qR = .map (some b):=rfl
def RF(w:World)(B:Nat)(af:bh)(cs:aa V)(u:Value):Prop:=
 ∃b off,u = .pointer (some ⟨b,off,none⟩)/\b<w.heap.size/\af b=none/\∀(j:Nat) x,cs[j]?=some x->x.aF=true/\∃v,w.cell? ⟨b,off+j,none⟩=some v/\RV w B af [] x v
def RA(w:World)(B:Nat)(af:bh)(ρ:Nat->Loc):A->Value->Prop
 |.undef,_=>True
 |.skip,u=>u=Go.undef
 |.lf x,u=>dK w B af ρ x u
 |.agg cs,u=>RP w B af ρ (true,cs) u
 |.eU xs,u=>∃us:Array Value,u = .tuple us/\us.size=xs.length/\∀(j:Nat) p,xs[j]?=some p->∃v,us[j]?=some v/\RP w B af ρ p v
 |.ptr k,u=>∃ad,u = .pointer (some ad)/\addrAt w af ρ k=some ad
 |.aJ r j,u=>∃b off,ρ r = .aA b off/\u = .pointer (some ⟨b,off+j,none⟩)
 |.iR cs,u=>RF w B af cs u
 |.mW f cs,u=>∃pv,u = .func (.func f) #[] #[pv]/\RF w B af cs pv
 |.pk r n,u=>∃b,ρ r = .aA b 0/\u=JV b n
 |.view k s i j,u=>∃A n c,cK w af ρ k=some (.slice A n c)/\i<=j/\j<=n/\u=sliced A i j c s
 |.fn f cap,u=>∃C:Array Value,u = .func (.func f) #[] C/\C.size=cap.length/\∀(j:Nat) p,cap[j]?=some p->∃b off,ρ p.1 = .aA b off/\C[j]?=some (.pointer (some ⟨b,off+p.2,none⟩))
inductive dS (w:World) (B:Nat) (af:bh) (ρ:Nat->Loc) (r:Nat):aQ->Prop
 | aA (b off:Nat) (cells:Array Value) (e:TypeId) (cs:List Lf) (us:Nat->Value) (bX:ρ r = .aA b off) (hl:af b=some [r]) (hh:w.heap[b]?=some (.cells cells e (0,0))) (hs:off+cs.length<=cells.size)
   (hc:∀(j:Nat) x,cs[j]?=some x->cells[off+j]?=some (us j)/\dK w B af ρ x (us j)):dS w B af ρ r (.aA cs)
 |sl (v:Value) (y:V) (bX:ρ r = .dA v) (hr:RV w B af [r] y v):dS w B af ρ r (.sl y)
 |mp (b clock:Nat) (es:Array MapEntry) (l:List (Int×Bool)) (bX:ρ r = .aA b 0) (hl:af b=some [r]) (hh:w.heap[b]?=some (.map es clock)) (he:es.toList.map (λe=>(e.key,e.val))=l.map λp=>(.int .i64 p.1,.bool p.2)):dS w B af ρ r (.mp l)
 |gh (us:List Value) (xs:List A) (bX:ρ r = .bA us) (hx:∀(j:Nat) x,xs[j]?=some x->RA w B af ρ x (us.getD j undef)):dS w B af ρ r (.gh xs)
def Qw(_:World):Prop:=True
structure agy (n:Nat) (L:bh) (w w':World):Prop where
 os:w'.os=w.os
 tape:w'.tape=w.tape
 output:w'.output=w.output
 size:w.heap.size<=w'.heap.size
 block:∀k,k<n->L k=none->w'.heap[k]?=w.heap[k]?
def Hd(w:World)(L:bh):Prop:=∀w',agy w.heap.size L w w'->Qw w'
def agz(w:World)(L:bh):Hd w L:=λ_ _=>trivial
structure Wd where
 w:World
 L:bh
 F:Nat->Option Loc
 held:Hd w L
 low:∀r,r<20000->F r=none
def Wd.heap(d:Wd):Array Obj:=d.w.heap
def Wd.of(w:World)(h:Hd w λ_=>none):Wd:=⟨w,λ_=>none,λ_=>none,h,λ_ _=>rfl⟩
structure iS (d:Wd) (w w':World):Prop where
 os:w'.os=w.os
 tape:w'.tape=w.tape
 output:w'.output=w.output
 size:w.heap.size<=w'.heap.size
 block:∀k,k<d.heap.size->d.L k=none->w'.heap[k]?=w.heap[k]?
def iS.trans{d:Wd}{a b c:World}(h:iS d a b)(k:iS d b c):iS d a c:=
 ⟨k.os.trans h.os,k.tape.trans h.tape,k.output.trans h.output,Nat.le_trans h.size k.size,λi hi C=>(k.block i hi C).trans (h.block i hi C)⟩
def Wd.on(d:Wd){w:World}(h:iS d d.w w){L:bh}(I:∀ b k,L b=some k->d.heap.size<=b\/d.L b≠none):Hd w L:=λw' C=>
 d.held w' ⟨C.os.trans h.os,C.tape.trans h.tape,C.output.trans h.output,Nat.le_trans h.size C.size,λk D E=>by
  have e:L k=none:=by
   cases e:L k with
   |none=>rfl
   | some q=>
    rcases I k q e with h1|h1
    ·exact absurd D (Nat.not_lt.2 h1)
    ·exact absurd E h1
  exact(C.block k (Nat.lt_of_lt_of_le D h.size) e).trans (h.block k D E)⟩
def iS.of{d:Wd}{a b:World}{B:Nat}(h:Below B a b)(hB:d.heap.size<=B):iS d a b:=
 ⟨h.os,h.tape,h.output,h.size,λi hi _=>h.block i (Nat.lt_of_lt_of_le hi hB)⟩
structure Rl (w0:Wd) (N:Nat) (af:bh) (ρ:Nat->Loc) (σ:S) (a:Act) (w:World):Prop where
 below:iS w0 w0.w w
 cN:∀b k,af b=some k->(w0.heap.size<=b\/w0.L b≠none)/\b<w.heap.size/\k≠[]
 root:∀r x,σ.m r=some x->dS w w0.heap.size af ρ r x
 tmp:∀k,RA w w0.heap.size af ρ (σ.t k) (a.tmps.getD k undef)
 size:a.tmps.size=N
 defers:a.defers=[]
 fix:∀r l,w0.F r=some l->ρ r=l
 cF:∀r,(r<N\/60000<=r)->w0.F r=none
def R(w0:Wd)(N:Nat)(σ:S)(a:Act)(w:World):Prop:=∃af ρ,Rl w0 N af ρ σ a w
/-! Reading along a key. -/
inductive wU (m:Nat->Option aQ):List Nat->V->Prop
 |root (r:Nat) (y:V) (h:m r=some (.sl y)):wU m [r] y
 |elem (j i:Nat) (q:List Nat) (t:TC) (o:Nat) (qn:Bool) (l:List (T t)) (y:V) (h:wU m q (.sl t (o+2) qn l)) (hi:i<l.length) (hy:(enc t o l[i])[j]?=some y):wU m (j::i::aC t::q) y
section
variable {w w':World} {w0:Wd} {B N:Nat} {af az:bh} {ρ ρ':Nat->Loc} {m:Nat->ah aQ} {σ:S} {a:Act}
def Bc{q:aa Nat}(j i s:Nat){b n c:Nat}(h:cK w af ρ q=some (.slice (some ⟨b,0,none⟩) n c))(C:af b=some q):addrAt w af ρ (j :: i :: s :: q)=some ⟨b,i*s+j,none⟩:=by
 match q,h,C with
 | [r],h,C=>
  simp[cK]at h;simp[addrAt]
  grind
 | x :: y :: q,h,C=>
  simp[cK]at h;simp[addrAt,h,C,if_true]
def JW{j i s:Nat}{q:aa Nat}:cK w af ρ (j::i::s::q)=(addrAt w af ρ (j::i::s::q)).bind w.cell?:=rfl
def wU.ok{k:aa Nat}{y:V}(h:wU m k y)(D:∀ r x,m r=some x -> dS w B af ρ r x):∃ u,cK w af ρ k=some u/\RV w B af k y u:=by
 induction h with
 | root r y h=>
  cases D _ _ h with
  |sl v y E C=>exact⟨v,by simp[cK,E],C⟩
 | elem j i q t o Z l y h hi I O=>
  obtain⟨u,T,C⟩:=O;cases C with
  |eo=>simp at hi
  |fy=>simp at hi
  |fH=>simp at hi
  |aF _ _ _ _ _ _ _ _ _ ho=>omega
  | own _ _ _ _ _ b cap cs us U Y hs hn D hc C=>
   refine⟨us i j,?_,C i hi j y I⟩;rw[JW,Bc j i _ T U];show w.cell? _=_;rw[cell_of_row w b _ cs _ _ Y];simp_all
def Be:∀ (k:aa Nat) (ad:Addr),addrAt w af ρ k=some ad -> ∃ j i s q,k=j :: i :: s :: q/\af ad.block=some q/\ad.off=i*s+j/\ad.spot=none/\(∀ r,q=[r] -> ∃ v,ρ r = .dA v)
 |[],_,h=>by simp[addrAt]at h
 | [j,i,s,r],ad,h=>by
  simp only[addrAt]at h
  grind
 | j :: i :: s :: x :: y :: q,ad,h=>by
  simp only[addrAt]at h
  grind
/-! What is forgotten: keys of leaves,of addresses,roots. -/
structure mX where
 l:List Nat->Bool
 p:List Nat->Bool
 r:Nat->Bool
def Lf.cg(f:aa Nat->Bool):Lf->Lf
 |.own k=>bif f k then .dead else .own k
 |x=>x
def A.cg(K:mX):A->A
 |.lf x=>.lf (x.cg K.l)
 |.agg cs=>.agg (cs.map (Lf.cg K.l))
 |.eU xs=>.eU (xs.map λp=>(p.1,p.2.map (Lf.cg K.l)))
 |.ptr k=>bif K.p k then .undef else .ptr k
 |.aJ r j=>bif K.r r then .undef else .aJ r j
 |.pk r n=>bif K.r r then .undef else .pk r n
 |.view k s i j=>bif K.p k then .undef else .view k s i j
 |.fn f cap=>bif cap.any (λp=>K.r p.1)then .undef else .fn f cap
 |x=>x
def aQ.cg(K:mX):aQ->aQ
 |.aA cs=>.aA (cs.map (Lf.cg K.l))
 |.gh xs=>.gh (xs.map (A.cg K))
 |x=>x
/-! What names nothing that is forgotten. -/
def Lf.fr(f:aa Nat->Bool):Lf->Bool
 |.own k=>!f k
 |_=>true
def A.fr(K:mX):A->Bool
 |.lf x=>x.fr K.l
 |.agg cs=>cs.all (Lf.fr K.l)
 |.eU xs=>xs.all λq=>q.2.all (Lf.fr K.l)
 |.ptr k=>!K.p k
 |.aJ r _=>!K.r r
 |.pk r _=>!K.r r
 |.view k _ _ _=>!K.p k
 |.fn _ cap=>cap.all λq=>!K.r q.1
 |_=>true
def Lf.ou{f:aa Nat->Bool}{x:Lf}(h:x.fr f=true):x.cg f=x:=by
 cases x with
 |own k=>simp only[Lf.cg,show f k=false by simpa [Lf.fr]using h,av]
 |_=>rfl
def qS.ou{f:aa Nat->Bool}{cs:aa Lf}(h:cs.all (Lf.fr f)=true):cs.map (Lf.cg f)=cs:=
 (List.map_congr_left λx C=>Lf.ou (bS.1 h x C)).trans (List.map_id cs)
def A.ou{K:mX}{x:A}(h:x.fr K=true):x.cg K=x:=by
 cases x with
 |lf x=>exact bz A.lf (Lf.ou h)
 |agg cs=>exact bz A.agg (qS.ou h)
 |eU xs=>exact bz A.eU ((List.map_congr_left λq C=>by rw[qS.ou (bS.1 h q C)];rfl).trans (List.map_id xs))
 |ptr k=>simp only[A.cg,show K.p k=false by simpa [A.fr]using h,av]
 |view k=>simp only[A.cg,show K.p k=false by simpa [A.fr]using h,av]
 |aJ r=>simp only[A.cg,show K.r r=false by simpa [A.fr]using h,av]
 |pk r=>simp only[A.cg,show K.r r=false by simpa [A.fr]using h,av]
 |fn f cap=>simp only[A.cg,show (cap.any λp=>K.r p.1)=false from nD.2 λp D=>by simpa using bS.1 h p D,av]
 |_=>rfl
def Lf.r4{f g:aa Nat->Bool}(C:∀ k,f k=true->g k=true){x:Lf}(h:x.fr g=true):x.fr f=true:=by
 cases x with
 | own k=>
  have h:(!g k)=true:=h;show (!f k)=true;cases D:f k with
  |false=>rfl
  |true=>rw[C k D]at h;cases h
 |_=>rfl
def A.r4{K J:mX}(C:∀ k,K.l k=true->J.l k=true)(O:∀ k,K.p k=true->J.p k=true)(T:∀ r,K.r r=true->J.r r=true){x:A}(h:x.fr J=true):x.fr K=true:=by
 have D:∀r,(!J.r r)=true->(!K.r r)=true:=λr h=>Lf.r4 (x:=.own []) (f:=λ_=>K.r r) (λ_=>T r) h
 cases x with
 |lf x=>exact Lf.r4 C h
 |agg cs=>exact bS.2 λc E=>Lf.r4 C (bS.1 h c E)
 |eU xs=>exact bS.2 λq I=>bS.2 λc E=>Lf.r4 C (bS.1 (bS.1 h q I) c E)
 |ptr k=>exact Lf.r4 (x:=.own k) O h
 |view k=>exact Lf.r4 (x:=.own k) O h
 |aJ r=>exact D r h
 |pk r=>exact D r h
 |fn f cap=>exact bS.2 λq I=>D _ (bS.1 h q I)
 |_=>rfl
def Lf.ov(x:Lf)(f g:aa Nat->Bool):(x.cg f).cg g=(x.cg g).cg f:=by
 cases x with
 |own k=>cases C:f k<;>cases D:g k<;>simp[Lf.cg,C,D]
 |_=>rfl
def qS.ov(cs:aa Lf)(f g:aa Nat->Bool):(cs.map (Lf.cg f)).map (Lf.cg g)=(cs.map (Lf.cg g)).map (Lf.cg f):=by
 rw[List.map_map,List.map_map];exact List.map_congr_left λx _=>Lf.ov x f g
def A.ov(x:A)(K J:mX):(x.cg K).cg J=(x.cg J).cg K:=by
 cases x with
 |lf x=>exact bz A.lf (Lf.ov x _ _)
 |agg cs=>exact bz A.agg (qS.ov cs _ _)
 | eU xs=>
  refine bz A.eU ?_;rw[List.map_map,List.map_map];exact List.map_congr_left λq _=>bz (Prod.mk q.1) (qS.ov q.2 _ _)
 |ptr k=>cases C:K.p k<;>cases D:J.p k<;>simp[A.cg,C,D]
 |view k=>cases C:K.p k<;>cases D:J.p k<;>simp[A.cg,C,D]
 |aJ r=>cases C:K.r r<;>cases D:J.r r<;>simp[A.cg,C,D]
 |pk r=>cases C:K.r r<;>cases D:J.r r<;>simp[A.cg,C,D]
 |fn f cap=>cases C:(cap.any λp=>K.r p.1)<;>cases D:(cap.any λp=>J.r p.1)<;>simp only[A.cg,C,D,aq,av]
 |_=>rfl
def aQ.ov(x:aQ)(K J:mX):(x.cg K).cg J=(x.cg J).cg K:=by
 cases x with
 |aA cs=>exact bz aQ.aA (qS.ov cs _ _)
 | gh xs=>
  refine bz aQ.gh ?_;rw[List.map_map,List.map_map];exact List.map_congr_left λx _=>A.ov x K J
 |_=>rfl
def cD(d:Nat)(k:aa Nat):Bool:=k.getLast?==some d
def wV(d:Nat):mX:=⟨cD d,cD d,λr=>Nat.beq r d⟩
def Lf.drop(d:Nat):Lf->Lf:=Lf.cg (cD d)
def A.drop(d:Nat):A->A:=A.cg (wV d)
def aQ.drop(d:Nat):aQ->aQ:=aQ.cg (wV d)
def iJ(c:Nat->Bool)(k:aa Nat):Bool:=match k.getLast? with
 |some r=>c r
 |none=>false
structure Tr (w w':World) (af az:bh) (ρ ρ':Nat->Loc) (t:List Nat->Bool) (c:Nat->Bool):Prop where
 size:w.heap.size<=w'.heap.size
 no:∀b,b<w.heap.size->af b=none->w'.heap[b]?=w.heap[b]?/\az b=none
 so:∀b k,af b=some k->t k=false->w'.heap[b]?=w.heap[b]?/\az b=some k
 eV:∀r,c r=false->ρ' r=ρ r
 up:∀j i s x q,t (j::i::s::x::q)=t (x::q)
 ne:∀b,af b=some []->∀k,t k=false
structure mX.OK (K:mX) (t:List Nat->Bool) (c:Nat->Bool):Prop where
 l:∀k,K.l k=false->(k.length=1\/t k=false)/\iJ c k=false
 p:∀k,K.p k=false->t k=false/\iJ c k=false
 r:∀r,K.r r=false->c r=false
section
variable {t:aa Nat->Bool} {c:Nat->Bool} {K:mX}
def RV.tr(T:Tr w w' af az ρ ρ' t c){q:aa Nat}{x:V}{v:Value}(h:RV w B af q x v)(E:x.aF=true\/t q=false):RV w' B az q x v:=
 h.map (Q:=λq D=>q=D/\t q=false) T.size T.no (λb q D _ C e=>by
  obtain⟨rfl,e⟩:=e;exact⟨(T.so b q C e).1,(T.so b q C e).2,λj i s=>⟨rfl,by
   cases q with
   |nil=>exact T.ne b C _
   |cons x q=>rw[T.up];exact e⟩⟩) (E.imp_right λh=>⟨rfl,h⟩)
def JX(j i s x:Nat)(q:aa Nat):iJ c (j::i::s::x::q)=iJ c (x::q):=by simp[iJ,List.getLast?_cons_cons]
def O5(T:Tr w w' af az ρ ρ' t c):∀ (k:aa Nat) (ad:Addr),t k=false->iJ c k=false->addrAt w af ρ k=some ad->addrAt w' az ρ' k=some ad
 |[],_,_,_,h=>by simp[addrAt]at h
 |[_],_,_,_,h=>by simp[addrAt]at h
 |[_,_],_,_,_,h=>by simp[addrAt]at h
 |[_,_,_],_,_,_,h=>by simp[addrAt]at h
 | [j,i,s,r],_,C,D,h=>by
  rw[T.up]at C;rw[JX]at D;simp only[addrAt]at h ⊢;rw[T.eV r D];split at h
  ·split at h
   next I=>rw[aW (T.so _ _ I C).2];exact h
   ·cases h
  ·cases h
 | j :: i :: s :: x :: y :: q,ad,C,D,h=>by
  rw[T.up]at C;rw[JX]at D;simp only[addrAt]at h ⊢;cases E:addrAt w af ρ (x::y::q)with
  |none=>rw[E]at h;cases h
  | some Y=>
   rw[O5 T _ _ C D E];rw[E]at h;cases O:w.cell? Y with
   |none=>simp[O]at h
   | some v=>
    obtain⟨j',i',s',U,hk,Z,_,_⟩:=Be _ _ E;have r5:t U=false:=by
     cases U with
     |nil=>exact T.ne _ Z _
     |cons z U=>rw[<-T.up j' i' s',<-hk];exact C
    have e:w'.cell? Y=some v:=(World.cell?_of_block (T.so _ _ Z r5).1).trans O;simp only[Option.bind_some,O]at h;simp only[Option.bind_some,e];split at h
    ·split at h
     next I=>rw[aW (T.so _ _ I C).2];exact h
     ·cases h
    ·cases h
def O6(T:Tr w w' af az ρ ρ' t c)(k:aa Nat)(u:Value)(C:k.length=1\/t k=false)(D:iJ c k=false)(h:cK w af ρ k=some u):cK w' az ρ' k=some u:=by
 match k,C,D,h with
 |[],_,_,h=>simp[cK,addrAt]at h
 | [r],_,D,h=>
  simp only[cK]at h ⊢;rw[T.eV r D];exact h
 | x :: y :: q,C,D,h=>
  have C:t (x::y::q)=false:=C.resolve_left (by simp);simp only[cK]at h ⊢;cases E:addrAt w af ρ (x::y::q)with
  |none=>rw[E]at h;cases h
  | some ad=>
   rw[O5 T _ _ C D E];rw[E]at h;have h:w.cell? ad=some u:=h;obtain⟨U,Y,Z,I,hk,O,_,_⟩:=Be _ _ E;have r5:t I=false:=by
    cases I with
    |nil=>exact T.ne _ O _
    |cons z I=>rw[<-T.up U Y Z,<-hk];exact C
   exact(World.cell?_of_block (T.so _ _ O r5).1).trans h
def dK.tr(T:Tr w w' af az ρ ρ' t c)(C:K.OK t c){x:Lf}{u:Value}(h:dK w B af ρ x u):dK w' B az ρ' (x.cg K.l) u:=by
 cases x with
 |v x=>exact⟨h.1,h.2.tr T (.inl h.1)⟩
 |dead=>trivial
 | own k=>
  show dK w' B az ρ' (bif K.l k then .dead else .own k) u;cases D:K.l k with
  |true=>trivial
  |false=>exact⟨h.1,O6 T k u (C.l k D).1 (C.l k D).2 h.2⟩
def eC.tr(T:Tr w w' af az ρ ρ' t c)(D:K.OK t c){cs:aa Lf}{us:Array Value}(h:eC w B af ρ cs us):eC w' B az ρ' (cs.map (Lf.cg K.l)) us:=by
 refine⟨by rw[eT];exact h.1,λj x C=>?_⟩
 rw[ef]at C;obtain⟨y,E,rfl⟩:=Option.map_eq_some_iff.1 C;obtain⟨u,I,r⟩:=h.2 j y E;exact⟨u,I,r.tr T D⟩
def RP.tr(T:Tr w w' af az ρ ρ' t c)(C:K.OK t c){p:Bool×aa Lf}{u:Value}(h:RP w B af ρ p u):RP w' B az ρ' (p.1,p.2.map (Lf.cg K.l)) u:=by
 obtain⟨b,cs⟩:=p;cases b with
 |true=>obtain⟨us,e,h⟩:=h;exact⟨us,e,h.tr T C⟩
 |false=>exact eC.tr T C h
def RF.tr(T:Tr w w' af az ρ ρ' t c){cs:aa V}{u:Value}(h:RF w B af cs u):RF w' B az cs u:=by
 obtain⟨b,off,e,C,E,h⟩:=h;obtain⟨I,O⟩:=T.no b C E
 refine⟨b,off,e,Nat.lt_of_lt_of_le C T.size,O,λj x U=>?_⟩
 obtain⟨D,v,Y,Z⟩:=h j x U;exact⟨D,v,(World.cell?_of_block (a:=⟨b,_,none⟩) I).trans Y,Z.tr T (.inl D)⟩
def RA.tr(T:Tr w w' af az ρ ρ' t c)(D:K.OK t c){x:A}{u:Value}(h:RA w B af ρ x u):RA w' B az ρ' (x.cg K) u:=by
 cases x with
 |undef=>trivial
 |skip=>exact h
 |lf x=>exact dK.tr T D h
 |agg cs=>exact RP.tr T D (p:=(true,cs)) h
 | eU xs=>
  obtain⟨us,e,I,h⟩:=h
  refine⟨us,e,by rw[eT];exact I,λj p E=>?_⟩
  rw[ef]at E;obtain⟨y,O,rfl⟩:=Option.map_eq_some_iff.1 E;obtain⟨v,U,r⟩:=h j y O;exact⟨v,U,r.tr T D⟩
 | ptr k=>
  simp only[A.cg];cases C:K.p k with
  |true=>trivial
  |false=>obtain⟨ad,e,h⟩:=h;exact⟨ad,e,O5 T k ad (D.p k C).1 (D.p k C).2 h⟩
 | view k s i j=>
  simp only[A.cg];cases C:K.p k with
  |true=>trivial
  |false=>obtain⟨A,n,c,h,g⟩:=h;exact⟨A,n,c,O6 T k _ (.inr (D.p k C).1) (D.p k C).2 h,g⟩
 | pk r n=>
  simp only[A.cg];cases C:K.r r with
  |true=>trivial
  |false=>obtain⟨b,e,h⟩:=h;exact⟨b,(T.eV r (D.r r C)).trans e,h⟩
 | aJ r j=>
  simp only[A.cg];cases C:K.r r with
  |true=>trivial
  |false=>obtain⟨b,off,e,h⟩:=h;exact⟨b,off,(T.eV r (D.r r C)).trans e,h⟩
 |iR cs=>exact RF.tr T h
 |mW f cs=>obtain⟨pv,e,h⟩:=h;exact⟨pv,e,h.tr T⟩
 | fn f cap=>
  simp only[A.cg];cases C:cap.any (λp=>K.r p.1)with
  |true=>trivial
  | false=>
   obtain⟨Y,e,I,h⟩:=h
   refine⟨Y,e,I,λj p E=>?_⟩
   obtain⟨b,off,Z,h2⟩:=h j p E;exact⟨b,off,(T.eV _ (D.r _ (by simpa using nD.1 C p (gy E)))).trans Z,h2⟩
def dS.tr(T:Tr w w' af az ρ ρ' t c)(Z:K.OK t c){r:Nat}{x:aQ}(h:dS w B af ρ r x)(D:t [r]=false)(I:c r=false):dS w' B az ρ' r (x.cg K):=by
 cases h with
 | aA b off cells e cs us C E Y hs hc=>
  refine .aA b off cells e _ us ((T.eV r I).trans C) (T.so b _ E D).2 ((T.so b _ E D).1.trans Y) (by rw[eT];exact hs) (λj x O=>?_)
  rw[ef]at O;obtain⟨y,U,rfl⟩:=Option.map_eq_some_iff.1 O;exact⟨(hc j y U).1,(hc j y U).2.tr T Z⟩
 |sl v y C hr=>exact .sl v y ((T.eV r I).trans C) (hr.tr T (.inr D))
 |mp b clock es l C E Y he=>exact .mp b clock es l ((T.eV r I).trans C) (T.so b _ E D).2 ((T.so b _ E D).1.trans Y) he
 | gh us xs C O=>
  refine .gh us _ ((T.eV r I).trans C) (λj x hj=>?_)
  rw[ef]at hj;obtain⟨y,U,rfl⟩:=Option.map_eq_some_iff.1 hj;exact(O j y U).tr T Z
end
/-! Nothing is forgotten where old memory stays. -/
def JY:mX:=⟨λ_=>false,λ_=>false,λ_=>false⟩
def A.FA(x:A):x.cg JY=x:=by
 have h:∀cs:aa Lf,cs.all (Lf.fr JY.l)=true:=λcs=>bS.2 λc _=>by cases c<;>rfl
 refine A.ou ?_;cases x with
 |lf x=>cases x<;>rfl
 |agg cs=>exact h cs
 |eU xs=>exact bS.2 λq _=>h q.2
 |fn f cap=>exact bS.2 λ_ _=>rfl
 |_=>rfl
def aQ.FA(x:aQ):x.cg JY=x:=by
 cases x with
 |aA cs=>exact bz aQ.aA (A.agg.inj (A.FA (.agg cs)))
 |gh xs=>exact bz aQ.gh ((List.map_congr_left λx _=>A.FA x).trans (List.map_id xs))
 |_=>rfl
def O7(k:aa Nat):iJ (λ_=>false) k=false:=by unfold iJ;split<;>rfl
def Wx:JY.OK (λ_=>false) (λ_=>false):=⟨λk _=>⟨.inr rfl,O7 k⟩,λk _=>⟨rfl,O7 k⟩,λ_ _=>rfl⟩
def Tr.iQ(O:w.heap.size<=w'.heap.size)(D:∀ b,b<w.heap.size->w'.heap[b]?=w.heap[b]?/\az b=af b)(E:∀ b k,af b=some k->b<w.heap.size):Tr w w' af az ρ ρ (λ_=>false) (λ_=>false):=
 ⟨O,λb I C=>⟨(D b I).1,(D b I).2.trans C⟩,λb k C _=>⟨(D b (E b k C)).1,(D b (E b k C)).2.trans C⟩,λ_ _=>rfl,λ_ _ _ _ _=>rfl,λ_ _ _=>rfl⟩
def RA.iQ{x:A}{u:Value}(h:RA w B af ρ x u)(C:w.heap.size<=w'.heap.size)(D:∀ b,b<w.heap.size->w'.heap[b]?=w.heap[b]?/\az b=af b)(E:∀ b k,af b=some k->b<w.heap.size):RA w' B az ρ x u:=by
 have:=h.tr (.iQ C D E) Wx
 rwa [A.FA]at this
def dK.iQ{x:Lf}{u:Value}(h:dK w B af ρ x u)(C:w.heap.size<=w'.heap.size)(D:∀b,b<w.heap.size->w'.heap[b]?=w.heap[b]?/\az b=af b)(E:∀b k,af b=some k->b<w.heap.size):dK w' B az ρ x u:=RA.iQ (x:=.lf x) h C D E
def eC.iQ{cs:aa Lf}{us:Array Value}(h:eC w B af ρ cs us)(C:w.heap.size<=w'.heap.size)(D:∀ b,b<w.heap.size->w'.heap[b]?=w.heap[b]?/\az b=af b)(E:∀ b k,af b=some k->b<w.heap.size):eC w' B az ρ cs us:=
 ⟨h.1,λj x I=>let ⟨u,hu,r⟩:=h.2 j x I;⟨u,hu,r.iQ C D E⟩⟩
def dS.iQ{r:Nat}{x:aQ}(h:dS w B af ρ r x)(C:w.heap.size<=w'.heap.size)(D:∀ b,b<w.heap.size->w'.heap[b]?=w.heap[b]?/\az b=af b)(E:∀ b k,af b=some k->b<w.heap.size):dS w' B az ρ r x:=by
 have:=h.tr (.iQ C D E) Wx rfl rfl
 rwa [aQ.FA]at this
/-! A root's name is given anew. -/
def vk{d:Nat}{t:aa Nat->Bool}{c:Nat->Bool}(E:∀ k,cD d k=false->t k=false)(I:∀ r,r≠d->c r=false):(wV d).OK t c:=by
 have h:∀ k,cD d k=false->iJ c k=false:=λk C=>by
  unfold iJ;split
  next r D=>exact I r (by rintro rfl;simp[cD,D]at C)
  ·rfl
 exact⟨λk C=>⟨.inr (E k C),h k C⟩,λk C=>⟨E k C,h k C⟩,λr D=>I r (by rintro rfl;simp[wV]at D)⟩
def ow{d r:Nat}(h:r≠d):Nat.beq r d=false:=Bool.eq_false_iff.2 λe=>h (cH e)
def Tr.FB{d:Nat}(C:∀ r,r≠d->ρ' r=ρ r):Tr w w af af ρ ρ' (λ_=>false) (λr=>Nat.beq r d):=
 ⟨dH _,λ_ _ h=>⟨rfl,h⟩,λ_ _ h _=>⟨rfl,h⟩,λr D=>C r (by rintro rfl;simp at D),λ_ _ _ _ _=>rfl,λ_ _ _=>rfl⟩
def RP.eV{d:Nat}(C:∀r,r≠d->ρ' r=ρ r){p:Bool×aa Lf}{u:Value}(h:RP w B af ρ p u):RP w B af ρ' (p.1,p.2.map (Lf.drop d)) u:=h.tr (.FB C) (vk (λ_ _=>rfl) λ_=>ow)
def RA.eV{d:Nat}(C:∀r,r≠d->ρ' r=ρ r){x:A}{u:Value}(h:RA w B af ρ x u):RA w B af ρ' (x.drop d) u:=h.tr (.FB C) (vk (λ_ _=>rfl) λ_=>ow)
def eC.eV{d:Nat}(C:∀r,r≠d->ρ' r=ρ r){cs:aa Lf}{us:Array Value}(h:eC w B af ρ cs us):eC w B af ρ' (cs.map (Lf.drop d)) us:=h.tr (.FB C) (vk (λ_ _=>rfl) λ_=>ow)
def dK.eV{d:Nat}(C:∀r,r≠d->ρ' r=ρ r){x:Lf}{u:Value}(h:dK w B af ρ x u):dK w B af ρ' (x.drop d) u:=h.tr (.FB C) (vk (λ_ _=>rfl) λ_=>ow)
def dS.eV{d r:Nat}(C:∀r,r≠d->ρ' r=ρ r)(D:r≠d){x:aQ}(h:dS w B af ρ r x):dS w B af ρ' r (x.drop d):=h.tr (.FB C) (vk (λ_ _=>rfl) λ_=>ow) rfl (ow D)
def bD{α:Type}(f:Nat->α)(d:Nat)(x:α):Nat->α:=λk=>bif Nat.beq k d then x else f k
def bI{α:Type}(f:Nat->α)(d:Nat)(x:α):bD f d x d=x:=by simp[bD]
def ck{α:Type}(f:Nat -> α)(d:Nat)(x:α){k:Nat}(h:k≠d):bD f d x k=f k:=by
 have:Nat.beq k d=false:=by
  cases C:Nat.beq k d with
  |false=>rfl
  |true=>simp_all
 simp[bD,this,av]
def S.set(σ:S)(d:Nat)(x:A):S:={ σ with t:=bD σ.t d x }
def S.drop(σ:S)(d:Nat):S:=⟨λk=>(σ.t k).drop d,λr=>bif Nat.beq r d then none else (σ.m r).map (aQ.drop d)⟩
def S.root(σ:S)(d:Nat)(x:aQ):S:={ σ with m:=bD σ.m d (some x) }
def Rl.set{x:A}{v:Value}{d:Nat}(h:Rl w0 N af ρ σ a w)(E:RA w w0.heap.size af ρ x v)(D:d<N):Rl w0 N af ρ (σ.set d x) (a.put (some d) v) w:=by
 refine⟨h.below,h.cN,h.root,λk=>?_,?_,h.defers,h.fix,h.cF⟩
 ·show RA w _ af ρ (bD σ.t d x k) ((a.tmps.setIfInBounds d v).getD k undef);by_cases C:k=d
  ·subst C;rw[bI,gT,Array.getElem?_setIfInBounds_self];have:k<a.tmps.size:=by rw[h.size];exact D
   simp_all
  ·rw[ck _ _ _ C,gT,Array.getElem?_setIfInBounds_ne (Ne.symm C),<- gT];exact h.tmp k
 ·show (a.tmps.setIfInBounds d v).size=N;rw[Array.size_setIfInBounds];exact h.size
def Rl.grow(h:Rl w0 N af ρ σ a w)(C:Below w.heap.size w w')(E:∀ b,b<w.heap.size -> az b=af b)(T:∀ b k,w.heap.size <= b -> az b=some k -> b<w'.heap.size/\k≠[]):Rl w0 N az ρ σ a w':=by
 have I:∀b,b<w.heap.size -> w'.heap[b]?=w.heap[b]?/\az b=af b:=λb O=>⟨C.block b O,E b O⟩
 refine⟨h.below.trans (.of C h.below.size),λb k D=>?_,λr x U=>(h.root r x U).iQ C.size I (λb k C=>(h.cN b k C).2.1),λk=>(h.tmp k).iQ C.size I (λb k C=>(h.cN b k C).2.1),h.size,h.defers,h.fix,h.cF⟩
 rcases Nat.lt_or_ge b _ with Y|ox
 ·rw[E b Y]at D;have:=h.cN b k D
  grind
 ·have:=T b k ox D;exact⟨.inl (Nat.le_trans h.below.size ox),this.1,this.2⟩
def Rl.new{d:Nat}{x:aQ}(h:Rl w0 N af ρ σ a w)(l:Loc)(U:dS w w0.heap.size af (bD ρ d l) d x)(O:w0.F d=none):Rl w0 N af (bD ρ d l) ((σ.drop d).root d x) a w:=by
 have E:∀r,r≠d -> bD ρ d l r=ρ r:=λr D=>ck _ _ _ D
 refine⟨h.below,h.cN,λr y C=>?_,λk=>(h.tmp k).eV E,h.size,h.defers,λr T D=>(E r (by rintro rfl;rw[O]at D;cases D)).trans (h.fix r T D),h.cF⟩
 by_cases D:r=d
 ·subst D;have e:(bD (σ.drop r).m r _) r=some x:=bI _ _ _;have C:(bD (σ.drop r).m r _) r=some y:=C;simp_all
 ·have C:(bD (σ.drop d).m d _) r=some y:=C;rw[ck _ _ _ D]at C;have I:Nat.beq r d=false:=by
   cases I:Nat.beq r d with
   |false=>rfl
   |true=>simp_all
  simp only[S.drop,I,av]at C;cases hm:σ.m r with
  |none=>simp_all
  | some z=>
   rw[hm]at C;injection C with C;subst C;exact(h.root r z hm).eV E D
end
def splice{α:Type}(l:aa α)(j:Nat)(xs:aa α):aa α:=l.take j++xs++l.drop (j+xs.length)
def tP{α:Type}(l:aa α)(j:Nat)(xs:aa α)(h:j+xs.length<=l.length):(splice l j xs).length=l.length:=by
 simp[splice];omega
def wW{α:Type}(l:aa α)(j:Nat)(xs:aa α)(h:j+xs.length <= l.length)(n:Nat):
  (splice l j xs)[n]?=if n<j then l[n]? else if n<j+xs.length then xs[n-j]? else l[n]?:=by
 unfold splice
 grind
structure vl (w w':World) (bt:Nat):Prop where
 size:w'.heap.size=w.heap.size
 os:w'.os=w.os
 tape:w'.tape=w.tape
 output:w'.output=w.output
 block:∀k,k≠bt->w'.heap[k]?=w.heap[k]?
def JZ(w:World)(b o:Nat)(l:aa Value):vl w (w.setCells b o l) b:=by
 have g:=Wm b l o w;have s:=Wl b l o w
 refine⟨s,g.os,g.tape,g.output,λk C=>?_⟩
 rcases Nat.lt_or_ge k _ with D|ox
 ·exact g.block k D (by intro e;injection e with e;exact C e)
 ·simp_all
section
variable {w w':World} {w0:Wd} {B N:Nat} {af:bh} {ρ:Nat->Loc} {m m':Nat->ah aQ} {σ:S} {a:Act} {bt:Nat} {kt:aa Nat}
def qT(w w':World)(af:bh)(ρ:Nat->Loc):Prop:=∀k ad v,addrAt w af ρ k=some ad->w.cell? ad=some v->lW v=true->w'.cell? ad=some v
def O8(D:qT w w' af ρ):∀ (k:aa Nat) (ad:Addr),addrAt w af ρ k=some ad -> addrAt w' af ρ k=some ad
 |[],_,h=>h
 |[_],_,h=>h
 |[_,_],_,h=>h
 |[j,i,s,r],_,h=>by simp only[addrAt]at h ⊢;exact h
 | j :: i :: s :: x :: y :: q,ad,h=>by
  simp only[addrAt]at h ⊢;cases C:addrAt w af ρ (x::y::q)with
  |none=>simp_all
  | some I=>
   rw[O8 D _ _ C];rw[C]at h;cases E:w.cell? I with
   |none=>simp_all
   | some v=>
    simp only[Option.bind_some,E]at h;have O:lW v=true:=by
     split at h
     next e=>injection e with e;subst e;rfl
     ·cases h
    simp only[Option.bind_some,D _ _ _ C E O];exact h
def Wy(D:qT w w' af ρ)(k:aa Nat)(u:Value)(E:lW u=true)(h:cK w af ρ k=some u):cK w' af ρ k=some u:=by
 match k,h with
 |[r],h=>exact h
 | x :: y :: q,h=>
  simp[cK]at h ⊢;cases C:addrAt w af ρ _ with
  |none=>rw[C]at h;cases h
  | some ad=>
   rw[O8 D _ _ C];rw[C]at h;exact D _ _ _ C h E
def dK.wrote{x:Lf}{u:Value}(h:dK w B af ρ x u)(C:vl w w' bt)(D:af bt=some kt)(E:qT w w' af ρ):dK w' B af ρ x u:=by
 cases x with
 |v x=>exact⟨h.1,h.2.apart D (.inr h.1) (Nat.le_of_eq C.size.symm) C.block⟩
 |own k=>exact⟨h.1,Wy E k u h.1 h.2⟩
 |dead=>trivial
def eC.wrote{cs:aa Lf}{us:Array Value}(h:eC w B af ρ cs us)(C:vl w w' bt)(D:af bt=some kt)(E:qT w w' af ρ):eC w' B af ρ cs us:=
 ⟨h.1,λj x I=>let ⟨u,hu,r⟩:=h.2 j x I;⟨u,hu,r.wrote C D E⟩⟩
def RP.wrote{p:Bool×aa Lf}{u:Value}(h:RP w B af ρ p u)(C:vl w w' bt)(D:af bt=some kt)(E:qT w w' af ρ):RP w' B af ρ p u:=by
 obtain⟨b,cs⟩:=p;cases b with
 |true=>obtain⟨us,e,h⟩:=h;exact⟨us,e,h.wrote C D E⟩
 |false=>exact eC.wrote h C D E
def RF.wrote{cs:aa V}{u:Value}(h:RF w B af cs u)(C:vl w w' bt)(E:af bt=some kt):RF w' B af cs u:=by
 obtain⟨b,off,e,O,D,h⟩:=h;have T:b≠bt:=by rintro rfl;rw[E]at D;cases D
 refine⟨b,off,e,by rw[C.size];exact O,D,λj x U=>?_⟩
 obtain⟨I,v,Y,Z⟩:=h j x U;exact⟨I,v,(World.cell?_of_block (C.block b T)).trans Y,Z.apart E (.inr I) (Nat.le_of_eq C.size.symm) C.block⟩
def RA.wrote{x:A}{u:Value}(h:RA w B af ρ x u)(C:vl w w' bt)(D:af bt=some kt)(E:qT w w' af ρ):RA w' B af ρ x u:=by
 cases x with
 |undef=>trivial
 |skip=>exact h
 |lf x=>exact dK.wrote h C D E
 |agg cs=>exact RP.wrote (p:=(true,cs)) h C D E
 |eU xs=>obtain⟨us,e,I,h⟩:=h;exact⟨us,e,I,λj p O=>let ⟨v,T,r⟩:=h j p O;⟨v,T,r.wrote C D E⟩⟩
 |ptr k=>obtain⟨ad,e,h⟩:=h;exact⟨ad,e,O8 E _ _ h⟩
 |view k s i j=>obtain⟨A,n,c,h,g⟩:=h;exact⟨A,n,c,Wy E k _ rfl h,g⟩
 |pk r n=>exact h
 |aJ r j=>exact h
 |iR cs=>exact RF.wrote h C D
 |mW f cs=>obtain⟨pv,e,h⟩:=h;exact⟨pv,e,h.wrote C D⟩
 |fn f cap=>exact h
def dS.wrote{r:Nat}{x:aQ}(h:dS w B af ρ r x)(E:vl w w' bt)(I:af bt=some kt)(Z:qT w w' af ρ)(T:¬ [r] <:+ kt):dS w' B af ρ r x:=by
 cases h with
 | aA b off cells e cs us D C U hs hc=>
  have Y:b≠bt:=by rintro rfl;rw[I]at C;injection C with C;subst C;exact T (List.suffix_refl _)
  exact .aA b off cells e cs us D C ((E.block b Y).trans U) hs (λj x O=>⟨(hc j x O).1,(hc j x O).2.wrote E I Z⟩)
 |sl v y D fo=>exact .sl v y D (fo.apart I (.inl T) (Nat.le_of_eq E.size.symm) E.block)
 | mp b c es l D C U he=>
  have Y:b≠bt:=by rintro rfl;rw[I]at C;injection C with C;subst C;exact T (List.suffix_refl _)
  exact .mp b c es l D C ((E.block b Y).trans U) he
 |gh us xs D O=>exact .gh us xs D λj x hj=>(O j x hj).wrote E I Z
def Rl.wrote(h:Rl w0 N af ρ σ a w)(C:vl w w' bt)(D:af bt=some kt)(O:qT w w' af ρ)(T:∀ r x,m' r=some x -> dS w' w0.heap.size af ρ r x):Rl w0 N af ρ ⟨σ.t,m'⟩ a w':=by
 have Z:=(h.cN bt kt D).1;have U:∀ k,k<w0.heap.size -> w0.L k=none -> k≠bt:=by
  grind
 refine⟨⟨C.os.trans h.below.os,C.tape.trans h.below.tape,C.output.trans h.below.output,by rw[C.size];exact h.below.size,λk E I=>(C.block k (U k E I)).trans (h.below.block k E I)⟩,λb k Y=>?_,T,λk=>(h.tmp k).wrote C D O,h.size,h.defers,h.fix,h.cF⟩
 rw[C.size];exact h.cN b k Y
def Wz{r C:Nat}(h:C≠r):¬ [C] <:+ [r]:=by
 intro D;have:=D.eq_of_length rfl;simp_all
def Rl.FC{r j:Nat}{cs xs:aa Lf}{us:Array Value}(h:Rl w0 N af ρ σ a w)(hm:σ.m r=some (.aA cs))(hx:eC w w0.heap.size af ρ xs us)(hj:j+xs.length <= cs.length):
  ∃b off,ρ r = .aA b off/\w.there b (off+j) us.size/\Rl w0 N af ρ ⟨σ.t,bD σ.m r (some (.aA (splice cs j xs)))⟩ a (w.setCells b (off+j) us.toList):=by
 have U:=h.root r _ hm;generalize D:aQ.aA cs=x at U;cases U with
 |sl=>cases D
 |mp=>cases D
 |gh=>cases D
 | aA b off cells e eS u bX E Z hs hc=>
  injection D with D;subst D;have hlen:us.size=xs.length:=hx.1;have lX:off+j+us.toList.length <= cells.size:=by rw[lu,hlen];omega
  have I:=JZ w b (off+j) us.toList;obtain⟨Y,gB,nH⟩:=Ft b e us.toList (off+j) w cells Z lX;have T:qT w (w.setCells b (off+j) us.toList) af ρ:=by
   intro k ad v ha hv fU;obtain⟨j',i',s',q,rfl,hq,_,_,hh'⟩:=Be k ad ha;have cm:ad.block≠b:=by
    intro e
    grind
   exact(World.cell?_of_block (I.block _ cm)).trans hv
  refine⟨b,off,bX,λn hn=>⟨?_,frozen_of_row w b _ cells e Z⟩,h.wrote I E T λr' y O=>?_⟩
  ·rw[cell_of_row w b _ cells e _ Z];simp;omega
  ·by_cases lY:r'=r
   ·subst lY;rw[bI]at O;injection O with O;subst O
    refine .aA b off Y e _ (λn=>if n<j then u n else if n<j+xs.length then us.getD (n-j) undef else u n) bX E gB ?_ λn x C=>?_
    ·rw[tP _ _ _ hj,<- lu,nH]
     grind
    ·have e2:Y[off+n]?=(splice cells.toList (off+j) us.toList)[off+n]?:=by
      rw[show Y[off+n]?=Y.toList[off+n]? by simp,nH];rfl
     rw[e2,wW _ _ _ (by simpa using lX)];rw[wW _ _ _ hj]at C;by_cases h1:n<j
     ·rw[aW];simp only[h1]at C ⊢;refine⟨?_,(hc n x C).2.wrote I E T⟩;simp_all
     ·by_cases h2:n<j+xs.length
      ·rw[aX,aW (by rw[lu,hlen];omega)];simp only[h1,h2,if_true,if_false]at C ⊢;obtain⟨v,hv,U⟩:=hx.2 (n-j) x C;have hg:us.getD (n-j) undef=v:=by rw[gT,hv];rfl
       rw[hg];refine⟨?_,U.wrote I E T⟩
       grind
      ·rw[aX,aX (by rw[lu];omega)];simp only[h1,h2]at C ⊢;refine⟨?_,(hc n x C).2.wrote I E T⟩
       grind
   ·rw[ck _ _ _ lY]at O;exact(h.root r' y O).wrote I E T (Wz lY)
inductive yS (m:Nat->Option aQ):List Nat->V->(Nat->Option aQ)->Prop
 |root (r:Nat) (y0 y:V) (h:m r=some (.sl y0)):yS m [r] y (bD m r (some (.sl y)))
 | elem (j i:Nat) (q:List Nat) (t:TC) (o:Nat) (qn:Bool) (l:List (T t)) (y:V) (e:T t) (m':Nat->Option aQ) (h:wU m q (.sl t (o+2) qn l)) (hi:i<l.length) (hj:j<aC t)
   (hd:dec t o (splice (enc t o l[i]) j [y])=some e) (hp:yS m q (.sl t (o+2) qn (l.set i e)) m'):yS m (j::i::aC t::q) y m'
def O9{α:Type}{a b c:aa α}(D:a <:+ c)(E:b <:+ c)(h:a.length=b.length):a=b:=by
 obtain⟨x,I⟩:=D;obtain⟨y,C⟩:=E;rw[<-I]at C;exact((List.append_inj' C h.symm).2).symm
def RV.J0{q:aa Nat}{t:TC}{o:Nat}{Y:Bool}{l:aa (T t)}{i j:Nat}{xs:aa V}{e:T t}{b cap:Nat}{cs eS:Array Value}{u us:Nat -> Nat -> Value}
  (hl:af b=some q) (hh:w'.heap[b]?=some (.cells eS (tid t) (0,0))) (hs:eS.size=cap*aC t) (hn:l.length <= cap) (hm:cap <= maxLen/\(Y=true -> cap=l.length)) (hi:i<l.length) (hj:j+xs.length <= aC t)
  (hd:dec t o (splice (enc t o l[i]) j xs)=some e)
  (hc:∀D (h:D<l.length) (C:Nat) x,(enc t o l[D])[C]?=some x -> ¬ (D=i/\j <= C/\C<j+xs.length) -> eS[D*aC t+C]?=some (u D C)/\RV w' B af (C::D::aC t::q) x (u D C))
  (hx:∀(n:Nat) x,xs[n]?=some x -> eS[i*aC t+(j+n)]?=some (us i (j+n))/\RV w' B af ((j+n)::i::aC t::q) x (us i (j+n))):
  RV w' B af q (.sl t (o+2) Y (l.set i e)) (.slice (some ⟨b,0,none⟩) l.length cap):=by
 have hlen:(l.set i e).length=l.length:=jb;have key:∀ D (h:D<(l.set i e).length) (C:Nat) x,(enc t o (l.set i e)[D])[C]?=some x ->
   ∃v,eS[D*aC t+C]?=some v/\RV w' B af (C::D::aC t::q) x v:=by
  intro D h C x I;rw[List.getElem_set]at I;by_cases hii:i=D
  ·subst hii;rw[aW rfl]at I;have hk:=lC t o _ e hd;have r6:C<(enc t o e).length:=(dI.1 I).1;rw[<- hk.1]at r6;have E:=bK r6;generalize (splice (enc t o l[i]) j xs)[C]=y at E;have Z:=hk.2 C y x E I;rw[wW _ _ _ (by rw[kf];exact hj)]at E;by_cases h1:C<j
   ·rw[aW h1]at E;obtain⟨O,U⟩:=hc i hi C y E (by omega);exact⟨_,O,U.wk Z⟩
   ·by_cases h2:C<j+xs.length
    ·rw[aX h1,aW h2]at E;obtain⟨O,U⟩:=hx _ y E;rw[show j+(C-j)=C by omega]at O U;exact⟨_,O,U.wk Z⟩
    ·rw[aX h1,aX h2]at E;obtain⟨O,U⟩:=hc i hi C y E (by omega);exact⟨_,O,U.wk Z⟩
  ·grind
 rw[<- hlen]
 refine .own q t o Y (l.set i e) b cap eS (λD C=>(eS[D*aC t+C]?).getD undef) hl hh hs (by rw[hlen];exact hn) ⟨hm.1,λh=>by rw[hlen];exact hm.2 h⟩ (λD h C x I=>?_) (λD h C x I=>?_)
 ·grind
 ·obtain⟨v,hv,hr⟩:=key D h C x I;simp_all
def WA{r:Nat}{q:aa Nat}(h:[r] <:+ q){C:Nat}(D:[C] <:+ q):C=r:=by
 have:=O9 D h rfl;injection this
def yS.ok{q:aa Nat}{y:V}(h:yS m q y m')(hm:∀ r x,m r=some x -> dS w B af ρ r x)(T:vl w w' bt)(Y:af bt=some kt)(U:q <:+ kt)(hC:qT w w' af ρ){I:Value}(D:cK w af ρ q=some I)(hy:RV w' B af q y I):
  ∀r x,m' r=some x -> dS w' B af ρ r x:=by
 induction h generalizing I with
 | root r y0 y h=>
  intro Z x C;by_cases O:Z=r
  ·subst O;rw[bI]at C;injection C with C;subst C;simp only[cK]at D;cases bX:ρ Z with
   |aA b off=>grind
   |bA us=>grind
   | dA v=>
    rw[bX]at D;injection D with D;subst D;exact .sl v y bX hy
  ·rw[ck _ _ _ O]at C;exact(hm Z x C).wrote T Y hC (λhs=>O (WA U hs))
 | elem j i q t o qn l y e m' h hi hj hd hp ih=>
  obtain⟨tQ,Bf,fo⟩:=h.ok hm;have hqk:q <:+ kt:=List.IsSuffix.trans ⟨[j,i,aC t],rfl⟩ U;cases fo with
  |eo=>simp at hi
  |fy=>simp at hi
  |fH=>simp at hi
  |aF _ _ _ _ _ _ _ _ _ ho=>omega
  | own _ _ _ _ _ b cap cs us E hh hs hn r7 hc O=>
   have cm:b≠bt:=by
    rintro rfl;rw[Y]at E;injection E with E;subst E;have:=U.length_le
    grind
   have hz:=Nat.le_of_eq T.size.symm
   refine ih hqk Bf (RV.J0 (us:=λ_ _=>I) (u:=us) (cs:=cs) (xs:=[y]) E ((T.block b cm).trans hh) hs hn r7 hi (show j+1 <= aC t from hj) hd (λi' h' j' x C J1=>⟨hc i' h' j' x C,(O i' h' j' x C).apart Y (.inl λoy=>J1 ?_) hz T.block⟩) (λn x C=>?_))
   ·have:=O9 oy U rfl
    grind
   ·cases n with
    |succ n=>simp at C
    | zero=>
     simp at C;subst C;refine⟨?_,hy⟩;rw[JW,Bc j i _ Bf E]at D;have D:w.cell? ⟨b,i*aC t+j,none⟩=some I:=D;rw[cell_of_row w b _ cs _ _ hh]at D;exact D
def RV.WB{q:aa Nat}{x:V}{v:Value}(h:RV w B af q x v)(C:x.plain=true):lW v=false:=by
 cases h<;>first|rfl|cases C
def RV.tR{q C:aa Nat}{x:V}{v:Value}{B':Nat}{az:bh}(h:RV w B af q x v)(D:x.plain=true):RV w' B' az C x v:=by
 cases h<;>first|exact .int _ _ _|exact .bool _ _|exact .str _ _|cases D
def Rl.agA{j i:Nat}{q:aa Nat}{t:TC}{o:Nat}{qn:Bool}{l:aa (T t)}{xs:aa V}{us:Array Value}{e:T t}(h:Rl w0 N af ρ σ a w)(hg:wU σ.m q (.sl t (o+2) qn l))(hi:i<l.length)(hj:j+xs.length <= aC t)
  (hd:dec t o (splice (enc t o l[i]) j xs)=some e) (hold:∀(n:Nat) x,n<xs.length -> (enc t o l[i])[j+n]?=some x -> x.plain=true) (hxp:∀x∈xs,x.plain=true) (ki:us.size=xs.length) (hx:∀(n:Nat) x,xs[n]?=some x -> ∃u,us[n]?=some u/\RV w w0.heap.size af [] x u)
  (hp:yS σ.m q (.sl t (o+2) qn (l.set i e)) m'):
  ∃b,addrAt w af ρ (j::i::aC t::q)=some ⟨b,i*aC t+j,none⟩/\w.there b (i*aC t+j) us.size/\Rl w0 N af ρ ⟨σ.t,m'⟩ a (w.setCells b (i*aC t+j) us.toList):=by
 obtain⟨tQ,Bf,fo⟩:=hg.ok h.root;cases fo with
 |eo=>simp at hi
 |fy=>simp at hi
 |fH=>simp at hi
 |aF _ _ _ _ _ _ _ _ _ ho=>omega
 | own _ _ _ _ _ b cap cs u U hh hs hn r7 hc hr=>
  have tT:i*aC t+aC t <= cap*aC t:=by
   have:(i+1)*aC t <= cap*aC t:=jF _ (by omega);rw[Nat.succ_mul]at this;exact this
  have lX:i*aC t+j+us.toList.length <= cs.size:=by rw[lu,ki,hs];omega
  have Y:=JZ w b (i*aC t+j) us.toList;obtain⟨O,gB,nH⟩:=Ft b (tid t) us.toList (i*aC t+j) w cs hh lX;have tU:∀ n,O[n]?=if n<i*aC t+j then cs[n]? else if n<i*aC t+j+xs.length then us[n-(i*aC t+j)]? else cs[n]?:=by
   intro n;have e2:O[n]?=(splice cs.toList (i*aC t+j) us.toList)[n]?:=by
    rw[show O[n]?=O.toList[n]? by simp,nH];rfl
   rw[e2,wW _ _ _ (by simpa using lX),lu,ki];simp
  have FD:O.size=cs.size:=by
   rw[<- lu,nH];have:=tP cs.toList _ us.toList (by simpa using lX)
   grind
  have hC:qT w (w.setCells b (i*aC t+j) us.toList) af ρ:=by
   intro k ad v ha D fU;by_cases cm:ad.block=b
   ·obtain⟨I,C,s',q',rfl,r5,agB,vm,_⟩:=Be k ad ha;have oz:ad=⟨b,ad.off,none⟩:=by cases ad;simp_all
    rw[oz,cell_of_row w b _ cs _ _ hh]at D;rw[oz,cell_of_row _ b _ O _ _ gB,tU];by_cases h1:ad.off<i*aC t+j
    ·rw[aW h1];exact D
    ·by_cases h2:ad.off<i*aC t+j+xs.length
     ·exfalso;have hjs:ad.off-(i*aC t+j)<xs.length:=by omega
      have wX:j+(ad.off-(i*aC t+j))<(enc t o l[i]).length:=by rw[kf];omega
      have hy:=bK wX;generalize (enc t o l[i])[j+(ad.off-(i*aC t+j))]=y at hy;have vn:=hold _ y hjs hy;have Z:=hc i hi _ y hy;rw[show i*aC t+(j+(ad.off-(i*aC t+j)))=ad.off by omega]at Z;rw[D]at Z;injection Z with Z;have:=(hr i hi _ y hy).WB vn;rw[<- Z,fU]at this;cases this
     ·rw[aX h1,aX h2];exact D
   ·exact(World.cell?_of_block (Y.block _ cm)).trans D
  refine⟨b,Bc j i (aC t) Bf U,λn tV=>⟨?_,frozen_of_row w b _ cs _ hh⟩,h.wrote Y U hC (hp.ok h.root Y U (List.suffix_refl _) hC Bf ?_)⟩
  ·rw[cell_of_row w b _ cs _ _ hh];simp;omega
  ·refine RV.J0 (u:=u) (us:=λ_ n=>us.getD (n-j) undef) (cs:=cs) (xs:=xs) U gB (FD.trans hs) hn r7 hi hj hd (λC h' I x E J1=>?_) (λn x E=>?_)
   ·have r6:I<aC t:=by have:=(dI.1 E).1;rwa [kf]at this
    refine⟨?_,(hr C h' I x E).apart U (.inl λoy=>?_) (Nat.le_of_eq Y.size.symm) Y.block⟩
    ·rw[tU];have yT:¬ (¬ C*aC t+I<i*aC t+j/\C*aC t+I<i*aC t+j+xs.length):=by
      rintro⟨h1,h2⟩;rcases Nat.lt_trichotomy C i with de|heq|Dj
      ·have:(C+1)*aC t <= i*aC t:=jF _ de;rw[Nat.succ_mul]at this;omega
      ·subst heq
       grind
      ·have:(i+1)*aC t <= C*aC t:=jF _ Dj;rw[Nat.succ_mul]at this;omega
     split
     ·exact hc C h' I x E
     ·rw[aX];exact hc C h' I x E
    ·have:=oy.length_le;simp at this;omega
   ·obtain⟨v,D,tW⟩:=hx n x E;have tV:n<xs.length:=(dI.1 E).1;have yU:us.getD (j+n-j) undef=v:=by rw[show j+n-j=n by omega,gT,D];rfl
    rw[yU,tU,aX,aW];refine⟨?_,tW.tR (hxp x (gy E))⟩;rw[show i*aC t+(j+n)-(i*aC t+j)=n by omega];exact D
end
def Pa:Value->A
 |.bool b=>.lf (.v (.bool b))
 |.int k n=>.lf (.v (.int k n))
 |.string s=>.lf (.v (.str s))
 |.slice none 0 0=>.lf (.v .nil)
 |_=>.undef
def aG(σ:S):Operand->A
 |.tmp t=>σ.t t
 |.const v=>Pa v
 |.func f=>.fn f []
 |.global _=>.undef
def gM{X:Type}(N:Nat)(σ:S)(C:ah Tmp)(x:A)(k:S->ah X):ah X:=
 match C with
 |none=>k σ
 |some d=>bif Nat.blt d N then k (σ.set d x)else none
def kP(P:Program)(w0:Wd)(N:Nat)(o:Oper)(σ D:S):Prop:=
 ∀a w K Q,R w0 N σ a w->(∀C w',R w0 N D C w'->K C w')->o.wp P a w K Q
section
variable {P:Program} {w:World} {w0:Wd} {B N:Nat} {af:bh} {ρ:Nat->Loc} {σ:S} {a:Act} {X:Type} {r:X} {k:S->ah X} {o:Oper}
def agC(v:Value):RA w B af ρ (Pa v) v:=by
 unfold Pa;split
 ·exact⟨rfl,.bool _ _⟩
 ·exact⟨rfl,.int _ _ _⟩
 ·exact⟨rfl,.str _ _⟩
 ·exact⟨rfl,.nil _⟩
 ·trivial
def Rl.aG(h:Rl w0 N af ρ σ a w)(x:Operand):RA w w0.heap.size af ρ (aG σ x) (a.eval x):=by
 cases x with
 |tmp t=>exact h.tmp t
 |const v=>exact agC v
 |func f=>exact⟨#[],rfl,rfl,by simp⟩
 |global g=>trivial
def kP.val{x:A}(C:gM N σ o.dst x k=some r)(h:∀ af ρ a w,Rl w0 N af ρ σ a w -> ∃ v,(execOp a.eval o).run P w = .ok (.value v) w/\RA w w0.heap.size af ρ x v):∃ U,k U=some r/\kP P w0 N o σ U:=by
 unfold gM at C;split at C
 ·rename_i E
  refine⟨σ,C,λa w K Q I O=>?_⟩
  obtain⟨af,ρ,D⟩:=I;obtain⟨v,T,Y⟩:=h af ρ a w D;unfold Oper.wp;rw[T,Oper.upon_value,E];exact O _ _ ⟨af,ρ,D⟩
 ·rename_i d E;cases Z:Nat.blt d N with
  |false=>simp_all
  | true=>
   rw[Z]at C
   refine⟨_,C,λa w K Q I O=>?_⟩
   obtain⟨af,ρ,D⟩:=I;obtain⟨v,T,Y⟩:=h af ρ a w D;unfold Oper.wp;rw[T,Oper.upon_value,E];exact O _ _ ⟨af,ρ,D.set Y (by have:=cu Z;omega)⟩
/-! What does the same whatever comes behind. -/
def lZ{α:Type}(f:(X:Type)->(α->ah X)->ah X)(y:α):Prop:=∀(X:Type) (k:α->ah X),f X k=k y
def lZ.at_{α:Type}{f:(X:Type)->(α->ah X)->ah X}{y:α}(h:lZ f y){X:Type}(k:α->ah X):f X k=k y:=h X k
def cq{α:Type}(f:(X:Type)->(α->ah X)->ah X):Prop:=∀(X Y:Type) (k:α->ah X) (g:X->ah Y),(f X k).bind g=f Y λy=>(k y).bind g
def cq.lD{α:Type}{f:(X:Type)->(α->ah X)->ah X}(n:cq f){X:Type}{k:α->ah X}{r:X}(h:f X k=some r):∃ y,k y=some r/\lZ f y:=by
 have e:∀(Y:Type) (k:α->ah Y),f Y k=(f α some).bind k:=λY k=>(n α Y some k).symm
 rw[e]at h;cases C:f α some with
 |none=>rw[C]at h;cases h
 |some y=>rw[C]at h;exact⟨y,h,λX k=>by rw[e,C];rfl⟩
def cq.comp{α β:Type}{f:(X:Type)->(α->ah X)->ah X}{b:(X:Type)->(β->ah X)->α->ah X}(n:cq f)(m:∀y,cq λX k=>b X k y):cq λX k=>f X (b X k):=λX Y k g=>(n X Y _ g).trans (bz _ (funext λy=>m y X Y k g))
def cW{X Y:Type}{b:Bool}{x y:ah X}{C D:ah Y}{g:X->ah Y}(E:x.bind g=C)(I:y.bind g=D):(bif b then x else y).bind g=bif b then C else D:=by
 cases b
 ·exact I
 ·exact E
/-! Contents of leaves. -/
def iU{X:Type}(m:Nat->ah aQ):aa Nat->(V->ah X)->ah X
 | [r],k=>match m r with
  |some (.sl y)=>k y
  |_=>none
 | j :: i :: s :: q,k=>iU m q λy=>match y with
  |.sl t (o+2) _ l=>if s=aC t then (if h:i<l.length then (match (enc t o l[i])[j]? with|some z=>k z|none=>none)else none)else none
  |_=>none
 |_,_=>none
def r8{m:Nat -> ah aQ}:∀ (q:aa Nat) (k:V -> ah X),iU m q k=some r -> ∃ y,wU m q y/\k y=some r
 |[],_,h=>by simp[iU]at h
 | [x],k,h=>by
  simp only[iU]at h;split at h
  next y D=>exact⟨y,.root x y D,h⟩
  ·cases h
 | j :: i :: s :: q,k,h=>by
  obtain⟨y,D,C⟩:=r8 q _ h;clear h;split at C
  ·split at C
   ·rename_i E;subst E;split at C
    ·rename_i hi;split at C
     next z I=>exact⟨z,.elem j i q _ _ _ _ z D hi I,C⟩
     ·cases C
    ·cases C
   ·cases C
  ·cases C
def oA{X:Type}(σ:S)(x:Lf)(k:V->ah X):ah X:=
 match x with
 |.v y=>k y
 |.own q=>iU σ.m q k
 |.dead=>none
def RV.part{q:aa Nat}{tc:TC}{g:Nat}{U:Bool}{xs:aa (T tc)}{A:ah Addr}{n c a h:Nat}(I:RV w B af q (.sl tc g U xs) (.slice A n c))(E:g<2)(h1:a <= h)(C:h <= xs.length):RV w B af q (.sl tc g false ((xs.take h).drop a)) (sliced A a h c (aC tc))/\n=xs.length/\xs.length <= c:=by
 have hlen:((xs.take h).drop a).length=h-a:=by simp;omega
 cases I with
 | eo=>
  have:a=0:=by simp at C;omega
  have:h=0:=by simpa using C
  subst_vars
  exact⟨.eo _ _ _,rfl,dH _⟩
 | fy=>
  have:h=0:=by simpa using C
  subst this;have:a=0:=by omega
  subst this;exact⟨by unfold sliced;split<;>exact .fy _ _ _ _ _ E,rfl,Nat.zero_le _⟩
 | fH=>
  have:h=0:=by simpa using C
  subst this;have:a=0:=by omega
  subst this;exact⟨by unfold sliced;split<;>exact .fy _ _ _ _ _ E,rfl,Nat.zero_le _⟩
 |own=>omega
 | aF _ _ _ _ _ b off cap u Y Z hb hB iI hc I=>
  refine⟨?_,rfl,iI⟩;by_cases he:a=h
  ·subst he;have e0:=vg (by rw[hlen];omega);rw[e0];unfold sliced;rw[Nat.sub_self];split<;>exact .fy _ _ _ _ _ E
  ·unfold sliced;rw[aX,<- hlen];have JQ:(some (⟨b,off,none⟩:Addr)).map (·.add (a*aC tc))=some ⟨b,off+a*aC tc,none⟩:=by
    simp;unfold Addr.add;simp_all
   rw[JQ];have O:∀ i (hi:i<((xs.take h).drop a).length),((xs.take h).drop a)[i]=xs[a+i]'(by omega):=by
    intro i hi;simp_all
   refine .aF _ _ _ _ _ b (off+a*aC tc) (c-a) (λi j=>u (a+i) j) Y Z hb hB (by omega) (λi hi j x D=>?_) (λi hi j x D=>?_)
   ·rw[O]at D;have:=hc _ _ j x D
    grind
   ·rw[O i]at D
    grind
def WC(s i j:Nat):V->ah V
 |.sl t _ _ l=>bif Nat.beq s (aC t)then some (.sl t 0 false ((l.take j).drop i))else none
 |_=>none
def vo{X:Type}(σ:S)(q:aa Nat)(s i j:Nat)(k:V->ah X):ah X:=
 iU σ.m q λy=>match WC s i j y with
  |some z=>k z
  |none=>none
def r9{X:Type}(σ:S)(y:A)(k:V->ah X):ah X:=
 match y with
 |.lf l=>oA σ l k
 |.view q s i j=>vo σ q s i j k
 |_=>none
def WD{q:aa Nat}{s i j:Nat}{k:V -> ah X}(h:vo σ q s i j k=some r):∃ z,k z=some r/\z.aF=true /\ ∀ w0 N af ρ a w,Rl w0 N af ρ σ a w -> ∀ u,RA w w0.heap.size af ρ (.view q s i j) u -> ∀ B',RV w B' (λ_=>none) [] z u:=by
 obtain⟨y,T,E⟩:=r8 q _ h;clear h;split at E
 ·rename_i z C;unfold WC at C;split at C
  ·rename_i t g U l;cases I:Nat.beq s (aC t)with
   |false=>simp_all
   | true=>
    rw[I,aq]at C;obtain rfl:=cH I;injection C with C;subst C
    refine⟨_,E,rfl,λw0 N af ρ a w Y u Z B'=>?_⟩
    obtain⟨A,n,c,hv,h1,h3,rfl⟩:=Z;obtain⟨v,D,hr⟩:=T.ok Y.root;rw[hv]at D;injection D with D;subst D;have O:RV w B' (λ_=>none) [] (.sl t 0 U l) (.slice A n c):=hr.fZ;have hn:n=l.length:=by cases O<;>rfl
    exact(O.part (by omega) h1 (by omega)).1
  ·cases C
 ·cases E
def vK{X:Type}(x:A)(k:V->ah X):ah X:=
 match x with
 |.lf (.v y)=>k y
 |_=>none
def Pb{x:A}{k:V -> ah X}(h:vK x k=some r):∃ y,x = .lf (.v y)/\k y=some r:=by
 unfold vK at h
 grind
def RV.gC{q:aa Nat}{k:IntKind}{n:Int}{u:Value}(h:RV w B af q (.int k n) u):u = .int k n:=by cases h;rfl
def RV.yV{q:aa Nat}{n:Bool}{u:Value}(h:RV w B af q (.bool n) u):u = .bool n:=by cases h;rfl
def RV.wY{q:aa Nat}{n:ByteArray}{u:Value}(h:RV w B af q (.str n) u):u = .string n:=by cases h;rfl
/-! Arithmetic and comparison. -/
def bV(n:Nat):Bool:=decide (n<1073741824)
def FE{X:Type}(P:Program)(ty:TypeId)(op:BinOp)(x y:V)(k:V->ah X):ah X:=
 match x,y with
 | .int C a,.int D b=>match op with
  |.shl=>if b<0 then none else k (.int C (C.wrap (a*2 ^ (min b.toNat C.bits))))
  |.shr=>if b<0 then none else k (.int C (a.fdiv (2 ^ (min b.toNat C.bits))))
  | op=>if C=D then (match op with
   |.add=>k (.int C (C.wrap (a+b)))
   |.sub=>k (.int C (C.wrap (a-b)))
   |.mul=>k (.int C (C.wrap (a*b)))
   |.quo=>if b=0 then none else k (.int C (C.wrap (a.tdiv b)))
   |.rem=>if b=0 then none else k (.int C (a.tmod b))
   |.and=>k (.int C (bits .and C a b))
   |.or=>k (.int C (bits .or C a b))
   |.xor=>k (.int C (bits .xor C a b))
   |.andNot=>k (.int C (bits .andNot C a b))
   |.eql=>k (.bool (a==b))
   |.neq=>k (.bool (a != b))
   |.lss=>k (.bool (decide (a<b)))
   |.leq=>k (.bool (decide (a<=b)))
   |.gtr=>k (.bool (decide (a > b)))
   |.geq=>k (.bool (decide (a >= b)))
   |_=>none)else none
 | .bool a,.bool b=>match P.underlying ty with
  | some .bool=>(match op with
   |.eql=>k (.bool (a==b))
   |.neq=>k (.bool (!(a==b)))
   |_=>none)
  |_=>none
 | .str a,.str b=>match op with
  |.add=>bif bV (a.size+b.size)then k (.str (a++b))else none
  |.eql=>k (.bool (a.toList==b.toList))
  |.neq=>k (.bool (!(a.toList==b.toList)))
  |_=>none
 |_,_=>none
def agD{ty:TypeId}{U:BinOp}{x y:V}{k:V -> ah X}(h:FE P ty U x y k=some r):∃ z,k z=some r/\z.plain=true /\ ∀ (w:World) (B:Nat) (af:bh) (E I:Operand) (q O:aa Nat) (u v:Value),RV w B af q x u -> RV w B af O y v ->
  ∃t,(do eqGuard U ty E I u v;binOp U ty u v:Sem Value).run P w = .ok t w/\RV w B af [] z t:=by
 unfold FE at h;split at h
 ·rename_i kx a ky b;split at h
  ·split at h
   ·cases h
   ·rename_i T
    refine⟨_,h,rfl,λw B af E I q O u v C D=>?_⟩
    obtain rfl:=C.gC;obtain rfl:=D.gC;exact⟨_,by simp[eqGuard,binOp,Op.shift,T],.int _ _ _⟩
  ·split at h
   ·cases h
   ·rename_i T
    refine⟨_,h,rfl,λw B af E I q O u v C D=>?_⟩
    obtain rfl:=C.gC;obtain rfl:=D.gC;exact⟨_,by simp[eqGuard,binOp,Op.shift,T],.int _ _ _⟩
  ·rename_i h1 h2;split at h
   ·rename_i hk;subst hk;cases U
    case shl=>exact absurd rfl h1
    case shr=>exact absurd rfl h2
    case quo=>
     by_cases T:b=0
     ·simp only[T,if_true]at h;cases h
     ·simp[T]at h
      refine⟨_,h,rfl,λw B af E I q O u v C D=>?_⟩
      obtain rfl:=C.gC;obtain rfl:=D.gC;exact⟨_,by simp[eqGuard,binOp,Op.intDiv,T],.int _ _ _⟩
    case rem=>
     by_cases T:b=0
     ·simp only[T,if_true]at h;cases h
     ·simp[T]at h
      refine⟨_,h,rfl,λw B af E I q O u v C D=>?_⟩
      obtain rfl:=C.gC;obtain rfl:=D.gC;exact⟨_,by simp[eqGuard,binOp,Op.intDiv,T],.int _ _ _⟩
    all_goals first
     | (refine⟨_,h,rfl,λw B af E I q O u v C D=>?_⟩
        obtain rfl:=C.gC;obtain rfl:=D.gC
        first
         |(refine⟨_,?_,.int _ _ _⟩;simp[eqGuard,binOp,Op.intArith];done)
         |(refine⟨_,?_,.int _ _ _⟩;simp[eqGuard,binOp,intBits_and,intBits_or,intBits_xor,intBits_andNot];done)
         |(refine⟨_,?_,.bool _ _⟩;simp[eqGuard,binOp,Op.intCmp];done))
     |cases h
   ·cases h
 ·rename_i a b;split at h
  ·rename_i Z;split at h
   ·refine⟨_,h,rfl,λw B af E I q O u v C D=>?_⟩
    obtain rfl:=C.yV;obtain rfl:=D.yV;have e:binOp .eql ty (.bool a) (.bool b)=(do pure (.bool (<- Op.equal ty (.bool a) (.bool b)))):=rfl;have g:eqGuard .eql ty E I (.bool a) (.bool b)=pure ():=rfl;exact⟨_,by rw[e,g,fR,Sem.run_pure,lU,fR,run_equal_bool _ _ _ _ Z];rfl,.bool _ _⟩
   ·refine⟨_,h,rfl,λw B af E I q O u v C D=>?_⟩
    obtain rfl:=C.yV;obtain rfl:=D.yV;have e:binOp .neq ty (.bool a) (.bool b)=(do pure (.bool (!(<- Op.equal ty (.bool a) (.bool b))))):=rfl;have g:eqGuard .neq ty E I (.bool a) (.bool b)=pure ():=rfl;exact⟨_,by rw[e,g,fR,Sem.run_pure,lU,fR,run_equal_bool _ _ _ _ Z];rfl,.bool _ _⟩
   ·cases h
  ·cases h
 ·rename_i a b;split at h
  ·cases Y:bV (a.size+b.size)with
   |false=>rw[Y]at h;cases h
   | true=>
    rw[Y]at h
    refine⟨_,h,rfl,λw B af E I q O u v C D=>?_⟩
    obtain rfl:=C.wY;obtain rfl:=D.wY;have hL':a.size+b.size<1073741824:=by simpa [bV]using Y
    refine⟨_,?_,.str _ _⟩;have h9:IntKind.i64.max=9223372036854775807:=rfl;simp only[eqGuard,binOp,Op.stringOp,h9];simp;omega
  ·refine⟨_,h,rfl,λw B af E I q O u v C D=>?_⟩
   obtain rfl:=C.wY;obtain rfl:=D.wY;exact⟨_,by simp[eqGuard,binOp,Op.stringOp],.bool _ _⟩
  ·refine⟨_,h,rfl,λw B af E I q O u v C D=>?_⟩
   obtain rfl:=C.wY;obtain rfl:=D.wY;exact⟨_,by simp[eqGuard,binOp,Op.stringOp],.bool _ _⟩
  ·cases h
 ·cases h
def FF{X:Type}(D:UnOp)(x:V)(k:V->ah X):ah X:=
 match D,x with
 |.not,.bool b=>k (.bool (!b))
 |.neg,.int C n=>k (.int C (C.wrap (0-n)))
 |_,_=>none
def agE{D:UnOp}{x:V}{k:V->ah X}(h:FF D x k=some r):∃ z,k z=some r/\z.plain=true/\∀ (w:World) (B:Nat) (af:bh) (q:aa Nat) (u:Value),RV w B af q x u->∃ t,(Op.unary D u).run P w = .ok t w/\RV w B af [] z t:=by
 unfold FF at h;split at h
 ·refine⟨_,h,rfl,λw B af q u C=>?_⟩
  obtain rfl:=C.yV;exact⟨_,by simp[Op.unary],.bool _ _⟩
 ·refine⟨_,h,rfl,λw B af q u C=>?_⟩
  obtain rfl:=C.gC;exact⟨_,by simp[Op.unary,Op.intArith],.int _ _ _⟩
 ·cases h
def V.FG{x:V}(h:x.plain=true):x.aF=true:=by cases x<;>first|rfl|cases h
end
def je(P:Program)(t:TypeId):ah Nat:=(P.info? t).map (·.size)
def Dk(P:Program)(t:TypeId):ah Bool:=
 match P.underlying t with
 |some (.struct _)|some (.array _ _)=>some true
 |some _=>some false
 |none=>none
def pq(P:Program)(t:TypeId):ah TypeId:=
 match P.underlying t with
 |some (.slice e)=>some e
 |_=>none
def FH(P:Program)(s:TypeId)(f:Nat):ah Field:=
 match P.underlying s with
 |some (.struct C)=>C[f]?
 |_=>none
def wZ{X:Type}(P:Program)(t:TypeId)(cs:aa Lf)(k:A->ah X):ah X:=
 match je P t with
 | some n=>if cs.length=n then (match Dk P t with
  |some true=>k (.agg cs)
  | some false=>(match cs with
   |[y]=>k (.lf y)
   |_=>none)
  |none=>none)else none
 |none=>none
def leaves(key:Nat->aa Nat):Nat->aa V->aa Lf
 |_,[]=>[]
 |j,z::zs=>(bif z.aF then .v z else .own (key j))::leaves key (j+1) zs
def nI{X:Type}(P:Program)(σ:S)(t:TypeId)(x:A)(k:A->ah X):ah X:=
 match je P t with
 |none=>none
 | some n=>match x with
  | .aJ r j=>(match σ.m r with
   |some (.aA cs)=>wZ P t ((cs.drop j).take n) k
   |_=>none)
  |.iR cs=>wZ P t ((cs.take n).map .v) k
  | .ptr (j :: i :: s :: q)=>iU σ.m q λy=>(match y with
   |.sl C (o+2) _ l=>if s=aC C then (if h:i<l.length then wZ P t (leaves (λD=>D::i::s::q) j (((enc C o l[i]).drop j).take n)) k else none)else none
   |_=>none)
  |_=>none
section
variable {P:Program} {w:World} {w0:Wd} {B N:Nat} {af:bh} {ρ:Nat->Loc} {σ:S} {a:Act} {X:Type} {r:X} {o:Oper}
def WE(key:Nat -> aa Nat):∀ (j:Nat) (zs:aa V) (n:Nat),(leaves key j zs)[n]?=(zs[n]?).map λz=>bif z.aF then .v z else .own (key (j+n))
 |_,[],n=>by simp[leaves]
 |j,z::zs,0=>by simp[leaves]
 | j,z :: zs,n+1=>by
  simp[leaves,List.getElem?_cons_succ,WE]
  grind
def Pc{t:TypeId}{cs:aa Lf}{k:A -> ah X}(h:wZ P t cs k=some r):∃ x,k x=some r /\ ∀ (w:World) (B:Nat) (af:bh) (ρ:Nat -> Loc) (b o:Nat) (D:aa Value),eC w B af ρ cs D.toArray -> w.rangeAt b o D ->
  ∃v,(Instr.loadAt t (.pointer (some ⟨b,o,none⟩))).run P w = .ok v w/\RA w B af ρ x v:=by
 unfold wZ at h;split at h
 ·rename_i n U;split at h
  ·rename_i hlen;split at h
   ·rename_i C
    refine⟨_,h,λw B af ρ b o D I O=>?_⟩
    have T:D.length=n:=by have:=I.1;simpa [hlen]using this
    unfold Dk at C;split at C
    next fs E=>exact⟨_,run_loadAt_mid w b o t D _ O E rfl (by rw[T];exact U),_,rfl,I⟩
    next c e E=>exact⟨_,run_loadAt_mid w b o t D _ O E rfl (by rw[T];exact U),_,rfl,I⟩
    ·cases C
    ·cases C
   ·rename_i C;split at h
    ·rename_i y
     refine⟨_,h,λw B af ρ b o D I O=>?_⟩
     have T:D.length=1:=by have:=I.1;simpa using this
     obtain⟨v,rfl⟩:=List.length_eq_one_iff.1 T;have Y:w.cell? ⟨b,o,none⟩=some v:=O 0 v rfl;obtain⟨u,E,Z⟩:=I.2 0 y rfl;have:v=u:=by simpa using E
     subst this;refine⟨v,?_,Z⟩;unfold Dk at C;split at C
     ·cases C
     ·cases C
     ·rename_i d hs ha E;have agF:(isAgg t).run P w = .ok false w:=by
       unfold isAgg;rw[fR,gF E];simp_all
      simp[Instr.loadAt,Instr.sureAddr,loadVar,fR,agF,load,Sem.run,Y]
     ·cases C
    ·cases h
   ·cases h
  ·cases h
 ·cases h
def J2{α:Type}(l:aa α)(j n i:Nat)(x:α)(h:((l.drop j).take n)[i]?=some x):i<n/\l[j+i]?=some x:=by grind
def WG{t:TypeId}{x:A}{k:A -> ah X}(h:nI P σ t x k=some r):∃ y,k y=some r /\ ∀ af ρ a w,Rl w0 N af ρ σ a w -> ∀ u,RA w w0.heap.size af ρ x u ->
  ∃v,(Instr.loadAt t u).run P w = .ok v w/\RA w w0.heap.size af ρ y v:=by
 unfold nI at h;split at h
 ·cases h
 ·rename_i n hn;split at h
  ·rename_i r' j;split at h
   ·rename_i cs fV;obtain⟨y,Y,Z⟩:=Pc h
    refine⟨y,Y,λaf ρ a w hR u hu=>?_⟩
    obtain⟨b,off,bX,rfl⟩:=hu;have O:=hR.root r' _ fV;generalize U:aQ.aA cs=x at O;cases O with
    |sl=>cases U
    |mp=>cases U
    |gh=>cases U
    | aA b' Bg cells e eS us iK hl hh hs hc=>
     injection U with U;subst U;rw[bX]at iK;injection iK with e1 e2;subst e1 e2
     refine Z w _ af ρ b (off+j) (((cs.drop j).take n).mapIdx λi _=>us (j+i)) ⟨by simp,λi x C=>?_⟩ (λi v D=>?_)
     ·obtain⟨hi,lE⟩:=J2 _ _ _ _ _ C;simp_all
     ·rw[List.getElem?_mapIdx]at D;cases C:((cs.drop j).take n)[i]? with
      |none=>rw[C]at D;cases D
      | some x=>
       rw[C]at D;injection D with D;subst D;obtain⟨hi,lE⟩:=J2 _ _ _ _ _ C;rw[cell_of_row w b _ cells _ _ hh,Nat.add_assoc];simp_all
   ·cases h
  ·rename_i cs;obtain⟨y,Y,Z⟩:=Pc h
   refine⟨y,Y,λaf ρ a w hR u hu=>?_⟩
   obtain⟨b,off,rfl,hb,hl,hc⟩:=hu;have pz:∀ (i:Nat) (x:Lf),((cs.take n).map Lf.v)[i]?=some x -> ∃ z v,x = .v z/\z.aF=true/\w.cell? ⟨b,off+i,none⟩=some v/\RV w w0.heap.size af [] z v:=by
    intro i x C;rw[ef]at C;cases I:(cs.take n)[i]? with
    |none=>rw[I]at C;cases C
    | some z=>
     rw[I]at C;injection C with C;rw[List.getElem?_take]at I;split at I
     ·obtain⟨sg,v,D,O⟩:=hc i z I
      grind
     ·cases I
   refine Z w _ af ρ b off (((cs.take n).map Lf.v).mapIdx λi _=>(w.cell? ⟨b,off+i,none⟩).getD undef) ⟨by simp,λi x C=>?_⟩ (λi v D=>?_)
   ·obtain⟨z,v,rfl,sg,D,O⟩:=pz i x C;refine⟨v,?_,sg,O⟩;simp_all
   ·rw[List.getElem?_mapIdx]at D;cases C:((cs.take n).map Lf.v)[i]? with
    |none=>rw[C]at D;cases D
    |some x =>grind
  ·rename_i j i s q;obtain⟨y0,hg,T⟩:=r8 _ _ h;clear h;split at T
   ·rename_i E o' qn l;split at T
    ·rename_i hs;subst hs;split at T
     ·rename_i hi;obtain⟨y,Y,Z⟩:=Pc T
      refine⟨y,Y,λaf ρ a w hR u hu=>?_⟩
      obtain⟨ad,rfl,oz⟩:=hu;obtain⟨D,jt,jJ⟩:=hg.ok hR.root;cases jJ with
      |eo=>simp at hi
      |fy=>simp at hi
      |fH=>simp at hi
      |aF _ _ _ _ _ _ _ _ _ ho=>omega
      | own _ _ _ _ _ b cap cs us pJ hh hs hn r7 hc O=>
       rw[Bc j i (aC E) jt pJ]at oz;injection oz with oz;subst oz;have pz:∀ (m:Nat) (x:Lf),(leaves (λj'=>j' :: i :: aC E :: q) j (((enc E o' l[i]).drop j).take n))[m]?=some x -> cs[i*aC E+(j+m)]?=some (us i (j+m))/\dK w w0.heap.size af ρ x (us i (j+m)):=by
        intro m x C;rw[WE]at C;cases I:(((enc E o' l[i]).drop j).take n)[m]? with
        |none=>rw[I]at C;cases C
        | some z=>
         rw[I]at C;injection C with C;have C:(bif z.aF then Lf.v z else Lf.own ((j+m)::i::aC E::q))=x:=C;obtain⟨_,Dl⟩:=J2 _ _ _ _ _ I;have h3:=hc i hi _ z Dl;have h4:=O i hi _ z Dl;refine⟨h3,?_⟩;cases Dm:z.aF with
         | true=>
          rw[Dm]at C;subst C;exact⟨Dm,h4.key Dm⟩
         | false=>
          rw[Dm]at C;have C:Lf.own ((j+m)::i::aC E::q)=x:=C;subst C;refine⟨?_,?_⟩
          ·exact h4.O2 Dm
          ·rw[JW,Bc _ i _ jt pJ];show w.cell? _=_;rw[cell_of_row w b _ cs _ _ hh];exact h3
       refine Z w _ af ρ b (i*aC E+j) ((leaves (λj'=>j'::i::aC E::q) j (((enc E o' l[i]).drop j).take n)).mapIdx λm _=>us i (j+m)) ⟨by simp,λm x C=>?_⟩ (λm v D=>?_)
       ·simp[*]
       ·rw[List.getElem?_mapIdx]at D;cases C:(leaves (λj'=>j' :: i :: aC E :: q) j (((enc E o' l[i]).drop j).take n))[m]? with
        |none=>rw[C]at D;cases D
        | some x=>
         rw[C]at D;injection D with D;subst D;rw[cell_of_row w b _ cs _ _ hh,Nat.add_assoc];simp_all
     ·cases T
    ·cases T
   ·cases T
  ·cases h
end
def A.yW:A->ah (aa Lf)
 |.lf x=>some [x]
 |.agg xs=>some xs
 |_=>none
def Lf.live:Lf->Bool
 |.dead=>false
 |_=>true
def Lf.pl:Lf->ah V
 |.v x=>bif x.plain then some x else none
 |_=>none
def qU:aa Lf->ah (aa V)
 |[]=>some []
 | x :: xs=>match x.pl,qU xs with
  |some y,some ys=>some (y::ys)
  |_,_=>none
def w7{X:Type}(m:Nat->ah aQ):aa Nat->V->((Nat->ah aQ)->ah X)->ah X
 | [r],y,k=>match m r with
  |some (.sl _)=>k (bD m r (some (.sl y)))
  |_=>none
 | j :: i :: s :: q,y,k=>iU m q λz=>match z with
  | .sl t (o+2) C l=>if s=aC t then (if h:i<l.length then (if j<aC t then (match dec t o (splice (enc t o l[i]) j [y])with
   |some e=>w7 m q (.sl t (o+2) C (l.set i e)) k
   |none=>none)else none)else none)else none
  |_=>none
 |_,_,_=>none
def pL{X:Type}(P:Program)(σ:S)(t:TypeId)(x y:A)(k:S->ah X):ah X:=
 match je P t,y.yW with
 | some n,some xs=>if xs.length=n then (match x with
  | .aJ r j=>(match σ.m r with
   |some (.aA cs)=>if j+n<=cs.length then (bif xs.all Lf.live then k ⟨σ.t,bD σ.m r (some (.aA (splice cs j xs)))⟩else none)else none
   |_=>none)
  | .ptr (j :: i :: s :: q)=>(match qU xs with
   |none=>none
   | some D=>iU σ.m q λy=>(match y with
    | .sl C (o+2) E l=>if s=aC C then (if h:i<l.length then (if j+D.length<=aC C then (bif (((enc C o l[i]).drop j).take D.length).all V.plain then (match dec C o (splice (enc C o l[i]) j D)with
     |some e=>w7 σ.m q (.sl C (o+2) E (l.set i e)) λm=>k ⟨σ.t,m⟩
     |none=>none)else none)else none)else none)else none
    |_=>none))
  |_=>none)else none
 |_,_=>none
section
variable {P:Program} {w:World} {w0:Wd} {B N:Nat} {af:bh} {ρ:Nat->Loc} {σ:S} {a:Act} {X:Type} {r:X} {o:Oper}
def WH{m:Nat -> ah aQ}:∀ (q:aa Nat) (y:V) (k:(Nat -> ah aQ) -> ah X),w7 m q y k=some r -> ∃ m',yS m q y m'/\k m'=some r
 |[],_,_,h=>by simp[w7]at h
 | [x],y,k,h=>by
  simp only[w7]at h;split at h
  next D E=>exact⟨_,.root x D y E,h⟩
  ·cases h
 | j :: i :: s :: q,y,k,h=>by
  simp only[w7]at h;obtain⟨z,I,C⟩:=r8 q _ h;clear h;split at C
  ·split at C
   ·rename_i O;subst O;split at C
    ·rename_i hi;split at C
     ·rename_i T;split at C
      next e U=>obtain⟨m',Y,Z⟩:=WH q _ k C;exact⟨m',.elem j i q _ _ _ _ y e m' I hi T U Y,Z⟩
      ·cases C
     ·cases C
    ·cases C
   ·cases C
  ·cases C
def J3:∀ (xs:aa Lf) (C:aa V),qU xs=some C -> xs=C.map .v /\ ∀ v∈C,v.plain=true
 | [],C,h=>by
  simp[qU]at h;subst h;exact⟨rfl,by simp⟩
 | x :: xs,C,h=>by
  unfold qU at h;split at h
  ·rename_i y ys D E;injection h with h;subst h;obtain⟨I,O⟩:=J3 xs ys E;have:x = .v y/\y.plain=true:=by
    cases x with
    | v z=>
     unfold Lf.pl at D
     grind
    |own q=>cases D
    |dead=>cases D
   simp_all
  ·cases h
def agG{u:Value}(h:u.oneCell'=true):u.cells = #[u]:=by cases u<;>first|rfl|cases h
def dK.one{x:Lf}{u:Value}(h:dK w B af ρ x u)(C:x.live=true):u.oneCell'=true:=by
 cases x with
 |v z=>exact h.2.one
 | own k=>
  have:=h.1;cases u<;>first|rfl|cases this
 |dead=>cases C
def FI{y:A}{xs:aa Lf}(h:y.yW=some xs)(D:xs.all Lf.live=true){u:Value}(C:RA w B af ρ y u):eC w B af ρ xs u.cells/\u.cells.all (·.oneCell')=true:=by
 have key:∀ us:Array Value,eC w B af ρ xs us -> us.all (·.oneCell')=true:=by
  intro us E;rw[Array.all_eq_true];intro i hi;have O:=bK (by rw[<- E.1];exact hi);obtain⟨v,I,T⟩:=E.2 i _ O;have:us[i]=v:=by rw[Array.getElem?_eq_getElem hi]at I;injection I
  rw[this];exact T.one (bS.1 D _ (dc _))
 cases y with
 | lf x=>
  injection h with h;subst h;have C:dK w B af ρ x u:=C;have U:=C.one (by simpa using D);have:eC w B af ρ [x] u.cells:=by
   rw[agG U]
   refine⟨rfl,λj y Y=>?_⟩
   grind
  simp_all
 | agg Z=>
  injection h with h;subst h;obtain⟨us,rfl,h⟩:=C;exact⟨h,key _ h⟩
 |_=>cases h
def Pd(w:World)(b o:Nat)(ty:TypeId)(v:Value)(D:w.there b o v.cells.size)(hi:(P.info? ty).map (·.size)=some v.cells.size)(I:v.cells.all (·.oneCell')=true):
  (Instr.storeAt ty (.pointer (some ⟨b,o,none⟩)) v).run P w = .ok () (w.setCells b o v.cells.toList):=by
 have:=run_storeCells_cells (P:=P) b o v.cells.toList 0 w (λj C=>by simpa using (D j (by simpa using C)).1) (λj C=>by simpa using (D j (by simpa using C)).2)
  (λv O=>(Array.all_eq_true_iff_forall_mem.1 I) v (by simpa using O))
 cases E:P.info? ty with
 |none=>simp_all
 | some i=>
  have T:v.cells.size=i.size:=by simp[E]at hi;omega
  simp[Instr.storeAt,Instr.sureAddr,storeVar,sizeOf,typeInfo,E,T,this]
def WI{t:TypeId}{x y:A}{k:S -> ah X}(h:pL P σ t x y k=some r):∃ cB,k cB=some r /\ ∀ af ρ a w,Rl w0 N af ρ σ a w -> ∀ u v,RA w w0.heap.size af ρ x u -> RA w w0.heap.size af ρ y v ->
  ∃w',(Instr.storeAt t u v).run P w = .ok () w'/\Rl w0 N af ρ cB a w':=by
 unfold pL at h;split at h
 ·rename_i n xs hn mY;split at h
  ·rename_i hlen;split at h
   ·rename_i r' j;split at h
    ·rename_i cs fV;split at h
     ·rename_i Y;cases I:xs.all Lf.live with
      |false=>grind
      | true=>
       rw[I]at h
       refine⟨_,h,λaf ρ a w Z u v hu hv=>?_⟩
       obtain⟨b,off,bX,rfl⟩:=hu;obtain⟨D,lF⟩:=FI mY I hv;obtain⟨b',Bg,iK,FJ,dm⟩:=Z.FC fV D (by rw[hlen];exact Y);rw[bX]at iK;injection iK with e1 e2;subst e1 e2;exact⟨_,Pd w b (off+j) t v FJ (by rw[D.1,hlen];exact hn) lF,dm⟩
     ·cases h
    ·cases h
   ·rename_i j i s q;split at h
    ·cases h
    ·rename_i E jK;obtain⟨y0,hg,C⟩:=r8 _ _ h;clear h;split at C
     ·rename_i t' o' qn l;split at C
      ·rename_i hs;subst hs;split at C
       ·rename_i hi;split at C
        ·rename_i Y;cases hold:(((enc t' o' l[i]).drop j).take E.length).all V.plain with
         |false=>grind
         | true=>
          rw[hold,aq]at C;split at C
          ·rename_i e he;obtain⟨m',sj,h3⟩:=WH q _ _ C
           refine⟨_,h3,λaf ρ a w Z u v hu hv=>?_⟩
           obtain⟨ad,rfl,oz⟩:=hu;obtain⟨O,J4⟩:=J3 xs E jK;have I:xs.all Lf.live=true:=by rw[O];simp[Lf.live]
           obtain⟨D,lF⟩:=FI mY I hv;have Bh:E.length=n:=by rw[<- hlen,O,eT]
           have q1:∀ (n':Nat) x,n'<E.length -> (enc t' o' l[i])[j+n']?=some x -> x.plain=true:=by
            intro n' x tV hx;refine bS.1 hold x (gy (i:=n') ?_);simp_all
           have q2:∀ (n':Nat) x,E[n']?=some x -> ∃ T,v.cells[n']?=some T/\RV w w0.heap.size af [] x T:=by
            intro n' x hx;obtain⟨T,vp,fo⟩:=D.2 n' (.v x) (by rw[O,ef,hx];rfl);exact⟨T,vp,fo.2⟩
           obtain⟨b,U,FJ,dm⟩:=Z.agA (xs:=E) (us:=v.cells) hg hi Y he q1 J4 (by rw[D.1,O,eT]) q2 sj;rw[oz]at U;injection U with U;subst U;exact⟨_,Pd w b _ t v FJ (by rw[D.1,hlen];exact hn) lF,dm⟩
          ·cases C
        ·cases C
       ·cases C
      ·cases C
     ·cases C
   ·cases h
  ·cases h
 ·cases h
end
def Dn{X:Type}(P:Program)(s:TypeId)(x:A)(f:Nat)(k:A->ah X):ah X:=
 match FH P s f with
 |none=>none
 | some C=>match je P C.type with
  | some (_+1)=>(match x with
   |.aJ r j=>k (.aJ r (j+C.offset))
   |.iR cs=>k (.iR (cs.drop C.offset))
   |.ptr (j::i::s::q)=>k (.ptr ((j+C.offset)::i::s::q))
   |_=>none)
  |_=>none
def yX{X:Type}(P:Program)(σ:S)(t:TypeId)(x i:A)(k:A->ah X):ah X:=
 match pq P t with
 |none=>none
 | some e=>match je P e,i with
  | some n,.lf (.v (.int _ iv))=>(match x with
   |.lf (.v (.sl C g _ l))=>if n=aC C then (bif Nat.blt g 2 then (if h:0<=iv/\iv.toNat<l.length then k (.iR (enc C g (l[iv.toNat]'h.2)))else none)else none)else none
   | .lf (.own q)=>iU σ.m q λy=>(match y with
    |.sl C g _ l=>if n=aC C then (if h:0<=iv/\iv.toNat<l.length then (bif Nat.blt g 2 then k (.iR (enc C g (l[iv.toNat]'h.2)))else k (.ptr (0::iv.toNat::aC C::q)))else none)else none
    |_=>none)
   |_=>none)
  |_,_=>none
def Bi{X:Type}(P:Program)(σ:S)(t:TypeId)(x:A)(k:A->ah X):ah X:=
 match x with
 | .lf y=>oA σ y λz=>(match z with
  |.sl _ _ _ l=>(match P.underlying t with|some (.slice _)=>k (.lf (.v (.int .i64 (l.length:Int))))|_=>none)
  |.nil=>(match P.underlying t with|some (.slice _)=>k (.lf (.v (.int .i64 0)))|_=>none)
  |.str s=>(match P.underlying t with|some .string=>k (.lf (.v (.int .i64 (s.size:Int))))|_=>none)
  |_=>none)
 |.view _ _ i j=>(match P.underlying t with|some (.slice _)=>k (.lf (.v (.int .i64 ((j-i:Nat):Int))))|_=>none)
 |_=>none
def yY:Bool×aa Lf->ah A
 |(true,cs)=>some (.agg cs)
 |(false,[y])=>some (.lf y)
 |_=>none
def Bj{X:Type}(x:A)(i:Nat)(k:A->ah X):ah X:=
 match x with
 | .eU xs=>match (xs[i]?).bind yY with
  |some y=>k y
  |none=>none
 |_=>none
section
variable {P:Program} {w:World} {w0:Wd} {B N:Nat} {af:bh} {ρ:Nat->Loc} {σ:S} {a:Act} {X:Type} {r:X} {o:Oper} {w':World} {az:bh} {ρ':Nat->Loc} {d:Nat}
def agH(n:Nat){j i s:Nat}{q:aa Nat}{ad:Addr}(h:addrAt w af ρ (j :: i :: s :: q)=some ad):addrAt w af ρ ((j+n) :: i :: s :: q)=some ⟨ad.block,ad.off+n,none⟩:=by
 match q,h with
 | [r],h=>
  simp[addrAt]at h ⊢;split at h
  ·grind
  ·cases h
 | x :: y :: q,h=>
  simp[addrAt]at h ⊢;split at h
  ·grind
  ·cases h
def Pe(w:World)(s:TypeId)(f:Nat)(C:Field)(n b off:Nat)(D:FH P s f=some C)(E:je P C.type=some (n+1)):
  (Instr.fieldAt s (.pointer (some ⟨b,off,none⟩)) f).run P w = .ok (.pointer (some ⟨b,off+C.offset,none⟩)) w:=by
 unfold FH at D;split at D
 ·rename_i T O;unfold je at E;cases I:P.info? C.type with
  |none=>simp_all
  | some i=>
   have hi:i.size=n+1:=by simpa [I]using E
   simp[Instr.fieldAt,gF O,D,Instr.sureAddr,fieldPlace,sizeOf,typeInfo,I,hi,Addr.add_mid]
 ·cases D
def agI{s:TypeId}{x:A}{f:Nat}{k:A -> ah X}(h:Dn P s x f k=some r):∃ y,k y=some r /\ ∀ (w:World) (B:Nat) (af:bh) (ρ:Nat -> Loc) (u:Value),RA w B af ρ x u ->
  ∃v,(Instr.fieldAt s u f).run P w = .ok v w/\RA w B af ρ y v:=by
 unfold Dn at h;split at h
 ·cases h
 ·rename_i D E;split at h
  ·rename_i n I;split at h
   ·rename_i r' j
    refine⟨_,h,λw B af ρ u C=>?_⟩
    obtain⟨b,off,U,rfl⟩:=C;exact⟨_,Pe w s f D n b _ E I,b,off,U,by rw[Nat.add_assoc]⟩
   ·rename_i cs
    refine⟨_,h,λw B af ρ u C=>?_⟩
    obtain⟨b,off,rfl,Y,Z,hc⟩:=C
    refine⟨_,Pe w s f D n b _ E I,b,_,rfl,Y,Z,λj x hx=>?_⟩
    grind
   ·rename_i j i s' q
    refine⟨_,h,λw B af ρ u C=>?_⟩
    obtain⟨ad,rfl,O⟩:=C;have h2:=agH D.offset O;obtain⟨_,_,_,_,_,_,_,T,_⟩:=Be _ _ O;obtain⟨b,off,sp⟩:=ad;simp only at T;subst T;exact⟨_,Pe w s f D n b off E I,_,rfl,h2⟩
   ·cases h
  ·cases h
def Pf(w:World)(t e:TypeId)(n b off len cap:Nat)(I:IntKind)(iv:Int)(C:pq P t=some e)(D:je P e=some n)(O:0 <= iv)(Z:iv.toNat<len):
  (Instr.indexAt t (.slice (some ⟨b,off,none⟩) len cap) (.int I iv)).run P w = .ok (.pointer (some ⟨b,off+iv.toNat*n,none⟩)) w:=by
 unfold pq at C;split at C
 ·rename_i T U;injection C with C;subst C;unfold je at D;cases E:P.info? T with
  |none=>simp_all
  | some i=>
   have hi:i.size=n:=by simpa [E]using D
   have Y:iv<len:=by omega
   simp[Instr.indexAt,gF U,asIntOf,O,Y,sizeOf,typeInfo,E,hi,Addr.add_mid]
 ·cases C
def agJ{t:TypeId}{x i:A}{k:A -> ah X}(h:yX P σ t x i k=some r):∃ y,k y=some r /\ ∀ af ρ a w,Rl w0 N af ρ σ a w -> ∀ u v,RA w w0.heap.size af ρ x u -> RA w w0.heap.size af ρ i v ->
  ∃p,(Instr.indexAt t u v).run P w = .ok p w/\RA w w0.heap.size af ρ y p:=by
 unfold yX at h;split at h
 ·cases h
 ·rename_i e he;split at h
  ·rename_i n kk iv hn;split at h
   ·rename_i t' g qn l;split at h
    ·rename_i Bk;subst Bk;cases E:Nat.blt g 2 with
     |false=>grind
     | true=>
      rw[E,aq]at h;split at h
      ·rename_i C
       refine⟨_,h,λaf ρ a w Z u v I O=>?_⟩
       obtain rfl:=O.2.gC;have Bl:g<2:=by have:=cu E;omega
       cases I.2 with
       |eo=>simp at C
       |fy=>simp at C
       |fH=>simp at C
       |own=>grind
       | aF _ _ _ _ _ b off cap us ho hl Dp h1 iI hc hr=>
        refine⟨_,Pf w t e _ b off _ cap kk iv he hn C.1 C.2,b,_,rfl,Dp,hl,λj x T=>⟨pn t' g _ Bl j x T,us _ j,?_,hr _ C.2 j x T⟩⟩
        grind
      ·cases h
    ·cases h
   ·rename_i q;obtain⟨y0,E,D⟩:=r8 _ _ h;clear h;split at D
    ·rename_i t' U qn l;split at D
     ·rename_i Bk;subst Bk;split at D
      ·rename_i C;cases Y:Nat.blt U 2 with
       | true=>
        rw[Y,aq]at D;have WJ:U<2:=cu Y
        refine⟨_,D,λaf ρ a w Z u v I O=>?_⟩
        obtain rfl:=O.2.gC;obtain⟨tQ,jt,jJ⟩:=E.ok Z.root;have:tQ=u:=by
         have h3:=I.2;simp_all
        subst this;cases jJ with
        |eo=>simp at C
        |fy=>simp at C
        |fH=>simp at C
        |own=>grind
        | aF _ _ _ _ _ b off cap us ho hl Dp h1 iI hc hr=>
         refine⟨_,Pf w t e _ b off _ cap kk iv he hn C.1 C.2,b,_,rfl,Dp,hl,λj x T=>⟨pn t' U _ WJ j x T,us _ j,?_,hr _ C.2 j x T⟩⟩
         grind
       | false=>
        rw[Y,av]at D;have WJ:¬ U<2:=λde=>by have h9:Nat.blt U 2=true:=jc de;rw[h9]at Y;cases Y
        refine⟨_,D,λaf ρ a w Z u v I O=>?_⟩
        obtain rfl:=O.2.gC;obtain⟨tQ,jt,jJ⟩:=E.ok Z.root;have:tQ=u:=by
         have h3:=I.2;simp_all
        subst this;cases jJ with
        |eo=>simp at C
        |fy=>simp at C
        |fH=>simp at C
        |aF _ _ _ _ _ _ _ _ _ ho=>omega
        | own _ _ _ _ _ b cap cs us pJ hh hs tV r7 hc hr=>
         refine⟨_,Pf w t e _ b 0 _ cap kk iv he hn C.1 C.2,_,rfl,?_⟩;rw[Bc 0 _ _ jt pJ];simp
      ·cases D
     ·cases D
    ·cases D
   ·cases h
  ·cases h
def agK{t ty:TypeId}{x:A}{k:A->ah X}(h:Bi P σ t x k=some r):∃ y,k y=some r/\∀ af ρ a w,Rl w0 N af ρ σ a w->∀ u,RA w w0.heap.size af ρ x u->
  ∃v,(Builtin.len_ #[t] ty #[u]).run P w = .ok v w/\RA w w0.heap.size af ρ y v:=by
 unfold Bi at h;split at h
 ·rename_i y;have key:∃ z,(∀ af ρ a w,Rl w0 N af ρ σ a w->∀ u,dK w w0.heap.size af ρ y u->∃ q,RV w w0.heap.size af q z u)/\(match z with
    |.sl _ _ _ l=>(match P.underlying t with|some (.slice _)=>k (.lf (.v (.int .i64 (l.length:Int))))|_=>none)
    |.nil=>(match P.underlying t with|some (.slice _)=>k (.lf (.v (.int .i64 0)))|_=>none)
    |.str s=>(match P.underlying t with|some .string=>k (.lf (.v (.int .i64 (s.size:Int))))|_=>none)
    |_=>none)=some r:=by
   cases y with
   |v z=>exact⟨z,λaf ρ a w _ u D=>⟨[],D.2⟩,h⟩
   |dead=>cases h
   | own q=>
    obtain⟨z,T,h⟩:=r8 q _ h
    refine⟨z,λaf ρ a w I u D=>?_,h⟩
    obtain⟨v,Y,O⟩:=T.ok I.root;have U:=D.2;rw[Y]at U;injection U with U;subst U;exact⟨q,O⟩
  obtain⟨z,T,C⟩:=key;clear h;split at C
  ·rename_i Z g qn l;split at C
   ·rename_i e E
    refine⟨_,C,λaf ρ a w I u D=>?_⟩
    obtain⟨q,O⟩:=T af ρ a w I u D;cases O with
    |eo=>exact⟨_,by simp[Builtin.len_,gF E,goInt],rfl,.int _ _ _⟩
    |fy=>exact⟨_,by simp[Builtin.len_,gF E,goInt],rfl,.int _ _ _⟩
    |fH=>exact⟨_,by simp[Builtin.len_,gF E,goInt],rfl,.int _ _ _⟩
    |aF=>exact⟨_,by simp[Builtin.len_,gF E,goInt],rfl,.int _ _ _⟩
    |own=>exact⟨_,by simp[Builtin.len_,gF E,goInt],rfl,.int _ _ _⟩
   ·cases C
  ·split at C
   ·rename_i e E
    refine⟨_,C,λaf ρ a w I u D=>?_⟩
    obtain⟨q,O⟩:=T af ρ a w I u D;cases O;exact⟨_,by simp[Builtin.len_,gF E,goInt],rfl,.int _ _ _⟩
   ·cases C
  ·split at C
   ·rename_i E
    refine⟨_,C,λaf ρ a w I u D=>?_⟩
    obtain⟨q,O⟩:=T af ρ a w I u D;obtain rfl:=O.wY;exact⟨_,by simp[Builtin.len_,gF E,goInt],rfl,.int _ _ _⟩
   ·cases C
  ·cases C
 ·split at h
  ·rename_i e E
   refine⟨_,h,λaf ρ a w I u D=>?_⟩
   obtain⟨A,n,c,Y,h1,C,rfl⟩:=D;exact⟨_,by cases A<;>simp[sliced,Builtin.len_,gF E,goInt],rfl,.int _ _ _⟩
  ·cases h
 ·cases h
def Pg{p:Bool×aa Lf}{y:A}(h:yY p=some y){u:Value}(C:RP w B af ρ p u):RA w B af ρ y u:=by
 unfold yY at h;split at h
 ·injection h with h;subst h;exact C
 ·rename_i z;injection h with h;subst h;obtain⟨D,E,I⟩:=C.2 0 z rfl;have:u=D:=by simpa using E
  subst this;exact I
 ·cases h
def agL{x:A}{i:Nat}{k:A -> ah X}(h:Bj x i k=some r):∃ y,k y=some r /\ ∀ (w:World) (B:Nat) (af:bh) (ρ:Nat -> Loc) (u:Value),RA w B af ρ x u ->
  ∃v,(Instr.extract u i).run P w = .ok v w/\RA w B af ρ y v:=by
 unfold Bj at h;split at h
 ·rename_i xs;split at h
  ·rename_i y C
   refine⟨y,h,λw B af ρ u E=>?_⟩
   obtain⟨us,rfl,U,I⟩:=E;cases D:xs[i]? with
   |none=>simp_all
   | some p=>
    rw[D]at C;obtain⟨v,O,T⟩:=I i p D;exact⟨v,by simp[Instr.extract,O],Pg C T⟩
  ·cases h
 ·cases h
def WK{k:aa Nat}(h:cD d k=true):[d] <:+ k:=by
 have h:k.getLast?=some d:=by simpa [cD]using h
 obtain⟨y,C⟩:=List.getLast?_eq_some_iff.1 h;simp_all
def J5{j i s:Nat}{q:aa Nat}(C:q≠[]):cD d (j :: i :: s :: q)=cD d q:=by
 cases q with
 |nil=>simp_all
 |cons x q=>simp[cD]
structure Dq (w w':World) (af az:bh) (d:Nat):Prop where
 size:w.heap.size<=w'.heap.size
 block:∀b,b<w.heap.size->af b≠some [d]->w'.heap[b]?=w.heap[b]?
 Ph:∀b,b<w.heap.size->az b=af b
 ne:∀b,af b≠some []
def Dq.tr(D:Dq w w' af az d)(I:∀ b k,af b=some k->b<w.heap.size)(O:∀ r,r≠d->ρ' r=ρ r):Tr w w' af az ρ ρ' (cD d) (λr=>Nat.beq r d):=by
 refine⟨D.size,λb E C=>⟨D.block b E (by rw[C];simp),(D.Ph b E).trans C⟩,λb k C T=>⟨D.block b (I b k C) ?_,(D.Ph b (I b k C)).trans C⟩,λr U=>O r (by rintro rfl;simp at U),λj i s x q=>J5 (by simp),λb E=>absurd E (D.ne b)⟩
 rw[C];intro e;injection e with e;subst e;simp[cD]at T
def RA.Pj{x:A}{u:Value}(h:RA w B af ρ x u)(C:Dq w w' af az d)(D:∀b k,af b=some k->b<w.heap.size)(E:∀r,r≠d->ρ' r=ρ r):RA w' B az ρ' (x.drop d) u:=h.tr (C.tr D E) (vk (λ_ h=>h) λ_=>ow)
def dS.Pj{r:Nat}(C:r≠d){x:aQ}(h:dS w B af ρ r x)(D:Dq w w' af az d)(E:∀b k,af b=some k->b<w.heap.size)(I:∀r,r≠d->ρ' r=ρ r):dS w' B az ρ' r (x.drop d):=h.tr (D.tr E I) (vk (λ_ h=>h) λ_=>ow) (by simpa [cD]using C) (ow C)
def Rl.yZ{x:aQ}(h:Rl w0 N af ρ σ a w)(Y:w0.F d=none)(E:iS w0 w w')(I:Dq w w' af az d)(Z:∀ b k,w.heap.size <= b -> az b=some k -> b<w'.heap.size/\k≠[])(O:∀ r,r≠d -> ρ' r=ρ r)(hx:dS w' w0.heap.size az ρ' d x):
  Rl w0 N az ρ' ((σ.drop d).root d x) a w':=by
 have U:=λb k E=>(h.cN b k E).2.1
 refine⟨h.below.trans E,λb k T=>?_,λr y C=>?_,λk=>(h.tmp k).Pj I U O,h.size,h.defers,λr l' D=>(O r (by rintro rfl;rw[Y]at D;cases D)).trans (h.fix r l' D),h.cF⟩
 ·rcases Nat.lt_or_ge b w.heap.size with de | ox
  ·rw[I.Ph b de]at T;have:=h.cN b k T;exact⟨this.1,Nat.lt_of_lt_of_le this.2.1 I.size,this.2.2⟩
  ·have:=Z b k ox T;exact⟨.inl (Nat.le_trans h.below.size ox),this.1,this.2⟩
 ·by_cases D:r=d
  ·subst D;have C:(bD (σ.drop r).m r _) r=some y:=C;rw[bI]at C;simp_all
  ·have C:(bD (σ.drop d).m d (some x)) r=some y:=C;rw[ck _ _ _ D]at C;have E:Nat.beq r d=false:=by
    cases E:Nat.beq r d with
    |false=>rfl
    |true=>simp_all
   simp only[S.drop,E,av]at C;cases hm:σ.m r with
   |none=>simp_all
   | some z=>
    rw[hm]at C;injection C with C;subst C;exact(h.root r z hm).Pj D I U O
end
def gG(q:Nat)(nk k:aa Nat):aa Nat:=bif cD q k then k.dropLast++nk else k
def bh.gG(af:bh)(q:Nat)(nk:aa Nat):bh:=λb=>(af b).map (Proofs.YtgjfmljpdnnihaaGreat.gG q nk)
section
variable {P:Program} {w w':World} {w0:Wd} {B N:Nat} {af az:bh} {ρ ρ':Nat->Loc} {σ:S} {a:Act} {X:Type} {d q:Nat} {nk:aa Nat}
def WL:gG q nk [q]=nk:=by simp[gG,cD]
def agM{k:aa Nat}(h:cD q k=false):gG q nk k=k:=by simp[gG,h]
def agN{j i s:Nat}{k:aa Nat}(C:k≠[]):gG q nk (j :: i :: s :: k)=j :: i :: s :: gG q nk k:=by
 unfold gG;rw[J5 C];cases cD q k with
 |false=>rfl
 | true=>
  cases k with
  |nil=>simp_all
  |cons x k=>simp
def WM{k:aa Nat}(C:nk≠[])(D:k≠[]):gG q nk k≠[]:=by
 unfold gG;cases cD q k with
 |false=>simp_all
 |true=>simp[C]
def bh.Pm{b:Nat}(h:af b=none):af.gG q nk b=none:=by simp[bh.gG,h]
def bh.WN{b:Nat}{k:aa Nat}(h:af b=some k):af.gG q nk b=some (Proofs.YtgjfmljpdnnihaaGreat.gG q nk k):=by simp[bh.gG,h]
def bh.WO{b:Nat}{k:aa Nat}(h:af b=some k)(C:cD q k=false):af.gG q nk b=some k:=by rw[bh.WN h,agM C]
def RV.gG{k:aa Nat}{x:V}{v:Value}(h:RV w B af k x v)(E:∀ b,af b≠some []):RV w B (af.gG q nk) (Proofs.YtgjfmljpdnnihaaGreat.gG q nk k) x v:=
 h.map (Q:=λk C=>C=Proofs.YtgjfmljpdnnihaaGreat.gG q nk k) (dH _) (λb _ h=>⟨rfl,bh.Pm h⟩) (λb k C _ D e=>by
  subst e;exact⟨rfl,bh.WN D,λj i s=>(agN λe=>E b (e ▸ D)).symm⟩) (.inr rfl)
structure Rel (q:Nat) (af az:bh):Prop where
 ne:∀b,af b≠some []
 none:∀b,af b=none->az b=Option.none
 iQ:∀b k,af b=some k->cD q k=false->az b=some k
def FK(C:∀b,af b≠some []):Rel q af (af.gG q nk):=⟨C,λ_ h=>bh.Pm h,λ_ _ h D=>bh.WO h D⟩
def Rel.tr(C:Rel q af az):Tr w w af az ρ ρ (cD q) (λ_=>false):=
 ⟨dH _,λb _ D=>⟨rfl,C.none b D⟩,λb k D E=>⟨rfl,C.iQ b k D E⟩,λ_ _=>rfl,λj i s x q=>J5 (by simp),λb I=>absurd I (C.ne b)⟩
def RV.rel(C:Rel q af az){k:aa Nat}{x:V}{v:Value}(h:RV w B af k x v)(D:cD q k=false\/x.aF=true):RV w B az k x v:=h.tr (ρ:=λ_=>.dA undef) C.tr D.symm
def agO(C:Rel q af az)(k:aa Nat)(u:Value)(D:cD q k=false)(h:cK w af ρ k=some u):cK w az ρ k=some u:=O6 C.tr k u (.inr D) (O7 k) h
def eC.rel(C:Rel q af az){cs:aa Lf}{us:Array Value}(h:eC w B af ρ cs us):eC w B az ρ (cs.map (Lf.drop q)) us:=h.tr C.tr (vk (λ_ h=>h) λ_ _=>rfl)
def RA.rel(C:Rel q af az){x:A}{u:Value}(h:RA w B af ρ x u):RA w B az ρ (x.drop q) u:=h.tr C.tr (vk (λ_ h=>h) λ_ _=>rfl)
def dS.rel(C:Rel q af az){r:Nat}(D:r≠q){x:aQ}(h:dS w B af ρ r x):dS w B az ρ r (x.drop q):=h.tr C.tr (vk (λ_ h=>h) λ_ _=>rfl) (by simpa [cD]using D) rfl
def Rl.w8(h:Rl w0 N af ρ σ a w):∀b,af b≠some []:=λb C=>(h.cN b [] C).2.2 rfl
def Rl.rel(h:Rl w0 N af ρ σ a w)(E:Rel q af az)(T:∀ b k,az b=some k -> (∃ D,af b=some D)/\k≠[]):Rl w0 N az ρ (σ.drop q) a w:=by
 refine⟨h.below,λb k U=>?_,λr x C=>?_,λk=>(h.tmp k).rel E,h.size,h.defers,h.fix,h.cF⟩
 ·obtain⟨⟨D,Y⟩,hk⟩:=T b k U;have:=h.cN b D Y;simp_all
 ·have C:(bif Nat.beq r q then none else (σ.m r).map _)=some x:=C;cases I:Nat.beq r q with
  |true=>simp_all
  | false=>
   rw[I]at C;have Z:r≠q:=by rintro rfl;simp at I
   cases O:σ.m r with
   |none=>simp_all
   | some y=>
    rw[O]at C;injection C with C;subst C;exact(h.root r y O).rel E Z
def Rl.agP{z:V}(h:Rl w0 N af ρ σ a w)(T:σ.m q=some (.sl z))(U:nk≠[]):∃ u,ρ q = .dA u/\Rl w0 N (af.gG q nk) ρ (σ.drop q) a w/\RV w w0.heap.size (af.gG q nk) nk z u:=by
 have E:=h.w8;have I:=h.root q _ T;generalize C:aQ.sl z=x at I;cases I with
 |aA=>cases C
 |mp=>cases C
 |gh=>cases C
 | sl u y Y Z=>
  injection C with C;subst C
  refine⟨u,Y,h.rel (FK E) λb k D=>?_,?_⟩
  ·unfold bh.gG at D;cases O:af b with
   |none=>simp_all
   | some k'=>
    rw[O]at D;injection D with D;subst D;exact⟨⟨k',rfl⟩,WM U (λe=>E b (by rw[O,e]))⟩
  ·have:=Z.gG (q:=q) (nk:=nk) E
   rwa [WL]at this
def gN(r:Nat)(key:Nat->aa Nat):Nat->Nat->aa Lf->S->ah (aa V×S)
 |_,_,[],σ=>some ([],σ)
 |f+1,j,.v x::xs,σ=>(gN r key f (j+1) xs σ).map λp=>(x::p.1,p.2)
 | f+1,j,.own [q] :: xs,σ=>match σ.m q with
  |some (.sl z)=>bif Nat.beq q r then none else (gN r key f (j+1) (xs.map (Lf.drop q)) (σ.drop q)).map λp=>(z::p.1,p.2)
  |_=>none
 |_,_,_,_=>none
def J6{r:Nat}{key:Nat->aa Nat}(xd:∀ j,cD r (key j)=true):∀ (f j:Nat) (xs:aa Lf) (σ I:S) (O:aa V),gN r key f j xs σ=some (O,I)->∀ af ρ a w,Rl w0 N af ρ σ a w->∀ us:aa Value,eC w w0.heap.size af ρ xs us.toArray->
  ∃ az,Rl w0 N az ρ I a w/\O.length=xs.length/\(∀ (n:Nat) x,O[n]?=some x->∃ u,us[n]?=some u/\RV w w0.heap.size az (key (j+n)) x u)/\(∀ k x v,cD r k=true->RV w w0.heap.size af k x v->RV w w0.heap.size az k x v)/\
   (∀x,σ.m r=some (.sl x)->I.m r=some (.sl x))/\(∀k u,cD r k=true->cK w af ρ k=some u->cK w az ρ k=some u)/\(∀b,af b=some [r]->az b=some [r])/\(∀b,af b=none->az b=none)
 | 0,j,[],σ,I,O,h,af,ρ,a,w,C,us,T=>by
  simp only[gN,ig,Prod.mk.injEq]at h;obtain⟨rfl,rfl⟩:=h;exact⟨af,C,rfl,by simp,λ_ _ _ _ h=>h,λ_ h=>h,λ_ _ _ h=>h,λ_ h=>h,λ_ h=>h⟩
 | f+1,j,[],σ,I,O,h,af,ρ,a,w,C,us,T=>by
  simp only[gN,ig,Prod.mk.injEq]at h;obtain⟨rfl,rfl⟩:=h;exact⟨af,C,rfl,by simp,λ_ _ _ _ h=>h,λ_ h=>h,λ_ _ _ h=>h,λ_ h=>h,λ_ h=>h⟩
 |0,j,x::xs,σ,I,O,h,af,ρ,a,w,C,us,T=>by simp[gN]at h
 | f+1,j,x :: xs,σ,I,O,h,af,ρ,a,w,C,us,T=>by
  obtain⟨Z,us,rfl⟩:∃ Z J7,us=Z :: J7:=by
   cases us with
   |nil=>have:=T.1;simp at this
   |cons Z us=>exact⟨_,_,rfl⟩
  have kj:dK w w0.heap.size af ρ x Z:=by
   obtain⟨u,e,h⟩:=T.2 0 x rfl;simp at e;subst e;exact h
  have ki:eC w w0.heap.size af ρ xs us.toArray:=⟨by have:=T.1;simpa using this,λn y D=>by
   obtain⟨u,e,h⟩:=T.2 (n+1) y D;exact⟨u,by simpa using e,h⟩⟩
  cases x with
  | v x=>
   simp only[gN,Option.map_eq_some_iff]at h;obtain⟨⟨Pn,sk⟩,h,e⟩:=h;simp only[Prod.mk.injEq]at e;obtain⟨rfl,rfl⟩:=e;obtain⟨az,h1,h2,h3,E,h5⟩:=J6 xd f (j+1) xs σ sk Pn h af ρ a w C us ki
   refine⟨az,h1,by simp[h2],λn y D=>?_,E,h5⟩
   cases n with
   | zero=>
    simp at D;subst D;refine⟨Z,rfl,E _ _ _ (xd _) (kj.2.key kj.1)⟩
   | succ n=>
    obtain⟨u,e,h⟩:=h3 n y (by simpa using D);exact⟨u,by simpa using e,by rw[show j+(n+1)=j+1+n by omega];exact h⟩
  |dead=>simp[gN]at h
  | own k=>
   match k,kj,h with
   |[],_,h=>simp[gN]at h
   |_::_::_,_,h=>simp[gN]at h
   | [q],kj,h=>
    simp only[gN]at h;split at h
    ·rename_i z hz;cases Po:Nat.beq q r with
     |true=>rw[Po]at h;cases h
     | false=>
      rw[Po,av,Option.map_eq_some_iff]at h;obtain⟨⟨Pn,sk⟩,agQ,e⟩:=h;simp only[Prod.mk.injEq]at e;obtain⟨rfl,rfl⟩:=e;have cm:q≠r:=by rintro rfl;simp at Po
      have WQ:key j≠[]:=by intro e;have:=xd j;rw[e]at this;simp[cD]at this
      obtain⟨u,bX,dm,jJ⟩:=C.agP hz WQ;have FL:u=Z:=by
       have E:=kj.2;simp only[cK,bX]at E;injection E
      subst FL;have nJ:∀ k,cD r k=true->cD q k=false:=by
       intro k U;cases hq:cD q k with
       |false=>rfl
       | true=>
        exfalso;have h1:=WK U;have h2:=WK hq;exact cm (WA h1 h2)
      obtain⟨az,h1,h2,h3,E,h5,h6,h7,h8⟩:=J6 xd f (j+1) (xs.map (Lf.drop q)) (σ.drop q) sk Pn agQ _ ρ a w dm us (ki.rel (FK C.w8))
      refine⟨az,h1,by simp[h2],λn y D=>?_,λk x v U hv=>E _ _ _ U (hv.rel (FK C.w8) (.inl (nJ k U))),λx hx=>h5 x ?_,λk v U hv=>h6 k v U (agO (FK C.w8) k v (nJ k U) hv),λb Y=>h7 b (bh.WO Y (by simpa [cD]using λe=>cm e.symm)),λb Y=>h8 b (bh.Pm Y)⟩
      ·cases n with
       | zero=>
        simp at D;subst D;exact⟨u,rfl,E _ _ _ (xd _) jJ⟩
       | succ n=>
        obtain⟨u,e,h⟩:=h3 n y (by simpa using D);exact⟨u,by simpa using e,by rw[show j+(n+1)=j+1+n by omega];exact h⟩
      ·have Y:Nat.beq r q=false:=by
        cases Y:Nat.beq r q with
        |false=>rfl
        |true=>exact absurd (cH Y).symm cm
       show (bif Nat.beq r q then none else (σ.m r).map (aQ.drop q))=_;rw[Y,hx];rfl
    ·cases h
end
def nK:Value->Lf
 |.int k n=>.v (.int k n)
 |.bool b=>.v (.bool b)
 |.string s=>.v (.str s)
 |.slice none 0 0=>.v .nil
 |_=>.dead
def zeroV:Value->ah V
 |.int k n=>some (.int k n)
 |.bool b=>some (.bool b)
 |.string s=>some (.str s)
 |.slice none 0 0=>some .nil
 |_=>none
def FM:aa Value->ah (aa V)
 |[]=>some []
 | v :: C=>match zeroV v,FM C with
  |some x,some xs=>some (x::xs)
  |_,_=>none
def zeroOf(P:Program)(e:TypeId):ah Value:=(P.info? e).bind (·.zero)
def bytesOf(P:Program)(e:TypeId):ah Nat:=(P.info? e).map (·.bytes)
def gO{X:Type}(N:Nat)(σ:S)(d:Nat)(x:aQ)(y:A)(k:S->ah X):ah X:=
 bif Nat.blt d N then k (((σ.drop d).root d x).set d y)else none
def qV{X:Type}(P:Program)(N:Nat)(σ:S)(d:Nat)(e:TypeId)(k:S->ah X):ah X:=
 match zeroOf P e with
 |some z=>gO N σ d (.aA (z.cells.toList.map nK)) (.aJ d 0) k
 |none=>none
def vr(P:Program)(t:TypeId):ah (TypeId×TC):=
 match pq P t with
 |none=>none
 | some e=>match Wt e,je P e,bytesOf P e with
  |some tc,some n,some b=>bif Nat.beq n (aC tc)&&Nat.ble b 65536 then some (e,tc)else none
  |_,_,_=>none
def J8(P:Program)(e:TypeId)(tc:TC):ah (T tc):=
 match zeroOf P e with
 |none=>none
 | some z=>match FM z.cells.toList with
  |none=>none
  |some C=>dec tc (full tc) C
def zb{X:Type}(P:Program)(N:Nat)(σ:S)(d:Nat)(t:TypeId)(l c:A)(k:S->ah X):ah X:=
 match vr P t,l,c with
 | some (e,tc),.lf (.v (.int _ n)),.lf (.v (.int _ c))=>match J8 P e tc with
  |none=>none
  |some z=>if 0<=n/\n<=c/\c<1073741824 then gO N σ d (.sl (.sl tc (full tc+2) false (List.replicate n.toNat z))) (.lf (.own [d])) k else none
 |_,_,_=>none
def V.J9(t:TC):V->ah (aa (T t))
 |.sl C _ _ l=>if h:C=t then some (h ▸ l)else none
 |.nil=>some []
 |_=>none
def tX{X:Type}(P:Program)(N:Nat)(σ:S)(d:Nat)(t:TypeId)(x y:A)(k:S->ah X):ah X:=
 match vr P t with
 | some (e,tc)=>bif Nat.beq (full tc) 0&&(zeroOf P e).any (λz=>Nat.beq z.cells.size (aC tc))then r9 σ y λC=>(match C.J9 tc with
  |none=>none
  | some l2=>match x with
   |.lf (.v .nil)=>bif bV l2.length then gO N σ d (.sl (.sl tc 2 false l2)) (.lf (.own [d])) k else none
   | .lf (.own [r])=>(match σ.m r with
    |some (.sl (.sl D (o+2) q l))=>if h:D=tc then (bif Nat.blt d N&&(Nat.blt r N ||Nat.ble 60000 r)&&bV (l.length+l2.length)then k (((σ.drop r).root r (.sl (.sl tc (o+2) false ((h ▸ l)++l2)))).set d (.lf (.own [r])))else none)else none
    |_=>none)
   |_=>none)else none
 |none=>none
section
variable {P:Program} {w w':World} {w0:Wd} {B N:Nat} {af az:bh} {ρ ρ':Nat->Loc} {σ:S} {a:Act} {X:Type} {d:Nat} {r:X} {q:Nat} {o:Oper}
def Ka(v:Value):dK w B af ρ (nK v) v:=by
 unfold nK;split
 ·exact⟨rfl,.int _ _ _⟩
 ·exact⟨rfl,.bool _ _⟩
 ·exact⟨rfl,.str _ _⟩
 ·exact⟨rfl,.nil _⟩
 ·trivial
def WR{v:Value}{x:V}(h:zeroV v=some x)(q:aa Nat):RV w B af q x v:=by
 unfold zeroV at h;split at h<;>first|(injection h with h;subst h;first|exact .int _ _ _|exact .bool _ _|exact .str _ _|exact .nil _)|cases h
def Pp:∀ (C:aa Value) (xs:aa V),FM C=some xs -> xs.length=C.length /\ ∀ (j:Nat) x,xs[j]?=some x -> ∃ v,C[j]?=some v/\zeroV v=some x
 | [],xs,h=>by
  simp[FM]at h;simp_all
 | v :: C,xs,h=>by
  unfold FM at h;split at h
  ·rename_i y ys E D;injection h with h;subst h;obtain⟨I,O⟩:=Pp C ys D
   grind
  ·cases h
def iS.WS(w0:Wd)(w:World)(o:Obj)(h:w0.heap.size<=w.heap.size):iS w0 w (w.alloc o):=.of ((Below.refl w0.heap.size w).alloc h o) (dH _)
def Rl.Ds{c:Array Value}{e:TypeId}{x:aQ}{ρ':Nat -> Loc}(h:Rl w0 N af ρ σ a w)(E:w0.F d=none)(I:∀ r,r≠d -> ρ' r=ρ r)
  (O:dS (w.alloc (.cells c e)) w0.heap.size (bD af w.heap.size (some [d])) ρ' d x):Rl w0 N (bD af w.heap.size (some [d])) ρ' ((σ.drop d).root d x) a (w.alloc (.cells c e)):=by
 refine h.yZ E (iS.WS w0 w _ h.below.size) ⟨by simp,λb D _=>Below.heap_alloc w _ b D,λb D=>ck _ _ _ (by omega),λb D=>(h.cN b [] D).2.2 rfl⟩ (λb k D C=>?_) I O
 by_cases e:b=w.heap.size
 ·subst e;rw[bI]at C;injection C with C;subst C;simp_all
 ·rw[ck _ _ _ e]at C;have:=(h.cN b k C).2.1;omega
def oC{x:aQ}{y:A}{k:S -> ah X}(h:gO N σ d x y k=some r):d<N/\k (((σ.drop d).root d x).set d y)=some r:=by
 unfold gO at h;cases C:Nat.blt d N with
 |false=>simp_all
 |true=>simp_all
def agR{e:TypeId}{k:S -> ah X}(h:qV P N σ d e k=some r):∃ E,k E=some r /\ ∀ af ρ a w,Rl w0 N af ρ σ a w -> ∃ w' az ρ' v,(Instr.alloc e true (.tuple #[])).run P w = .ok v w'/\Rl w0 N az ρ' E (a.put (some d) v) w':=by
 unfold qV at h;split at h
 ·rename_i z D;obtain⟨I,h⟩:=oC h
  refine⟨_,h,λaf ρ a w O=>?_⟩
  have Y:(Instr.alloc e true (.tuple #[])).run P w = .ok (.pointer (some ⟨w.heap.size,0,none⟩)) (w.alloc (.cells z.cells e)):=by
   unfold zeroOf at D;cases hi:P.info? e with
   |none=>simp_all
   | some i=>
    have D:i.zero=some z:=by simpa [hi]using D
    simp[Instr.alloc,zeroValue,typeInfo,hi,D,newVar,newRow]
  refine⟨_,bD af w.heap.size (some [d]),bD ρ d (.aA w.heap.size 0),_,Y,(O.Ds (O.cF d (.inl I)) (λr Z=>ck _ _ _ Z) ?_).set ⟨w.heap.size,0,bI _ _ _,rfl⟩ I⟩
  refine .aA w.heap.size 0 z.cells e _ (λj=>z.cells.getD j undef) (bI _ _ _) (bI _ _ _) (heap_alloc_new w _) (by simp) λj x C=>?_
  rw[ef]at C;cases T:z.cells.toList[j]? with
  |none=>simp_all
  | some v=>
   rw[T]at C;injection C with C;subst C;have U:z.cells[j]?=some v:=by simpa using T
   have hg:z.cells.getD j undef=v:=by rw[gT,U];rfl
   rw[hg,fe];exact⟨U,Ka v⟩
 ·cases h
def zc{t e:TypeId}{tc:TC}(h:vr P t=some (e,tc)):P.underlying t=some (.slice e)/\tid tc=e /\ ∃ i,P.info? e=some i/\i.size=aC tc/\i.bytes <= 65536:=by
 unfold vr at h;split at h
 ·cases h
 ·rename_i E C;split at h
  ·rename_i I n b O T U;cases D:(Nat.beq n (aC I)&&Nat.ble b 65536)with
   |false=>simp_all
   | true=>
    rw[D,aq]at h;injection h with h;injection h with Y Z;subst Y Z;rw[aK]at D;refine⟨?_,agu O,?_⟩
    ·unfold pq at C;split at C
     ·simp_all
     ·cases C
    ·unfold je at T;unfold bytesOf at U;cases hi:P.info? E with
     |none=>simp_all
     |some i =>simp_all
  ·cases h
def WT(z:Array Value)(n i j:Nat)(C:j<z.size)(h:i*z.size+j<n):(madeCells z n)[i*z.size+j]?=some z[j]:=by
 have D:(i*z.size+j) % z.size=j:=by rw[Nat.add_comm,Nat.add_mul_mod_self_right,Nat.mod_eq_of_lt C]
 simp[madeCells,Array.getElem?_map,Array.getElem?_range,h,if_true,Option.map_some,D];simp[C]
def agS{t:TypeId}{l c:A}{k:S -> ah X}(h:zb P N σ d t l c k=some r):∃ cB,k cB=some r /\ ∀ af ρ a w,Rl w0 N af ρ σ a w -> ∀ u v,RA w w0.heap.size af ρ l u -> RA w w0.heap.size af ρ c v ->
  ∃w' az ρ' x,(Instr.makeSlice t u v).run P w = .ok x w'/\Rl w0 N az ρ' cB (a.put (some d) x) w':=by
 unfold zb at h;split at h
 ·rename_i e tc kl n kc c oD;split at h
  ·cases h
  ·rename_i z D;split at h
   ·rename_i hb;obtain⟨hd,h⟩:=oC h
    refine⟨_,h,λaf ρ a w hR u v hu T=>?_⟩
    obtain rfl:=hu.2.gC;obtain rfl:=T.2.gC;obtain⟨fW,ht,i,hi,ia,jE⟩:=zc oD;unfold J8 at D;split at D
    ·cases D
    ·rename_i C Dt;split at D
     ·cases D
     ·rename_i vs jK;have oE:i.zero=some C:=by unfold zeroOf at Dt;simpa [hi]using Dt
      obtain⟨l6,ko⟩:=Pp _ _ jK;have U:=lC tc (full tc) vs z D;have O:C.cells.size=aC tc:=by rw[<- kf tc (full tc) z,<- U.1,l6];simp
      have OQ:(i.bytes:Int)*c <= 281474976710656:=by
       have h1:(i.bytes:Int) <= 65536:=by omega
       have h2:i.bytes*c <= 65536*c:=Int.mul_le_mul_of_nonneg_right h1 (by omega);omega
      have cY:=run_make (P:=P) w t e i C fW hi oE kl kc n c hb.1 hb.2.1 OQ (by omega);rw[ia,<- O]at cY
      refine⟨_,bD af w.heap.size (some [d]),bD ρ d (.dA (.slice (some ⟨w.heap.size,0,none⟩) n.toNat c.toNat)),_,cY,(hR.Ds (hR.cF d (.inl hd)) (λr hr=>ck _ _ _ hr) ?_).set ⟨rfl,?_⟩ hd⟩
      ·refine .sl _ _ (bI _ _ _) ?_;have hlen:(List.replicate n.toNat z).length=n.toNat:=by simp
       have:=RV.own (w:=w.alloc (.cells (madeCells C.cells (c.toNat*C.cells.size)) e)) (B:=w0.heap.size) (af:=bD af w.heap.size (some [d])) [d] tc (full tc) false (List.replicate n.toNat z) w.heap.size c.toNat (madeCells C.cells (c.toNat*C.cells.size)) (λ_ j=>C.cells.getD j undef)
        (bI _ _ _) (by rw[ht];exact heap_alloc_new w _) (by rw[size_madeCells,O]) (by rw[hlen];omega) ⟨by unfold maxLen;omega,λh=>by cases h⟩ (λY h' j x E=>?_) (λY h' j x E=>?_)
       ·rw[hlen]at this;exact this
       ·rw[List.getElem_replicate]at E;have I:j<aC tc:=by have:=(dI.1 E).1;rwa [kf]at this
        rw[hlen]at h';rw[<- O]at I;rw[<- O,WT C.cells _ Y j I (by
         have:(Y+1)*C.cells.size <= c.toNat*C.cells.size:=jF _ (by omega);rw[Nat.succ_mul]at this;omega)]
        simp[gT,I]
       ·rw[List.getElem_replicate]at E;have I:j<(enc tc (full tc) z).length:=(dI.1 E).1;rw[<- U.1]at I;have Z:=bK I;generalize vs[j]=y at Z;obtain⟨v,T,Pu⟩:=ko j y Z;have tQ:C.cells[j]?=some v:=by simpa using T
        have hg:C.cells.getD j undef=v:=by rw[gT,tQ];rfl
        rw[hg];exact(WR Pu _).wk (U.2 j y x Z E)
      ·simp[cK,bI]
   ·cases h
 ·cases h
def Dv(t:TC)(h:full t=0)(o C:Nat)(x:T t):enc t o x=enc t C x:=by
 have key:∀ o,enc t o x=enc t 0 x:=by
  intro o;rw[Wu t o x];have:=yQ t o x h
  conv=>lhs;rw[<- List.map_id (enc t o x)]
  apply List.map_congr_left;intro y D;have E:=this y D;cases y<;>first|rfl|cases E
 simp_all
def xe(u:Nat->Nat->Value)(n s:Nat):aa Value:=(List.range (n*s)).map λk=>u (k / s) (k % s)
def WU(u:Nat -> Nat -> Value)(n s i j:Nat)(hi:i<n)(C:j<s):(xe u n s)[i*s+j]?=some (u i j):=by
 have D:i*s+j<n*s:=by
  have:(i+1)*s <= n*s:=jF _ hi
  grind
 have E:(i*s+j) / s=i:=by rw[Nat.add_comm,Nat.add_mul_div_right _ _ (by omega),Nat.div_eq_of_lt C,fe]
 have I:(i*s+j) % s=j:=by rw[Nat.add_comm,Nat.add_mul_mod_self_right,Nat.mod_eq_of_lt C]
 simp[xe,D,E,I]
def Kb(u:Nat -> Nat -> Value)(n s k:Nat)(v:Value)(D:0<s)(h:(xe u n s)[k]?=some v):∃ i j,k=i*s+j/\i<n/\j<s/\v=u i j:=by
 have C:k<n*s:=by
  have:=(dI.1 h).1
  simpa [xe]using this
 refine⟨k / s,k % s,by rw[Nat.mul_comm];exact(Nat.div_add_mod k s).symm,Nat.div_lt_of_lt_mul (by rw[Nat.mul_comm];exact C),Nat.mod_lt _ D,?_⟩;simp[xe,ef,List.getElem?_range C,Option.map_some,ig]at h;simp_all
def Bm(t:TC)(o:Nat)(x:T t)(j:Nat)(C:j<aC t):∃y,(enc t o x)[j]?=some y:=⟨_,bK (by rw[kf];exact C)⟩
def xg(t:TC)(l:aa (T t))(C:aa Value):Prop:=
 ∀i (hi:i<l.length) (o j:Nat) x,(enc t o l[i])[j]?=some x->∃v,C[i*aC t+j]?=some v/\v.oneCell'=true/\∀(w':World) (B':Nat) (az:bh) (D:aa Nat),RV w' B' az D x v
def RV.reads{q:aa Nat}{t:TC}{g:Nat}{qn:Bool}{l:aa (T t)}{u:Value}(h:RV w B af q (.sl t g qn l) u)(Y:full t=0):
  ∃A c news,u = .slice A l.length c/\Reads w w.heap.size (aC t) A l.length news/\(∀v∈news,v.oneCell'=true)/\xg t l news:=by
 cases h with
 |eo=>exact⟨none,0,[],rfl,Reads.none_,by simp,λi hi=>by simp at hi⟩
 |fy=>exact⟨_,_,[],rfl,⟨by simp,λh=>by simp at h⟩,by simp,λi hi=>by simp at hi⟩
 |fH=>exact⟨_,_,[],rfl,⟨by simp,λh=>by simp at h⟩,by simp,λi hi=>by simp at hi⟩
 | aF _ _ _ _ _ b off cap us ho hl hb h1 iI hc O=>
  have U:∀ i (hi:i<l.length) j,j<aC t -> (us i j).oneCell'=true:=by
   intro i hi j C;obtain⟨y,I⟩:=Bm t g l[i] j C;exact(O i hi j y I).one
  refine⟨_,cap,xe us l.length (aC t),rfl,⟨by simp[xe],λhn=>⟨b,off,rfl,hb,λk v E=>?_⟩⟩,λv E=>?_,λi hi o j x D=>?_⟩
  ·obtain⟨i,j,rfl,hi,C,rfl⟩:=Kb us _ _ k v (ot t) E;obtain⟨y,I⟩:=Bm t g l[i] j C;exact hc i hi j y I
  ·obtain⟨k,Z⟩:=List.mem_iff_getElem?.1 E;obtain⟨i,j,rfl,hi,C,rfl⟩:=Kb us _ _ k v (ot t) Z;exact U i hi j C
  ·have C:j<aC t:=by have:=(dI.1 D).1;rwa [kf]at this
   rw[Dv t Y o g]at D
   refine⟨us i j,WU us _ _ i j hi C,U i hi j C,λw' B' az q'=>(O i hi j x D).tR (yQ t g l[i] Y x (gy D))⟩
 | own _ _ o _ _ b cap cs us hl hh hs hn hm hc O=>
  have U:∀ i (hi:i<l.length) j,j<aC t -> (us i j).oneCell'=true:=by
   intro i hi j C;obtain⟨y,I⟩:=Bm t o l[i] j C;exact(O i hi j y I).one
  refine⟨_,cap,xe us l.length (aC t),rfl,⟨by simp[xe],λhn=>⟨b,0,rfl,(ic.1 hh).1,λk v E=>?_⟩⟩,λv E=>?_,λi hi o' j x D=>?_⟩
  ·obtain⟨i,j,rfl,hi,C,rfl⟩:=Kb us _ _ k v (ot t) E;obtain⟨y,I⟩:=Bm t o l[i] j C;rw[fe,cell_of_row w b _ cs _ _ hh];simp_all
  ·obtain⟨k,Z⟩:=List.mem_iff_getElem?.1 E;obtain⟨i,j,rfl,hi,C,rfl⟩:=Kb us _ _ k v (ot t) Z;exact U i hi j C
  ·have C:j<aC t:=by have:=(dI.1 D).1;rwa [kf]at this
   rw[Dv t Y o' o]at D
   refine⟨us i j,WU us _ _ i j hi C,U i hi j C,λw' B' az q'=>(O i hi j x D).tR (yQ t o l[i] Y x (gy D))⟩
def RV.WV{q:aa Nat}{t:TC}{o:Nat}{D:Bool}{l:aa (T t)}{u:Value}(h:RV w B af q (.sl t (o+2) D l) u)(E:full t=0){B':Nat}(hB:∀ b,af b=some q -> B' <= b):
  ∃xs,w.ownsRow B' (tid t) (aC t) u l.length xs/\(∀b,u.ownBlock=some b -> af b=some q)/\(D=true -> u.ownBlock≠none)/\xg t l xs:=by
 cases h with
 |fy=>omega
 |fH=>omega
 |eo=>exact⟨[],⟨by simp,.inl ⟨rfl,rfl⟩⟩,by simp[Value.ownBlock],by simp,λi hi=>by simp at hi⟩
 |aF _ _ _ _ _ _ _ _ _ ho=>omega
 | own _ _ _ _ _ b cap cs us O U Y Z hm hc I=>
  refine⟨cs.toList.take _,⟨?_,.inr ⟨b,cap,cs,rfl,hB b O,U,Z,hm.1,Y,rfl⟩⟩,λb' xh=>?_,λ_=>by simp[Value.ownBlock],λi hi o' j x C=>?_⟩
  ·simp_all
  ·have:b=b':=by simpa [Value.ownBlock]using xh
   simp_all
  ·have hj:j<aC t:=by have:=(dI.1 C).1;rwa [kf]at this
   have de:i*aC t+j<l.length*aC t:=by
    have:(i+1)*aC t <= l.length*aC t:=jF _ hi;rw[Nat.succ_mul]at this;omega
   rw[Dv t E o' o]at C
   refine⟨us i j,?_,(I i hi j x C).one,λw' B' az q'=>(I i hi j x C).tR (yQ t o l[i] E x (gy C))⟩
   grind
def xg.append{t:TC}{l l2:aa (T t)}{xs ys:aa Value}(h:xg t l xs)(E:xg t l2 ys)(I:xs.length=l.length*aC t):xg t (l++l2) (xs++ys):=by
 intro i hi o j x C;by_cases D:i<l.length
 ·rw[List.getElem_append_left D]at C;obtain⟨v,O,r⟩:=h i D o j x C
  grind
 ·rw[List.getElem_append_right (by omega)]at C;have U:i-l.length<l2.length:=by rw[List.length_append]at hi;omega
  obtain⟨v,O,r⟩:=E _ U o j x C;refine⟨v,?_,r⟩;have e:i*aC t+j=xs.length+((i-l.length)*aC t+j):=by
   rw[I,Nat.sub_mul];have:l.length*aC t <= i*aC t:=jF _ (by omega);omega
  grind
def Pv{q:aa Nat}{t:TC}{o:Nat}{l:aa (T t)}{u:Value}{xs:aa Value}{B':Nat}(h:w.ownsRow B' (tid t) (aC t) u l.length xs)(D:xg t l xs)(E:∀ b,u.ownBlock=some b -> af b=some q):
  RV w B af q (.sl t (o+2) false l) u:=by
 rcases h.2 with ⟨rfl,I⟩|⟨b,cap,cs,rfl,hB,O,U,Y,Z,ht⟩
 ·have:=vg I;subst this;exact .eo _ _ _
 ·have pz:∀ i _ j x,(enc t o l[i])[j]?=some x -> ∃ v,cs[i*aC t+j]?=some v /\ ∀ w' B' az q',RV w' B' az q' x v:=by
   intro i hi j x C;obtain⟨v,hv,_,r⟩:=D i hi o j x C
   grind
  refine .own q t o false l b cap cs (λi j=>(cs[i*aC t+j]?).getD undef) (E b rfl) O Z U ⟨Y,λh=>by cases h⟩ (λi hi j x C=>?_) (λi hi j x C=>?_)
  ·grind
  ·grind
def Rl.append{t e ty:TypeId}{tc:TC}{i:TypeInfo}{z:Value}{rr o g:Nat}{q qn:Bool}{l l2:aa (T tc)}{u v:Value}{q':aa Nat}{Bx:Nat}{Pw:bh}(h:Rl w0 N af ρ σ a w)(hF:w0.F rr=none)(fW:P.underlying t=some (.slice e))(ht:tid tc=e)(hi:P.info? e=some i)(hz:i.zero=some z)
  (ia:i.size=aC tc) (jE:i.bytes <= 65536) (mM:z.cells.size=aC tc) (hf:full tc=0) (hd:RV w w0.heap.size af [rr] (.sl tc (o+2) q l) u) (hs:RV w Bx Pw q' (.sl tc g qn l2) v) (hlen:l.length+l2.length<1073741824):
  ∃D w' az,(Builtin.append_ #[t,t] ty #[u,v]).run P w = .ok D w'/\Rl w0 N az (bD ρ rr (.dA D)) ((σ.drop rr).root rr (.sl (.sl tc (o+2) false (l++l2)))) a w'/\lW D=true:=by
 subst ht;obtain⟨xs,zd,Y,FN,iq⟩:=hd.WV hf (B':=0) (λb _=>Nat.zero_le b);obtain⟨A,c,news,rfl,oF,lF,FO⟩:=hs.reads hf;have gB:(l.length+l2.length)*i.bytes <= 140737488355328:=by
  have h1:(l.length+l2.length)*i.bytes <= 1073741824*65536:=Nat.mul_le_mul (by omega) jE;omega
 obtain⟨D,w',cY,O,I,ir⟩:=OP (P:=P) w 0 t ty (tid tc) i z (aC tc) i.bytes fW hi hz ia rfl mM (ot tc) u l.length xs zd _ A l2.length c news oF lF (by unfold maxLen;omega) gB (Nat.zero_le _);have FP:(l++l2).length=l.length+l2.length:=List.length_append;rw[<- FP]at O;have Bn:=iq.append FO zd.1;have fU:lW D=true:=by rcases O.2 with ⟨rfl,_⟩|⟨_,_,_,rfl,_⟩<;>rfl
 have Z:Below 0 w w':=(Below.refl 0 w).grown I (Nat.zero_le _) (λ_ _=>Nat.zero_le _);have ku:iS w0 w w':=⟨Z.os,Z.tape,Z.output,Z.size,λk E hL=>I.block k (Nat.lt_of_lt_of_le E h.below.size) (λU=>by
  rcases(h.cN k _ (Y k U.symm)).1 with h1|h1
  ·exact absurd E (Nat.not_lt.2 h1)
  ·exact h1 hL)⟩
 by_cases FQ:D.ownBlock=some w.heap.size
 ·have de:w.heap.size<w'.heap.size:=by
   rcases O.2 with ⟨rfl,_⟩|⟨b,cap,cs,rfl,_,hh,_⟩
   ·cases FQ
   ·have:b=w.heap.size:=by simpa [Value.ownBlock]using FQ
    grind
  refine⟨D,w',bD af w.heap.size (some [rr]),cY,h.yZ hF ku ⟨I.size,λb C cm=>I.block b C (λU=>cm (Y b U.symm)),λb C=>ck _ _ _ (by omega),λb C=>(h.cN b [] C).2.2 rfl⟩ (λb k C E=>?_) (λr hr=>ck _ _ _ hr) (.sl D _ (bI _ _ _) (Pv O Bn (λb C=>?_))),fU⟩
  ·by_cases e:b=w.heap.size
   ·subst e;rw[bI]at E
    grind
   ·rw[ck _ _ _ e]at E;have:=(h.cN b k E).2.1;omega
  ·rw[FQ]at C;injection C with C;subst C;exact bI _ _ _
 ·have Px:D.ownBlock=u.ownBlock:=by
   rcases ir with ir|ir
   ·exact ir
   ·exact absurd ir FQ
  refine⟨D,w',af,cY,h.yZ hF ku ⟨I.size,λb C cm=>I.block b C (λU=>cm (Y b U.symm)),λ_ _=>rfl,λb C=>(h.cN b [] C).2.2 rfl⟩ (λb k C E=>?_) (λr hr=>ck _ _ _ hr) (.sl D _ (bI _ _ _) (Pv O Bn (λb C=>Y b (by rw[<- Px];exact C)))),fU⟩
  have:=(h.cN b k E).2.1;omega
def Py{t:TC}{x:V}{l:aa (T t)}(h:x.J9 t=some l){q:aa Nat}{u:Value}(C:RV w B af q x u):∃ g D,RV w B af q (.sl t g D l) u:=by
 unfold V.J9 at h;split at h
 ·grind
 ·injection h with h;subst h;cases C;exact⟨0,false,.eo _ _ _⟩
 ·cases h
def Pz{x:Lf}{k:V -> ah X}(h:oA σ x k=some r):∃ y,(∀ af ρ a w,Rl w0 N af ρ σ a w -> ∀ u,dK w w0.heap.size af ρ x u -> ∃ q,RV w w0.heap.size af q y u)/\k y=some r:=by
 cases x with
 |v z=>exact⟨z,λaf ρ a w _ u C=>⟨[],C.2⟩,h⟩
 |dead=>cases h
 | own q=>
  obtain⟨z,D,h⟩:=r8 q _ h
  refine⟨z,λaf ρ a w E u C=>?_,h⟩
  obtain⟨v,I,O⟩:=D.ok E.root;have T:=C.2
  grind
def WW{y:A}{k:V -> ah X}(h:r9 σ y k=some r):∃ z,(∀ af ρ a w,Rl w0 N af ρ σ a w -> ∀ u,RA w w0.heap.size af ρ y u -> ∃ q B' az,RV w B' az q z u)/\k z=some r:=by
 unfold r9 at h;split at h
 ·obtain⟨z,C,D⟩:=Pz h;exact⟨z,λaf ρ a w E u I=>let ⟨q,O⟩:=C af ρ a w E u I;⟨q,_,_,O⟩,D⟩
 ·obtain⟨z,D,_,C⟩:=WD h;exact⟨z,λaf ρ a w E u I=>⟨[],0,_,C _ _ _ _ _ _ E u I 0⟩,D⟩
 ·cases h
def agT{t ty:TypeId}{x y:A}{k:S -> ah X}(h:tX P N σ d t x y k=some r):∃ cB,k cB=some r /\ ∀ af ρ a w,Rl w0 N af ρ σ a w -> ∀ u v,RA w w0.heap.size af ρ x u -> RA w w0.heap.size af ρ y v ->
  ∃w' az ρ' z,(Builtin.append_ #[t,t] ty #[u,v]).run P w = .ok z w'/\Rl w0 N az ρ' cB (a.put (some d) z) w':=by
 unfold tX at h;split at h
 ·rename_i e tc oD;obtain⟨fW,ht,i,hi,ia,jE⟩:=zc oD;cases U:(Nat.beq (full tc) 0&&(zeroOf P e).any (λz=>Nat.beq z.cells.size (aC tc)))with
  |false=>grind
  | true=>
   rw[U,aq]at h;rw[aK]at U;have hf:=cH U.1;obtain⟨z,hz,Y⟩:=(Option.any_eq_true _ _).1 U.2;have Y:=cH Y;have oE:i.zero=some z:=by unfold zeroOf at hz;simpa [hi]using hz
   obtain⟨yv,Kc,C⟩:=WW (w0:=w0) (N:=N) h;clear h;split at C
   ·cases C
   ·rename_i l2 ko;split at C
    ·cases D:bV l2.length with
     |false=>grind
     | true=>
      rw[D,aq]at C;have D:l2.length<1073741824:=by simpa [bV]using D
      obtain⟨Z,h3⟩:=oC C
      refine⟨_,h3,λaf ρ a w E u v T hv=>?_⟩
      have T:u = .slice none 0 0:=by cases T.2;rfl
      subst T;obtain⟨q',_,_,I⟩:=Kc af ρ a w E v hv;obtain⟨g,qn,I⟩:=Py ko I;obtain⟨v',w',az,cY,dm,fU⟩:=E.append (ty:=ty) (rr:=d) (o:=0) (q:=false) (l:=[]) (E.cF d (.inl Z)) fW ht hi oE ia jE Y hf (.eo _ _ _) I (by simpa using D);exact⟨w',az,_,v',cY,dm.set ⟨fU,by simp[cK,bI]⟩ Z⟩
    ·rename_i rr;split at C
     ·rename_i t' o q l hm;split at C
      ·rename_i mZ;subst mZ;cases D:(Nat.blt d N&&(Nat.blt rr N || Nat.ble 60000 rr)&&bV (l.length+l2.length))with
       |false=>grind
       | true=>
        rw[D,aq]at C;rw[aK,aK,dZ]at D;have FR:l.length+l2.length<1073741824:=by simpa [bV]using D.2
        have Z:d<N:=by have:=cu D.1.1;omega
        have lY:rr<N \/ 60000 <= rr:=D.1.2.imp (λh=>by have:=cu h;omega) (λh=>cu h)
        refine⟨_,C,λaf ρ a w E u v T hv=>?_⟩
        obtain⟨q',_,_,I⟩:=Kc af ρ a w E v hv;obtain⟨g,qn,I⟩:=Py ko I;have dY:=E.root rr _ hm;generalize O:aQ.sl (.sl t' (o+2) q l)=x at dY;cases dY with
        |aA=>cases O
        |mp=>cases O
        |gh=>cases O
        | sl uu y bX hr=>
         injection O with O;subst O;have FL:uu=u:=by
          have h4:=T.2;simp only[cK,bX]at h4;simp_all
         subst FL;obtain⟨v',w',az,cY,dm,fU⟩:=E.append (ty:=ty) (E.cF rr lY) fW ht hi oE ia jE Y hf hr I FR;exact⟨w',az,_,v',cY,dm.set ⟨fU,by simp[cK,bI]⟩ Z⟩
      ·cases C
     ·cases C
    ·cases C
 ·cases h
def Rl.WX{t:TC}{g p:Nat}{qn:Bool}{l ys:aa (T t)}{news:aa Value}(h:Rl w0 N af ρ σ a w)(hm:σ.m q=some (.sl (.sl t (g+2) qn l)))(hf:full t=0)(hp:p+ys.length <= l.length)(nJ:0<l.length)(iq:xg t ys news)(sn:news.length=ys.length*aC t):
  ∃ b cap,ρ q = .dA (.slice (some ⟨b,0,none⟩) l.length cap)/\l.length <= cap/\(∀ n,n<news.length -> (w.cell? ⟨b,p*aC t+n,none⟩).isSome=true/\w.frozen? ⟨b,p*aC t+n,none⟩=false) /\
   Rl w0 N af ρ ⟨σ.t,bD σ.m q (some (.sl (.sl t (g+2) qn (splice l p ys))))⟩ a (w.setCells b (p*aC t) news):=by
 have dY:=h.root q _ hm;generalize U:aQ.sl (.sl t (g+2) qn l)=x at dY;cases dY with
 |aA=>cases U
 |mp=>cases U
 |gh=>cases U
 | sl v y bX iu=>
  injection U with U;subst U;cases iu with
  |eo=>exact absurd nJ (Nat.lt_irrefl 0)
  |fy=>exact absurd nJ (Nat.lt_irrefl 0)
  |fH=>exact absurd nJ (Nat.lt_irrefl 0)
  |aF _ _ _ _ _ _ _ _ _ ho=>omega
  | own _ _ _ _ _ b cap cs u pJ hh hs hn r7 hc hr=>
   have tT:(p+ys.length)*aC t <= cap*aC t:=jF _ (by omega);rw[Nat.add_mul]at tT;have lX:p*aC t+news.length <= cs.size:=by rw[sn,hs];exact tT
   have hW:=JZ w b (p*aC t) news;obtain⟨I,gB,nH⟩:=Ft b (tid t) news (p*aC t) w cs hh lX;have tU:∀ n,I[n]?=if n<p*aC t then cs[n]? else if n<p*aC t+news.length then news[n-p*aC t]? else cs[n]?:=by
    intro n;have e2:I[n]?=(splice cs.toList (p*aC t) news)[n]?:=by
     rw[show I[n]?=I.toList[n]? by simp,nH];rfl
    rw[e2,wW _ _ _ (by simpa using lX)];simp
   have FD:I.size=cs.size:=by
    rw[<- lu,nH];have:=tP cs.toList (p*aC t) news (by simpa using lX);simp only[splice]at this;simp_all
   have tY:=ot t;have hC:qT w (w.setCells b (p*aC t) news) af ρ:=by
    intro k ad v ha E fU;by_cases cm:ad.block=b
    ·obtain⟨D,C,s',q',rfl,r5,agB,vm,_⟩:=Be k ad ha;have oz:ad=⟨b,ad.off,none⟩:=by cases ad;simp_all
     rw[oz,cell_of_row w b _ cs _ _ hh]at E;rw[oz,cell_of_row _ b _ I _ _ gB,tU];by_cases Y:ad.off<p*aC t
     ·rw[aW Y];exact E
     ·by_cases h2:ad.off<p*aC t+news.length
      ·exfalso;have hk:ad.off=(ad.off / aC t)*aC t+ad.off % aC t:=by rw[Nat.mul_comm];exact(Nat.div_add_mod _ _).symm
       have de:ad.off<l.length*aC t:=by
        have:(p+ys.length)*aC t <= l.length*aC t:=jF _ hp;rw[Nat.add_mul]at this;omega
       have hi:ad.off / aC t<l.length:=Nat.div_lt_of_lt_mul (by rw[Nat.mul_comm];exact de);obtain⟨y,hy⟩:=Bm t g l[ad.off / aC t] (ad.off % aC t) (Nat.mod_lt _ tY);have h3:=hc _ hi _ y hy;rw[<- hk,E]at h3;injection h3 with h3;have:=(hr _ hi _ y hy).WB (yQ t g _ hf y (gy hy));rw[<- h3,fU]at this;cases this
      ·rw[aX Y,aX h2];exact E
    ·exact(World.cell?_of_block (hW.block _ cm)).trans E
   have Bf:cK w af ρ [q]=some (.slice (some ⟨b,0,none⟩) l.length cap):=by simp only[cK,bX]
   refine⟨b,cap,bX,hn,λn tV=>⟨?_,frozen_of_row w b _ cs _ hh⟩,h.wrote hW pJ hC ((yS.root q _ _ hm).ok h.root hW pJ (List.suffix_refl _) hC Bf ?_)⟩
   ·rw[cell_of_row w b _ cs _ _ hh];simp;omega
   ·have hlen:(splice l p ys).length=l.length:=tP l p ys hp;have key:∀ C (h:C<(splice l p ys).length) (D:Nat) x,(enc t g (splice l p ys)[C])[D]?=some x -> ∃ v,I[C*aC t+D]?=some v/\RV (w.setCells b (p*aC t) news) w0.heap.size af (D :: C :: aC t :: [q]) x v:=by
     intro C h' D x Z;have r6:D<aC t:=by have:=(dI.1 Z).1;rwa [kf]at this
     have O:=bK h';generalize (splice l p ys)[C]=e at O Z;rw[wW l p ys hp]at O;have vn:=yQ t g e hf x (gy Z);have old:l[C]?=some e -> ∃ v,cs[C*aC t+D]?=some v/\RV (w.setCells b (p*aC t) news) w0.heap.size af (D :: C :: aC t :: [q]) x v:=λhle=>by
      obtain⟨hi,rfl⟩:=dI.1 hle;exact⟨_,hc C hi D x Z,(hr C hi D x Z).tR vn⟩
     by_cases Y:C<p
     ·rw[aW Y]at O;have de:(C+1)*aC t <= p*aC t:=jF _ Y;rw[Nat.succ_mul]at de;rw[tU,aW];exact old O
     ·rw[aX Y]at O;by_cases h2:C<p+ys.length
      ·rw[aW h2]at O;obtain⟨hi,rfl⟩:=dI.1 O;obtain⟨v,E,_,jJ⟩:=iq (C-p) hi g D x Z;have PB:(C-p)*aC t=C*aC t-p*aC t:=Nat.sub_mul _ _ _;have hle:p*aC t <= C*aC t:=jF _ (by omega);have de:=(dI.1 E).1;refine⟨v,?_,jJ _ _ _ _⟩;rw[tU,aX,aW,<- E];congr 1;omega
      ·rw[aX h2]at O;have ox:(p+ys.length)*aC t <= C*aC t:=jF _ (by omega);rw[Nat.add_mul]at ox;rw[tU,aX,aX (by rw[sn];omega)];exact old O
    rw[<- hlen]
    refine .own [q] t g qn (splice l p ys) b cap I (λC D=>(I[C*aC t+D]?).getD undef) pJ gB (FD.trans hs) (by rw[hlen];exact hn) ⟨r7.1,λh=>by rw[hlen];exact r7.2 h⟩ (λC h D x lE=>?_) (λC h D x lE=>?_)
    ·obtain⟨v,E,_⟩:=key C h D x lE;rw[E];rfl
    ·obtain⟨v,E,hr⟩:=key C h D x lE;rw[E];exact hr
def WY(b i c s:Nat):sliced (some ⟨b,0,none⟩) 0 i c s = .slice (some ⟨b,0,none⟩) i c:=by
 unfold sliced;split
 ·rfl
 ·rw[Option.map_some,Addr.add_lit];simp
def FT{X:Type}(P:Program)(N:Nat)(σ:S)(d:Nat)(t:TypeId)(x y:A)(k:S->ah X):ah X:=
 match x,y with
 | .view [q] s 0 i,.view [D] E j m=>(match vr P t with
  | some (e,tc)=>bif Nat.beq D q&&Nat.beq s (aC tc)&&Nat.beq E (aC tc)&&Nat.beq (full tc) 0&&Nat.blt d N then (match σ.m q with
   |some (.sl (.sl C (o+2) I l))=>bif Nat.beq (full C) 0&&Nat.beq (aC C) (aC tc)then (if i<=j/\j<=m/\m<=l.length/\0<l.length then k ((σ.root q (.sl (.sl C (o+2) I (splice l i ((l.take m).drop j))))).set d (.view [q] s 0 (i+(m-j))))else none)else none
   |_=>none)else none
  |none=>none)
 |_,_=>none
def agU{t ty:TypeId}{x y:A}{k:S -> ah X}(h:FT P N σ d t x y k=some r):∃ cB,k cB=some r /\ ∀ af ρ a w,Rl w0 N af ρ σ a w -> ∀ u v,RA w w0.heap.size af ρ x u -> RA w w0.heap.size af ρ y v ->
  ∃w' az ρ' z,(Builtin.append_ #[t,t] ty #[u,v]).run P w = .ok z w'/\Rl w0 N az ρ' cB (a.put (some d) z) w':=by
 unfold FT at h;split at h
 ·rename_i q s i q' s' j m;split at h
  ·rename_i e tc oD;obtain⟨fW,ht,inf,hi,I,jE⟩:=zc oD;cases hc:(Nat.beq q' q&&Nat.beq s (aC tc)&&Nat.beq s' (aC tc)&&Nat.beq (full tc) 0&&Nat.blt d N)with
   |false=>grind
   | true=>
    rw[hc,aq]at h;simp only[aK]at hc;obtain⟨⟨⟨⟨c1,c2⟩,c3⟩,c4⟩,c5⟩:=hc;obtain rfl:=cH c1;obtain rfl:=cH c2;obtain rfl:=cH c3;have hd:d<N:=by have:=cu c5;omega
    split at h
    ·rename_i O g qn l hm;cases T:(Nat.beq (full O) 0&&Nat.beq (aC O) (aC tc))with
     |false=>grind
     | true=>
      rw[T,aq]at h;rw[aK]at T;have hf:=cH T.1;have U:=cH T.2;split at h
      ·rename_i hb;obtain⟨b1,b2,b3,b4⟩:=hb
       refine⟨_,h,λaf ρ a w hR u v hu hv=>?_⟩
       obtain⟨A,n,c,WZ,a1,a2,rfl⟩:=hu;obtain⟨A',n',c',Y,a1',a2',rfl⟩:=hv;rw[WZ]at Y;injection Y with Y;injection Y with C e2 e3;subst C e2 e3
       -- what is moved
       have dY:=hR.root q' _ hm;generalize D:aQ.sl (.sl O (g+2) qn l)=x at dY;cases dY with
       |aA=>cases D
       |mp=>cases D
       |gh=>cases D
       | sl xj y bX iu=>
        injection D with D;subst D;have Kd:xj = .slice A n c:=by
         simp only[cK,bX]at WZ;simp_all
        subst Kd;have Kg:RV w 0 (λ_=>none) [] (.sl O 0 qn l) (.slice A n c):=iu.fZ;have hn:n=l.length:=by cases Kg<;>rfl
        obtain⟨hp,xk,xl⟩:=Kg.part (a:=j) (h:=m) (by omega) b2 (by omega);obtain⟨A2,c2,news,fU,oF,lF,iq⟩:=hp.reads hf;have hlen:((l.take m).drop j).length=m-j:=by rw[List.length_drop,kL];omega
        obtain⟨b,cap,Z,iI,m0,dm⟩:=hR.WX hm hf (p:=i) (ys:=(l.take m).drop j) (news:=news) (by rw[hlen];omega) b4 iq (by rw[hlen];exact hlen ▸ oF.1);rw[bX]at Z;injection Z with Z;injection Z with C e2 e3;subst C e2 e3;rw[hlen]at fU;have kj:sliced (some ⟨b,0,none⟩) 0 i c (aC tc) = .slice (some ⟨b,0,none⟩) i c:=WY b i c _;obtain⟨ad,xj⟩:∃ ad,sliced (some ⟨b,0,none⟩) j m c (aC tc) = .slice (some ad) (m-j) (c-j):=by
         unfold sliced;by_cases hcj:c=j
         ·grind
         ·grind
        have PC:A2=some ad:=by
         grind
        subst PC;have sn:news.length=(m-j)*inf.size:=by rw[oF.1,hlen,I,U]
        have cY:=run_append_room_cells (P:=P) w t ty e inf fW hi b 0 i c ad (m-j) (c-j) news sn (λk u E=>by
         have oG:=(dI.1 E).1;have tY:0<((l.take m).drop j).length:=by
          rcases Nat.eq_zero_or_pos ((l.take m).drop j).length with h0|h0
          ·grind
          ·exact h0
         obtain⟨b',Bg,C,_,xm⟩:=oF.2 tY;injection C with C;subst C;rw[Addr.add_lit];exact xm k u E) lF (by omega) (λk E=>by rw[fe,I,<- U];exact(m0 k E).1) (λk E=>by rw[fe,I,<- U];exact(m0 k E).2)
        refine⟨_,af,ρ,_,by rw[kj,xj];exact cY,?_⟩;rw[fe,I,<- U];exact dm.set ⟨some ⟨b,0,none⟩,l.length,c,by simp only[cK,bX],Nat.zero_le _,by omega,(WY b _ c _).symm⟩ hd
      ·cases h
    ·cases h
  ·cases h
 ·cases h
def agV{t:TypeId}{x y:A}:cq λX k=>FT (X:=X) P N σ d t x y k:=λX Y k g=>by
 unfold FT
 repeat' first|rfl|refine cW ?_ ?_|split
def FU{X:Type}(P:Program)(σ:S)(t:TypeId)(x:A)(k:S->ah X):ah X:=
 match x with
 | .view [q] s i j=>(match vr P t with
  | some (e,tc)=>(match J8 P e tc with
   | some z=>(match σ.m q with
    |some (.sl (.sl C (o+2) D l))=>if h:tc=C then (bif Nat.beq s (aC tc)&&Nat.beq (full tc) 0 then (if i<=j/\j<=l.length then k (σ.root q (.sl (.sl C (o+2) D (splice l i (List.replicate (j-i) (h ▸ z))))))else none)else none)else none
    |_=>none)
   |none=>none)
  |none=>none)
 |_=>none
def agW{t ty:TypeId}{x:A}{k:S->ah X}(h:FU P σ t x k=some r):∃ cB,k cB=some r/\∀ af ρ a w,Rl w0 N af ρ σ a w->∀ u,RA w w0.heap.size af ρ x u->
  ∃w',(Builtin.clear_ #[t] ty #[u]).run P w = .ok (.tuple #[]) w'/\Rl w0 N af ρ cB a w':=by
 unfold FU at h;split at h
 ·rename_i q s i j;split at h
  ·rename_i e tc oD;obtain⟨fW,ht,inf,hi,ia,jE⟩:=zc oD;split at h
   ·rename_i z T;split at h
    ·rename_i t' g qn l hm;split at h
     ·rename_i mZ;subst mZ;cases U:(Nat.beq s (aC tc)&&Nat.beq (full tc) 0)with
      |false=>rw[U]at h;cases h
      | true=>
       rw[U,aq]at h;rw[aK]at U;obtain rfl:=cH U.1;have hf:=cH U.2;split at h
       ·rename_i hb
        refine⟨_,h,λaf ρ a w hR u hu=>?_⟩
        obtain⟨A,n,c,Y,a1,a2,rfl⟩:=hu;unfold J8 at T;split at T
        ·cases T
        ·rename_i C Dt;split at T
         ·cases T
         ·rename_i vs jK;have oE:inf.zero=some C:=by unfold zeroOf at Dt;simpa [hi]using Dt
          obtain⟨l6,ko⟩:=Pp _ _ jK;have D:=lC tc (full tc) vs z T;have mM:C.cells.size=aC tc:=by rw[<-kf tc (full tc) z,<-D.1,l6];simp
          have hzr:∀w:World,(zeroValue e).run P w = .ok C w:=λw=>by simp[zeroValue,typeInfo,hi,oE]
          rcases Nat.eq_zero_or_pos (j-i)with h0|h0
          ·have vm:splice l i (List.replicate (j-i) z)=l:=by rw[h0];simp[splice]
           refine⟨w,?_,?_⟩
           ·unfold sliced;rw[h0];cases (if c=i then A else A.map (·.add (i*aC tc)))<;>simp[Builtin.clear_,gF fW]
           ·show Rl w0 N af ρ (σ.root q (.sl (.sl tc (g+2) qn (splice l i (List.replicate (j-i) z))))) a w;rw[vm];have:σ.root q (.sl (.sl tc (g+2) qn l))=σ:=by
             unfold S.root;have:bD σ.m q (some (.sl (.sl tc (g+2) qn l)))=σ.m:=by
              funext k;by_cases D:k=q
              ·subst D;rw[bI,hm]
              ·rw[ck _ _ _ D]
             rw[this]
            rw[this];exact hR
          ·have oH:(Builtin.zeroCells C.cells (j-i))=madeCells C.cells ((j-i)*C.cells.size):=rfl;have iq:xg tc (List.replicate (j-i) z) (Builtin.zeroCells C.cells (j-i)).toList:=by
            intro i' h' o' E x I;rw[List.getElem_replicate]at I;have hj:E<aC tc:=by have:=(dI.1 I).1;rwa [kf]at this
            rw[jX]at h';have r6:=hj;rw[<-mM]at r6;have Z:(Builtin.zeroCells C.cells (j-i)).toList[i'*aC tc+E]?=some C.cells[E]:=by
             rw[oH,Array.getElem?_toList,<-mM];exact WT C.cells _ i' E r6 (by
              have:(i'+1)*C.cells.size<=(j-i)*C.cells.size:=jF _ (by omega);rw[Nat.succ_mul]at this;omega)
            rw[Dv tc hf o' (full tc)]at I;have FV:E<(enc tc (full tc) z).length:=(dI.1 I).1;rw[<-D.1]at FV;have hy:=bK FV;generalize vs[E]=y at hy;obtain⟨v,hv,Pu⟩:=ko E y hy;have O:C.cells[E]=v:=by
             have e1:C.cells.toList[E]?=some C.cells[E]:=by simp[r6]
             rw[e1]at hv;injection hv
            have jJ:∀(w':World) (B':Nat) (az:bh) (q':aa Nat),RV w' B' az q' x v:=λw' B' az q'=>(WR Pu _).wk (D.2 E y x hy I)
            exact⟨_,Z,by rw[O];exact(jJ w 0 (λ_=>none) []).one,λw' B' az q'=>by rw[O];exact jJ _ _ _ _⟩
           have sn:(Builtin.zeroCells C.cells (j-i)).toList.length=(List.replicate (j-i) z).length*aC tc:=by rw[oH,jX,lu,size_madeCells,mM]
           obtain⟨b,cap,bX,iI,Z,dm⟩:=hR.WX hm hf (p:=i) (ys:=List.replicate (j-i) z) (by rw[jX];omega) (by omega) iq sn;simp only[cK,bX]at Y;injection Y with Y;injection Y with e1 e2 e3;subst e1 e2 e3;refine⟨_,?_,dm⟩;have fU:sliced (some ⟨b,0,none⟩) i j cap (aC tc) = .slice (some ⟨b,i*aC tc,none⟩) (j-i) (cap-i):=by
            unfold sliced;rw[aX,Option.map_some,Addr.add_lit,fe]
           have jL:=run_storeCells_cells (P:=P) b (i*aC tc) (Builtin.zeroCells C.cells (j-i)).toList 0 w (λk D=>(Z k D).1) (λk D=>(Z k D).2) (λv hv=>by
            obtain⟨k,D⟩:=List.mem_iff_getElem?.1 hv;have oG:=(dI.1 D).1;rw[sn,jX]at oG;have tY:=ot tc;obtain⟨x,I⟩:=Bm tc 0 z (k % aC tc) (Nat.mod_lt _ tY);have de:k / aC tc<(List.replicate (j-i) z).length:=by rw[jX];exact Nat.div_lt_of_lt_mul (by rw[Nat.mul_comm];exact oG)
            obtain⟨v',O,lF,_⟩:=iq (k / aC tc) de 0 (k % aC tc) x (by rw[List.getElem_replicate];exact I);rw[Nat.mul_comm,Nat.div_add_mod,D]at O;injection O with O;rw[O];exact lF)
           simp only[Nat.add_zero]at jL;rw[fU];obtain⟨n',tV⟩:∃n',j-i=n'+1:=⟨j-i-1,by omega⟩
           rw[tV]at jL ⊢;simp[Builtin.clear_,gF fW,hzr,jL]
       ·cases h
     ·cases h
    ·cases h
   ·cases h
  ·cases h
 ·cases h
def agX{t:TypeId}{x:A}:cq λX k=>FU (X:=X) P σ t x k:=λX Y k g=>by
 unfold FU
 repeat' first|rfl|refine cW ?_ ?_|split
end
def ze(place:Nat->ah (Nat×Nat))(cells:aa Lf):aa (Nat×A)->ah (aa Lf)
 |[]=>some cells
 | (i,x) :: rest=>match place i,x.yW with
  |some (off,n),some xs=>if xs.length=n/\off+n<=cells.length then (bif xs.all Lf.live then ze place (splice cells off xs) rest else none)else none
  |_,_=>none
def W0(P:Program)(t:TypeId):ah (Nat->ah (Nat×Nat)):=
 match P.underlying t with
 |some (.array _ e)=>(P.info? e).map λC=>λi=>some (i*C.size,C.size)
 |some (.struct fields)=>(fields.toList.mapM (λf=>(P.info? f.type).map λi=>(f.offset,i.size))).map λps=>(ps.toArray[·]?)
 |_=>none
def Dw{X:Type}(P:Program)(σ:S)(t:TypeId)(parts:aa (Nat×Operand))(k:A->ah X):ah X:=
 match zeroOf P t,W0 P t with
 | some z,some pl=>match ze pl (z.cells.toList.map nK) (parts.map λp=>(p.1,aG σ p.2))with
  |some cs=>k (.agg cs)
  |none=>none
 |_,_=>none
def Lf.asV:Lf->ah V
 |.v x=>some x
 |_=>none
def vt:aa Lf->ah (aa V)
 |[]=>some []
 | x :: xs=>match x.asV,vt xs with
  |some y,some ys=>some (y::ys)
  |_,_=>none
def FW(t:TC)(g:Nat):Nat->aa V->ah (aa (T t))
 |0,[]=>some []
 |0,_=>none
 | n+1,C=>match dec t g (C.take (aC t)),FW t g n (C.drop (aC t))with
  |some x,some xs=>some (x::xs)
  |_,_=>none
def zg{X:Type}(P:Program)(N:Nat)(σ:S)(d:Nat)(t:TypeId)(len:Nat)(parts:aa (Nat×Operand))(k:S->ah X):ah X:=
 match vr P t with
 | some (e,tc)=>match zeroOf P e with
  | some z=>bif Nat.beq (full tc) 0&&Nat.beq z.cells.size (aC tc)&&Nat.blt (len*aC tc) 16777217 then (match ze (λi=>some (i*aC tc,aC tc)) (List.replicate len (z.cells.toList.map nK)).flatten (parts.map λp=>(p.1,aG σ p.2))with
   | some cs=>(match vt cs with
    | some C=>(match FW tc 0 len C with
     |some l=>gO N σ d (.sl (.sl tc 2 true l)) (.lf (.own [d])) k
     |none=>none)
    |none=>none)
   |none=>none)else none
  |none=>none
 |none=>none
section
variable {P:Program} {w w':World} {w0:Wd} {B N:Nat} {af az:bh} {ρ ρ':Nat->Loc} {σ:S} {a:Act} {X:Type} {d:Nat} {r:X}
def W2(off:Nat):∀ (l:aa Value) (n:Nat) (cs:Array Value),off+n+l.length <= cs.size ->
  ((l.zipIdx n).foldl (λ(cs:Array Value) (p:Value×Nat)=>cs.setIfInBounds (off+p.2) p.1) cs).toList=splice cs.toList (off+n) l
 |[],n,cs,_=>by simp[splice]
 | v :: l,n,cs,h=>by
  simp at h;rw[List.zipIdx_cons,List.foldl_cons,W2 off l (n+1) _ (by simp;omega)];have C:off+n<cs.toList.length:=by simp;omega
  simp only[splice,Array.toList_setIfInBounds,mN];have D:(cs.toList.set (off+n) v).take (off+(n+1))=cs.toList.take (off+n)++[v]:=by
   rw[show off+(n+1)=off+n+1 by omega,List.take_succ_eq_append_getElem (by simpa using C),List.getElem_set_self,List.take_set_of_le (dH _)]
  have E:(cs.toList.set (off+n) v).drop (off+(n+1)+l.length)=cs.toList.drop (off+(n+1)+l.length):=by
   rw[List.drop_set_of_lt (by omega)]
  grind
def eC.splice{cs xs:aa Lf}{D E:Array Value}(h:eC w B af ρ cs D)(I:eC w B af ρ xs E){off:Nat}(O:off+xs.length <= cs.length){T:Array Value}(Y:T.toList=Proofs.YtgjfmljpdnnihaaGreat.splice D.toList off E.toList):eC w B af ρ (Proofs.YtgjfmljpdnnihaaGreat.splice cs off xs) T:=by
 have Z:off+E.toList.length <= D.toList.length:=by rw[lu,lu,I.1,h.1];exact O
 refine⟨?_,λj x C=>?_⟩
 ·rw[tP _ _ _ O,<- lu,Y,tP _ _ _ Z,lu,h.1]
 ·have e:T[j]?=(Proofs.YtgjfmljpdnnihaaGreat.splice D.toList off E.toList)[j]?:=by rw[<- Y,Array.getElem?_toList]
  rw[e,wW _ _ _ Z,lu,I.1];rw[wW _ _ _ O]at C;by_cases U:j<off
  ·simp[U,Array.getElem?_toList]at C ⊢;exact h.2 j x C
  ·by_cases h2:j<off+xs.length
   ·simp[U,h2,Array.getElem?_toList]at C ⊢;exact I.2 _ x C
   ·simp[U,h2,Array.getElem?_toList]at C ⊢;exact h.2 j x C
def Kh{place:Nat -> ah (Nat×Nat)}:∀ (parts:aa (Nat×A)) (cells:aa Lf) (C:Array Value) (D:aa (Nat×Value)) (out:aa Lf),ze place cells parts=some out -> eC w B af ρ cells C -> D.length=parts.length ->
  (∀(j:Nat) p q,parts[j]?=some p -> D[j]?=some q -> p.1=q.1/\RA w B af ρ p.2 q.2) -> ∃E,Instr.fill place C D=some E/\eC w B af ρ out E
 | [],cells,C,D,out,h,I,O,T=>by
  have:D=[]:=vg O;subst this;injection h with h;subst h;exact⟨C,rfl,I⟩
 | (i,x) :: rest,cells,C,D,out,h,I,O,T=>by
  cases D with
  |nil=>simp at O
  | cons v D=>
   obtain⟨i',v⟩:=v;obtain⟨e,Y⟩:=T 0 _ _ rfl rfl;simp only at e Y;subst e;unfold ze at h;split at h
   ·rename_i off n xs vn mY;split at h
    ·rename_i U;cases Z:xs.all Lf.live with
     |false=>grind
     | true=>
      rw[Z,aq]at h;obtain⟨W3,_⟩:=FI mY Z Y;have FX:v.cells.size=n:=by rw[W3.1];exact U.1
      have lX:¬ (off+v.cells.size > C.size):=by rw[FX,I.1];omega
      have agY:(v.cells.zipIdx.foldl (λ(cs:Array Value) (p:Value×Nat)=>cs.setIfInBounds (off+p.2) p.1) C).toList=Proofs.YtgjfmljpdnnihaaGreat.splice C.toList off v.cells.toList:=by
       have:=W2 off v.cells.toList 0 C (by rw[lu];omega);rw[<- Array.foldl_toList,Array.toList_zipIdx];exact this
      have vm:=I.splice W3 (off:=off) (by rw[U.1];exact U.2) agY;obtain⟨E,sg,dm⟩:=Kh rest _ _ D out h vm (by simpa using O) (λj p q FY r5=>T (j+1) p q (by simpa using FY) (by simpa using r5));refine⟨E,?_,dm⟩;have cm:(v.cells.size≠n || off+v.cells.size > C.size)=false:=by
       grind
      simp only[Instr.fill,vn];rw[aX (by rw[cm];simp)];exact sg
    ·cases h
   ·cases h
def agZ(z:Value):eC w B af ρ (z.cells.toList.map nK) z.cells:=by
 refine⟨by simp,λj x C=>?_⟩
 rw[ef]at C;cases D:z.cells.toList[j]? with
 |none=>simp_all
 | some v=>
  rw[D]at C;injection C with C;subst C;exact⟨v,by simpa using D,Ka v⟩
def ag0{t:TypeId}{parts:Array (Nat×Operand)}{k:A -> ah X}(h:Dw P σ t parts.toList k=some r):∃ y,k y=some r /\ ∀ af ρ a w,Rl w0 N af ρ σ a w ->
  ∃v,(Instr.build t (parts.map λ(i,x)=>(i,a.eval x))).run P w = .ok v w/\RA w w0.heap.size af ρ y v:=by
 unfold Dw at h;split at h
 ·rename_i z pl E C;split at h
  ·rename_i cs fV
   refine⟨_,h,λaf ρ a w hR=>?_⟩
   obtain⟨U,Y,dm⟩:=Kh (w:=w) (B:=w0.heap.size) (af:=af) (ρ:=ρ) _ _ z.cells (parts.toList.map λp=>(p.1,a.eval p.2)) cs fV (agZ z) (by simp) (λj p q D I=>by
    rw[ef]at D I;cases Z:parts.toList[j]? with
    |none=>rw[Z]at D;cases D
    | some x=>
     rw[Z]at D I;injection D with D;injection I with I;subst D I;exact⟨rfl,hR.aG x.2⟩)
   refine⟨_,run_build (P:=P) w t _ U ?_,U,rfl,dm⟩;have FZ:(parts.map λ(i,x)=>(i,a.eval x)).toList=parts.toList.map λp=>(p.1,a.eval p.2):=by simp
   rw[FZ];unfold zeroOf at E;unfold Program.built;cases hi:P.info? t with
   |none=>simp[hi]at E
   | some i=>
    have E:i.zero=some z:=by simpa [hi]using E
    unfold W0 at C;split at C
    ·rename_i n e O;cases T:P.info? e with
     |none=>simp[T]at C
     | some ie=>
      rw[T]at C;injection C with C;subst C;simp[O,E,T];exact Y
    ·rename_i fields O;cases D:fields.toList.mapM (λf=>(P.info? f.type).map λi=>(f.offset,i.size))with
     |none=>rw[D]at C;cases C
     | some ps=>
      rw[D]at C;injection C with C;subst C;simp only[O,E,D];exact Y
    ·cases C
  ·cases h
 ·cases h
def Ki:∀ (cs:aa Lf) (C:aa V),vt cs=some C->cs=C.map .v
 |[],C,h=>by injection h with h;subst h;rfl
 | x :: xs,C,h=>by
  unfold vt at h;split at h
  next y ys D E=>injection h with h;subst h;rw[Ki xs ys E,List.map_cons];cases x<;>first|(injection D with D;rw[D])|cases D
  ·cases h
def PD(t:TC)(g:Nat):∀ (n:Nat) (C:aa V) (l:aa (T t)),FW t g n C=some l -> l.length=n/\C.length=n*aC t /\ ∀ i (hi:i<l.length) (j:Nat) x,(enc t g l[i])[j]?=some x -> ∃ y,C[i*aC t+j]?=some y/\Wk y x
 | 0,[],l,h=>by
  injection h with h;subst h;exact⟨rfl,by simp,λi hi=>by simp at hi⟩
 |0,_::_,l,h=>by cases h
 | n+1,C,l,h=>by
  unfold FW at h;split at h
  ·rename_i x xs I O;injection h with h;subst h;obtain⟨U,h2,h3⟩:=PD t g n _ xs O;have D:=lC t g _ x I;have hlen:(C.take (aC t)).length=aC t:=by rw[D.1,kf]
   have ox:aC t <= C.length:=by rw[kL]at hlen;omega
   refine⟨by simp[U],?_,λi hi j y E=>?_⟩
   ·grind
   ·cases i with
    | zero=>
     have Y:j<aC t:=by have:=(dI.1 E).1;rwa [kf]at this
     have Z:=bK (by rw[hlen];exact Y);refine⟨_,?_,D.2 j _ y Z E⟩;simp_all
    |succ i =>grind
  ·cases h
def RV.under{k:aa Nat}{x:V}{v:Value}{n:Nat}(h:RV w B af k x v)(O:1<k.length\/x.aF=true)(T:w.heap.size<=w'.heap.size)(D:∀ b,b<w.heap.size->af b≠some [n]->w'.heap[b]?=w.heap[b]?)(E:∀ b,b<w.heap.size->az b=af b):RV w' B az k x v:=
 h.map (Q:=λk I=>k=I/\1<k.length) T (λb C h=>⟨D b C (by rw[h];simp),(E b C).trans h⟩) (λb k I C h e=>by
  obtain⟨rfl,e⟩:=e;exact⟨D b C (by rw[h];rintro⟨⟩;simp at e),(E b C).trans h,λ_ _ _=>⟨rfl,by simp⟩⟩) (O.symm.imp_right λh=>⟨rfl,h⟩)
def tZ(w:World)(B:Nat)(af:bh)(n C:Nat)(t:TC)(o:Nat)(l:aa (T t))(D:aa Value):Prop:=
 ∀i (hi:i<l.length) j x,(enc t o l[i])[j]?=some x->∃v,D[i*aC t+j]?=some v/\RV w B af (j::(C+i)::aC t::[n]) x v
def RV.ag1{n:Nat}{t:TC}{o:Nat}{C:Bool}{l:aa (T t)}{u:Value}(h:RV w B af [n] (.sl t (o+2) C l) u){B':Nat}(hB:∀ b,af b=some [n] -> B' <= b):
  ∃xs,w.ownsRow B' (tid t) (aC t) u l.length xs/\(∀b,u.ownBlock=some b -> af b=some [n])/\(C=true -> u.ownBlock≠none)/\tZ w B af n 0 t o l xs:=by
 cases h with
 |fy=>omega
 |fH=>omega
 |eo=>exact⟨[],⟨by simp,.inl ⟨rfl,rfl⟩⟩,by simp[Value.ownBlock],by simp,λi hi=>by simp at hi⟩
 |aF _ _ _ _ _ _ _ _ _ ho=>omega
 | own _ _ _ _ _ b cap cs us D E I O U hc hr=>
  refine⟨cs.toList.take _,⟨?_,.inr ⟨b,cap,cs,rfl,hB b D,E,O,U.1,I,rfl⟩⟩,λY Z=>?_,λ_=>by simp[Value.ownBlock],λi hi j x hx=>?_⟩
  ·simp_all
  ·have:b=Y:=by simpa [Value.ownBlock]using Z
   simp_all
  ·have hj:j<aC t:=by have:=(dI.1 hx).1;rwa [kf]at this
   have de:i*aC t+j<l.length*aC t:=by
    have:(i+1)*aC t <= l.length*aC t:=jF _ hi;rw[Nat.succ_mul]at this;omega
   grind
def tZ.append{n:Nat}{t:TC}{o:Nat}{l l2:aa (T t)}{xs ys:aa Value}(h:tZ w B af n 0 t o l xs)(E:tZ w B af n l.length t o l2 ys)(U:xs.length=l.length*aC t):tZ w B af n 0 t o (l++l2) (xs++ys):=by
 intro i hi j x C;by_cases D:i<l.length
 ·rw[List.getElem_append_left D]at C;obtain⟨v,I,r⟩:=h i D j x C
  grind
 ·rw[List.getElem_append_right (by omega)]at C;have O:i-l.length<l2.length:=by rw[List.length_append]at hi;omega
  obtain⟨v,I,r⟩:=E _ O j x C;refine⟨v,?_,?_⟩
  ·have e:i*aC t+j=xs.length+((i-l.length)*aC t+j):=by
    rw[ Nat.sub_mul];have:l.length*aC t <= i*aC t:=jF _ (by omega);omega
   grind
  ·grind
def tZ.under{n C:Nat}{t:TC}{o:Nat}{l:aa (T t)}{D:aa Value}(h:tZ w B af n C t o l D)(E:w.heap.size<=w'.heap.size)(I:∀ b,b<w.heap.size->af b≠some [n]->w'.heap[b]?=w.heap[b]?)(O:∀ b,b<w.heap.size->az b=af b):tZ w' B az n C t o l D:=
 λi hi j x U=>let ⟨v,Y,r⟩:=h i hi j x U;⟨v,Y,r.under (.inl (by simp)) E I O⟩
def W4{n:Nat}{t:TC}{o:Nat}{l:aa (T t)}{u:Value}{xs:aa Value}{B':Nat}(h:w.ownsRow B' (tid t) (aC t) u l.length xs)(D:tZ w B af n 0 t o l xs)(E:∀ b,u.ownBlock=some b -> af b=some [n]):
  RV w B af [n] (.sl t (o+2) false l) u:=by
 rcases h.2 with ⟨rfl,I⟩|⟨b,cap,cs,rfl,hB,O,U,Y,Z,ht⟩
 ·have:=vg I;subst this;exact .eo _ _ _
 ·have pz:∀ i _ j x,(enc t o l[i])[j]?=some x -> ∃ v,cs[i*aC t+j]?=some v/\RV w B af (j :: i :: aC t :: [n]) x v:=by
   intro i hi j x C;obtain⟨v,hv,r⟩:=D i hi j x C
   grind
  refine .own [n] t o false l b cap cs (λi j=>(cs[i*aC t+j]?).getD undef) (E b rfl) O Z U ⟨Y,λh=>by cases h⟩ (λi hi j x C=>?_) (λi hi j x C=>?_)
  ·grind
  ·grind
def Rl.ag2{t e ty:TypeId}{tc:TC}{i:TypeInfo}{z:Value}{rr o m c:Nat}{q:Bool}{l l2:aa (T tc)}{u:Value}{ad:ah Addr}{news:aa Value}(h:Rl w0 N af ρ σ a w)(hF:w0.F rr=none)(fW:P.underlying t=some (.slice e))(ht:tid tc=e)(hi:P.info? e=some i)(hz:i.zero=some z)
  (ia:i.size=aC tc) (jE:i.bytes <= 65536) (mM:z.cells.size=aC tc) (hd:RV w w0.heap.size af [rr] (.sl tc (o+2) q l) u) (oF:Reads w w.heap.size (aC tc) ad m news) (lF:∀v∈news,v.oneCell'=true) (hm:m=l2.length)
  (FO:tZ w w0.heap.size af rr l.length tc o l2 news) (hlen:l.length+l2.length<1073741824):
  ∃D w' az,(Builtin.append_ #[t,t] ty #[u,.slice ad m c]).run P w = .ok D w'/\Rl w0 N az (bD ρ rr (.dA D)) ((σ.drop rr).root rr (.sl (.sl tc (o+2) false (l++l2)))) a w'/\lW D=true:=by
 subst ht hm;obtain⟨xs,zd,Kj,FN,iq⟩:=hd.ag1 (B':=0) (λb _=>Nat.zero_le b);have gB:(l.length+l2.length)*i.bytes <= 140737488355328:=by
  have h1:(l.length+l2.length)*i.bytes <= 1073741824*65536:=Nat.mul_le_mul (by omega) jE;omega
 obtain⟨D,w',cY,O,I,ir⟩:=OP (P:=P) w 0 t ty (tid tc) i z (aC tc) i.bytes fW hi hz ia rfl mM (ot tc) u l.length xs zd _ ad l2.length c news oF lF (by unfold maxLen;omega) gB (Nat.zero_le _);have FP:(l++l2).length=l.length+l2.length:=List.length_append;rw[<- FP]at O;have Bn:=iq.append FO zd.1;have fU:lW D=true:=by rcases O.2 with ⟨rfl,_⟩|⟨_,_,_,rfl,_⟩<;>rfl
 have U:Below 0 w w':=(Below.refl 0 w).grown I (Nat.zero_le _) (λ_ _=>Nat.zero_le _);have ku:iS w0 w w':=⟨U.os,U.tape,U.output,U.size,λk E hL=>I.block k (Nat.lt_of_lt_of_le E h.below.size) (λe'=>by
  rcases(h.cN k _ (Kj k e'.symm)).1 with h1|h1
  ·exact absurd E (Nat.not_lt.2 h1)
  ·exact h1 hL)⟩
 have Y:∀b,b<w.heap.size -> af b≠some [rr] -> w'.heap[b]?=w.heap[b]?:=λb C cm=>I.block b C (λe'=>cm (Kj b e'.symm))
 by_cases Z:D.ownBlock=some w.heap.size
 ·have de:w.heap.size<w'.heap.size:=by
   rcases O.2 with ⟨rfl,_⟩|⟨b,cap,cs,rfl,_,hh,_⟩
   ·cases Z
   ·have:b=w.heap.size:=by simpa [Value.ownBlock]using Z
    grind
  have F0:∀b,b<w.heap.size -> bD af w.heap.size (some [rr]) b=af b:=λb C=>ck _ _ _ (by omega)
  refine⟨D,w',bD af w.heap.size (some [rr]),cY,h.yZ hF ku ⟨I.size,Y,F0,λb C=>(h.cN b [] C).2.2 rfl⟩ (λb k C E=>?_) (λr hr=>ck _ _ _ hr) (.sl D _ (bI _ _ _) (W4 O (Bn.under I.size Y F0) (λb C=>?_))),fU⟩
  ·by_cases e:b=w.heap.size
   ·subst e;rw[bI]at E
    grind
   ·rw[ck _ _ _ e]at E;have:=(h.cN b k E).2.1;omega
  ·rw[Z]at C;injection C with C;subst C;exact bI _ _ _
 ·have Px:D.ownBlock=u.ownBlock:=by
   rcases ir with ir|ir
   ·exact ir
   ·exact absurd ir Z
  refine⟨D,w',af,cY,h.yZ hF ku ⟨I.size,Y,λ_ _=>rfl,λb C=>(h.cN b [] C).2.2 rfl⟩ (λb k C E=>?_) (λr hr=>ck _ _ _ hr) (.sl D _ (bI _ _ _) (W4 O (Bn.under I.size Y (λ_ _=>rfl)) (λb C=>Kj b (by rw[<- Px];exact C)))),fU⟩
  have:=(h.cN b k E).2.1;omega
end
end Go.Proofs.YtgjfmljpdnnihaaGreat
