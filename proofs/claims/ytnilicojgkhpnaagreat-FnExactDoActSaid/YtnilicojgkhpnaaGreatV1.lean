/-
  Running the program over pure contents, and that it follows (part 1). Nothing here is a claim.
-/
import Derived.Test.YtnilicojgkhpnaaGreatAppend
import Derived.Test.YtnilicojgkhpnaaGreatLaws
import Derived.Handy
import Derived.Great.BuildSlice
import Derived.ArgAppend
set_option linter.unusedSimpArgs false
namespace Go.Proofs.YtnilicojgkhpnaaGreat
open Go.RowKit
set_option linter.defProp false
abbrev aa:=List
abbrev ah:=Option
abbrev af:=Unit
def au:=@cond_true
def eG:=@Bool.or_eq_true
def aU:=@Bool.and_eq_true
def cK:=@Nat.eq_of_beq_eq_true
def cZ:=@Nat.le_of_ble_eq_true
def hU:=@List.mem_of_getElem?
def eR:=@List.getElem?_map
def iW:=@Array.getElem?_eq_some_iff
def dQ:=@Nat.le_refl
def fD:=@Nat.zero_add
def aq:=@cond_false
def cx:=@List.all_eq_true
def aZ:=@congrArg
theorem bI.{u}{c:Prop}{h:Decidable c}(k:c:=by omega){α:Sort u}{t e:α}:ite c t e=t:=if_pos k
def eS:=@List.length_map
def iM:=@Array.getD_eq_getD_getElem?
def lS:=@Array.length_toList
theorem bU.{u}{c:Prop}{h:Decidable c}(k:¬c:=by omega){α:Sort u}{t e:α}:ite c t e=e:=if_neg k
def gG:=@List.length_set
def dV:=@List.getElem?_eq_some_iff
def bZ:=@List.getElem?_eq_getElem
def iX:=@Nat.mul_le_mul_right
def iN:=@Nat.succ_mul
def gq:=@Sem.run_bind
def mH:=@Result.andThen_ok
def ia:=@run_underlying
def cT:=@List.getElem_mem
def jn:=@Nat.ble_eq_true_of_le
def iO:=@Option.some.injEq
def fT:=@List.length_take
def nq:=@List.getElem_set_self
def fz:=@List.getD_eq_getElem?_getD
def oW:=@Bool.or_eq_false_iff
def gV:=@Bool.not_eq_true'
def iw:=@List.mem_cons
def cw:=@Bool.true_and
theorem aA.{u}{c:Prop}{h:Decidable c}(k:c:=by omega){α:Sort u}{t:c->α}{e:¬c->α}:dite c t e=t k:=dif_pos k
def fK:=@List.mem_range
def iY:=@List.getElem_range
def lT:=@List.nil_append
theorem aS{p:Prop}[Decidable p](k:p:=by omega):decide p=true:=decide_eq_true k
def iZ:=@decide_eq_true_eq
def bA:=@Bool.not_true
def bz:=@Int.toNat_natCast
theorem aT{p:Prop}[Decidable p](k:¬p:=by omega):decide p=false:=decide_eq_false k
def en:=@Sum.elim_inl
def cr:=@Int.natCast_zero
def fL:=@Int.eq_ofNat_of_zero_le
def dY:=@bne_self_eq_false
def iP:=@List.take_length
def dM:=@beq_self_eq_true
def jo:=@List.mem_iff_getElem
def mI:=@List.findIdx?_eq_some_iff_getElem
def cU:=@List.length_range
def gW:=@Bool.not_false
def qR:=@Int.tdiv_eq_ediv_of_nonneg
def sg:=@Int.tmod_eq_emod_of_nonneg
def p7:=@decide_eq_false_iff_not
def fU:=@beq_iff_eq
def lU:=@List.length_singleton
set_option linter.unusedVariables false
set_option linter.unusedSimpArgs false
structure aM where
 cu:Int
 aC:Int
 rows:Int
 aO:Int
structure aJ where
 ay:Int
 row:Int
 bT:Int
structure jX where
 order:Int
 hash:Bool
structure aG where
 kind:Int
 ay:Int
 row:Int
 bT:Int
structure dj where
 jY:Int
 rp:Int
 gX:Int
 nt:Int
 jZ:Int
 ke:Int
 nu:Int
 ny:Int
 jy:Int
 wr:Int
 nA:Int
 nB:Int
 p9:Int
 nD:Int
 n7:Int
 xp:Int
 xs:Int
structure c9 where
 open_:Bool
 row:Int
structure cC where
 aC:List c9
 bf:Int
structure c8 where
 at_:Int
 cmd:aG
structure dB where
 last:List Int
 bC:List Int
structure bP where
 symbols:List Int
 gO:Bool
structure cV where
 cells:List bP
 bx:List Int
 bw:List Int
structure jq where
 bx:Int
 bw:Int
structure bV where
 rows:List Int
 counts:List Int
 dg:Int
structure cQ where
 bQ:Int
 map:List Int
structure cS where
 aI:List Int
 wait:Int
 dD:Bool
structure aK where
 id:Int
 dm:Int
 line:Int
 write:Bool
 data:Int
 at_:Int
structure bY where
 weight:Int
 ff:Int
structure gP where
 on:Bool
 low:Int
 high:Int
structure eN where
 state:Int
 since:Int
 idle:Int
structure lA where
 down:Int
 sleep:Int
structure bW where
 line:Int
 code:Int
 times:Int
structure lV where
 next:Int
 every:Int
 wait:Int
structure fh where
 eX:Int
 cap:Int
 fQ:Int
 low:Int
 high:Int
 weights:List Int
 eT:lA
structure fM where
 bH:fh
 next:fh
 waits:Bool
structure iG where
 az:aM
 cq:dj
 mapping:jX
 bQ:Int
 interval:Int
 iQ:Int
 dW:jq
structure cE where
 id:Int
 at_:Int
 data:Int
 code:Int
structure ax where
 config:iG
 box:fM
 now:Int
 br:cC
 ready:dB
 array:cV
 spare:cQ
 aV:cS
 bJ:List bV
 guard:List Int
 pending:List aJ
 queue:List aK
 shares:List bY
 drain:gP
 bf:eN
 cH:lV
 errors:List bW
 trace:List c8
 cy:List cE
structure lC where
 kind:Int
 request:aK
 n:Int
 oX:Int
 addr:aJ
 gY:fh
inductive TC where
 |int|u8|bool|str
 |fA
 |Addr
 |n8
 |Command
 |kf
 |gi
 |ja
 |Event
 |kO
 |Cell
 |Array
 |nE
 |fj
 |jL
 |jz
 |cW
 |eC
 |lD
 |Power
 |n9
 |eH
 |oa
 |lE
 |jM
 |Config
 |fV
 |cN
 |Act
 |sl (t:TC)
 |lW
 |Bw (g:Nat)
 |By (g:Nat)
 |Bz (g:Nat)
 |fnCommand (g:Nat)
deriving DecidableEq
def T:TC->Type
 |.int=>Int
 |.u8=>Int
 |.bool=>Bool
 |.str=>ByteArray
 |.fA=>aM
 |.Addr=>aJ
 |.n8=>jX
 |.Command=>aG
 |.kf=>dj
 |.gi=>c9
 |.ja=>cC
 |.Event=>c8
 |.kO=>dB
 |.Cell=>bP
 |.Array=>cV
 |.nE=>jq
 |.fj=>bV
 |.jL=>cQ
 |.jz=>cS
 |.cW=>aK
 |.eC=>bY
 |.lD=>gP
 |.Power=>eN
 |.n9=>lA
 |.eH=>bW
 |.oa=>lV
 |.lE=>fh
 |.jM=>fM
 |.Config=>iG
 |.fV=>cE
 |.cN=>ax
 |.Act=>lC
 |.sl t=>aa (T t)
 |.lW=>ax
 |.Bw _=>Int
 |.By _=>aK
 |.Bz _=>aJ
 |.fnCommand _=>aG
def aE:TC->Nat
 |.lW=>76
 |.Bw _=>3
 |.By _=>8
 |.Bz _=>5
 |.fnCommand _=>6
 |.fA=>4
 |.Addr=>3
 |.n8=>2
 |.Command=>4
 |.kf=>17
 |.gi=>2
 |.ja=>2
 |.Event=>5
 |.kO=>2
 |.Cell=>2
 |.Array=>3
 |.nE=>2
 |.fj=>3
 |.jL=>2
 |.jz=>3
 |.cW=>6
 |.eC=>2
 |.lD=>3
 |.Power=>3
 |.n9=>2
 |.eH=>3
 |.oa=>3
 |.lE=>8
 |.jM=>17
 |.Config=>28
 |.fV=>4
 |.cN=>75
 |.Act=>20
 |_=>1
def full:TC->Nat
 |.int|.u8|.bool|.str=>0
 |.fA=>0
 |.Addr=>0
 |.n8=>0
 |.Command=>0
 |.kf=>0
 |.gi=>0
 |.ja=>2
 |.Event=>0
 |.kO=>2
 |.Cell=>2
 |.Array=>4
 |.nE=>0
 |.fj=>2
 |.jL=>2
 |.jz=>2
 |.cW=>0
 |.eC=>0
 |.lD=>0
 |.Power=>0
 |.n9=>0
 |.eH=>0
 |.oa=>0
 |.lE=>2
 |.jM=>2
 |.Config=>0
 |.fV=>0
 |.cN=>4
 |.Act=>2
 |.sl t=>full t+2
 |.lW=>4
 |.Bw _=>0
 |.By _=>0
 |.Bz _=>0
 |.fnCommand _=>0
def tid:TC->TypeId
 |.int=>3
 |.u8=>5
 |.bool=>4
 |.str=>9
 |.fA=>67
 |.Addr=>130
 |.n8=>69
 |.Command=>188
 |.kf=>68
 |.gi=>356
 |.ja=>80
 |.Event=>287
 |.kO=>81
 |.Cell=>306
 |.Array=>84
 |.nE=>70
 |.fj=>255
 |.jL=>85
 |.jz=>86
 |.cW=>129
 |.eC=>279
 |.lD=>91
 |.Power=>92
 |.n9=>73
 |.eH=>283
 |.oa=>93
 |.lE=>75
 |.jM=>77
 |.Config=>72
 |.fV=>293
 |.cN=>98
 |.Act=>132
 |.sl .int=>32
 |.sl .bool=>422
 |.sl .str=>0
 |_=>0
inductive V where
 |int (k:IntKind) (n:Int)
 |bool (b:Bool)
 |str (s:ByteArray)
 |nil
 |sl (t:TC) (o:Nat) (q:Bool) (l:List (T t))
def V.bu:V->ah Int|.int .i64 n=>some n|_=>none
def V.VC:V->ah Int|.int .u8 n=>some n|_=>none
def V.oc:V->ah Bool|.bool b=>some b|_=>none
def V.VD:V->ah ByteArray|.str s=>some s|_=>none
def V.fB(t:TC)(o:Nat):V->ah (aa (T t))
 |.sl D C _ l=>bif Nat.beq C o ||(Nat.ble (full t+2) C&&Nat.ble (full t+2) o)then (if h:D=t then some (h ▸ l)else none)else none
 |.nil=>some []
 |_=>none
inductive Wk:V->V->Prop
 |same (x:V):Wk x x
 |nil (t:TC) (o:Nat):Wk .nil (.sl t o false [])
 |q (t:TC) (o:Nat) (l:List (T t)):Wk (.sl t o true l) (.sl t o false l)
 |gr (t:TC) (o o':Nat) (qn:Bool) (l:List (T t)) (h:full t+2<=o) (h':full t+2<=o'):Wk (.sl t o' qn l) (.sl t o false l)
def lF(xs ys:aa V):Prop:=xs.length=ys.length/\∀(j:Nat) (x y:V),xs[j]?=some x->ys[j]?=some y->Wk x y
def lF.nil:lF [] []:=⟨rfl,by simp⟩
def lF.cons{x y:V}{xs ys:aa V}(h:Wk x y)(k:lF xs ys):lF (x :: xs) (y :: ys):=by
 refine⟨by simp[k.1],λj a b C hb=>?_⟩
 cases j with
 |zero=>simp_all
 |succ j=>simp at C hb;exact k.2 j a b C hb
def V.apn{x:V}{n:Int}(h:x.bu=some n):Wk x (.int .i64 n):=by
 unfold V.bu at h;split at h<;>first|(injection h with h;subst h;exact .same _)|cases h
def V.apo{x:V}{n:Int}(h:x.VC=some n):Wk x (.int .u8 n):=by
 unfold V.VC at h;split at h<;>first|(injection h with h;subst h;exact .same _)|cases h
def V.apq{x:V}{n:Bool}(h:x.oc=some n):Wk x (.bool n):=by
 unfold V.oc at h;split at h<;>first|(injection h with h;subst h;exact .same _)|cases h
def V.apr{x:V}{n:ByteArray}(h:x.VD=some n):Wk x (.str n):=by
 unfold V.VD at h;split at h<;>first|(injection h with h;subst h;exact .same _)|cases h
def V.HO{x:V}{t:TC}{o:Nat}{l:aa (T t)}(h:x.fB t o=some l):Wk x (.sl t o false l):=by
 unfold V.fB at h;split at h
 ·rename_i E C q L;cases hc:(Nat.beq C o || (Nat.ble (full t+2) C&&Nat.ble (full t+2) o))with
  |false=>simp_all
  | true=>
   rw[hc,au]at h;split at h
   ·rename_i D;subst D;injection h with h;subst h;rw[eG,aU]at hc;rcases hc with hc | hc
    ·obtain rfl:=cK hc;cases q
     ·exact .same _
     ·exact .q _ _ _
    ·exact .gr _ _ _ _ _ (cZ hc.2) (cZ hc.1)
   ·cases h
 ·injection h with h;subst h;exact .nil _ _
 ·cases h
def Ep(x:aJ)(o:Nat):aa V:=[.int .i64 x.ay,.int .i64 x.row,.int .i64 x.bT]
def Er(x:aG)(o:Nat):aa V:=[.int .i64 x.kind,.int .i64 x.ay,.int .i64 x.row,.int .i64 x.bT]
def Es(x:aK)(o:Nat):aa V:=[.int .i64 x.id,.int .i64 x.dm,.int .i64 x.line,.bool x.write,.int .i64 x.data,.int .i64 x.at_]
def Et(x:ax)(o:Nat):aa V:=[.int .i64 x.config.az.cu,.int .i64 x.config.az.aC,.int .i64 x.config.az.rows,.int .i64 x.config.az.aO,.int .i64 x.config.cq.jY,.int .i64 x.config.cq.rp,.int .i64 x.config.cq.gX,.int .i64 x.config.cq.nt,.int .i64 x.config.cq.jZ,.int .i64 x.config.cq.ke,.int .i64 x.config.cq.nu,.int .i64 x.config.cq.ny,.int .i64 x.config.cq.jy,.int .i64 x.config.cq.wr,.int .i64 x.config.cq.nA,.int .i64 x.config.cq.nB,.int .i64 x.config.cq.p9,.int .i64 x.config.cq.nD,.int .i64 x.config.cq.n7,.int .i64 x.config.cq.xp,.int .i64 x.config.cq.xs,.int .i64 x.config.mapping.order,.bool x.config.mapping.hash,.int .i64 x.config.bQ,.int .i64 x.config.interval,.int .i64 x.config.iQ,.int .i64 x.config.dW.bx,.int .i64 x.config.dW.bw,.int .i64 x.box.bH.eX,.int .i64 x.box.bH.cap,.int .i64 x.box.bH.fQ,.int .i64 x.box.bH.low,.int .i64 x.box.bH.high,.sl .int o false x.box.bH.weights,.int .i64 x.box.bH.eT.down,.int .i64 x.box.bH.eT.sleep,.int .i64 x.box.next.eX,.int .i64 x.box.next.cap,.int .i64 x.box.next.fQ,.int .i64 x.box.next.low,.int .i64 x.box.next.high,.sl .int o false x.box.next.weights,.int .i64 x.box.next.eT.down,.int .i64 x.box.next.eT.sleep,.bool x.box.waits,.int .i64 x.now,.sl .gi o false x.br.aC,.int .i64 x.br.bf,.sl .int o false x.ready.last,.sl .int o false x.ready.bC,.sl .Cell o false x.array.cells,.sl .int o false x.array.bx,.sl .int o false x.array.bw,.int .i64 x.spare.bQ,.sl .int o false x.spare.map,.sl .int o false x.aV.aI,.int .i64 x.aV.wait,.bool x.aV.dD,.sl .fj o false x.bJ,.sl .int o false x.guard,.sl .Addr o false x.pending,.sl .cW o false x.queue,.sl .eC o false x.shares,.bool x.drain.on,.int .i64 x.drain.low,.int .i64 x.drain.high,.int .i64 x.bf.state,.int .i64 x.bf.since,.int .i64 x.bf.idle,.int .i64 x.cH.next,.int .i64 x.cH.every,.int .i64 x.cH.wait,.sl .eH o false x.errors,.sl .Event o false x.trace,.sl .fV o false x.cy]
def enc:(t:TC)->(o:Nat)->T t->aa V
 |.int,_,x=>[.int .i64 x]
 |.u8,_,x=>[.int .u8 x]
 |.bool,_,x=>[.bool x]
 |.str,_,x=>[.str x]
 |.fA,o,x=>[.int .i64 x.cu,.int .i64 x.aC,.int .i64 x.rows,.int .i64 x.aO]
 |.Addr,o,x=>Ep x o
 |.n8,o,x=>[.int .i64 x.order,.bool x.hash]
 |.Command,o,x=>Er x o
 |.kf,o,x=>[.int .i64 x.jY,.int .i64 x.rp,.int .i64 x.gX,.int .i64 x.nt,.int .i64 x.jZ,.int .i64 x.ke,.int .i64 x.nu,.int .i64 x.ny,.int .i64 x.jy,.int .i64 x.wr,.int .i64 x.nA,.int .i64 x.nB,.int .i64 x.p9,.int .i64 x.nD,.int .i64 x.n7,.int .i64 x.xp,.int .i64 x.xs]
 |.gi,o,x=>[.bool x.open_,.int .i64 x.row]
 |.ja,o,x=>[.sl .gi o false x.aC,.int .i64 x.bf]
 |.Event,o,x=>[.int .i64 x.at_,.int .i64 x.cmd.kind,.int .i64 x.cmd.ay,.int .i64 x.cmd.row,.int .i64 x.cmd.bT]
 |.kO,o,x=>[.sl .int o false x.last,.sl .int o false x.bC]
 |.Cell,o,x=>[.sl .int o false x.symbols,.bool x.gO]
 |.Array,o,x=>[.sl .Cell o false x.cells,.sl .int o false x.bx,.sl .int o false x.bw]
 |.nE,o,x=>[.int .i64 x.bx,.int .i64 x.bw]
 |.fj,o,x=>[.sl .int o false x.rows,.sl .int o false x.counts,.int .i64 x.dg]
 |.jL,o,x=>[.int .i64 x.bQ,.sl .int o false x.map]
 |.jz,o,x=>[.sl .int o false x.aI,.int .i64 x.wait,.bool x.dD]
 |.cW,o,x=>Es x o
 |.eC,o,x=>[.int .i64 x.weight,.int .i64 x.ff]
 |.lD,o,x=>[.bool x.on,.int .i64 x.low,.int .i64 x.high]
 |.Power,o,x=>[.int .i64 x.state,.int .i64 x.since,.int .i64 x.idle]
 |.n9,o,x=>[.int .i64 x.down,.int .i64 x.sleep]
 |.eH,o,x=>[.int .i64 x.line,.int .i64 x.code,.int .i64 x.times]
 |.oa,o,x=>[.int .i64 x.next,.int .i64 x.every,.int .i64 x.wait]
 |.lE,o,x=>[.int .i64 x.eX,.int .i64 x.cap,.int .i64 x.fQ,.int .i64 x.low,.int .i64 x.high,.sl .int o false x.weights,.int .i64 x.eT.down,.int .i64 x.eT.sleep]
 |.jM,o,x=>[.int .i64 x.bH.eX,.int .i64 x.bH.cap,.int .i64 x.bH.fQ,.int .i64 x.bH.low,.int .i64 x.bH.high,.sl .int o false x.bH.weights,.int .i64 x.bH.eT.down,.int .i64 x.bH.eT.sleep,.int .i64 x.next.eX,.int .i64 x.next.cap,.int .i64 x.next.fQ,.int .i64 x.next.low,.int .i64 x.next.high,.sl .int o false x.next.weights,.int .i64 x.next.eT.down,.int .i64 x.next.eT.sleep,.bool x.waits]
 |.Config,o,x=>[.int .i64 x.az.cu,.int .i64 x.az.aC,.int .i64 x.az.rows,.int .i64 x.az.aO,.int .i64 x.cq.jY,.int .i64 x.cq.rp,.int .i64 x.cq.gX,.int .i64 x.cq.nt,.int .i64 x.cq.jZ,.int .i64 x.cq.ke,.int .i64 x.cq.nu,.int .i64 x.cq.ny,.int .i64 x.cq.jy,.int .i64 x.cq.wr,.int .i64 x.cq.nA,.int .i64 x.cq.nB,.int .i64 x.cq.p9,.int .i64 x.cq.nD,.int .i64 x.cq.n7,.int .i64 x.cq.xp,.int .i64 x.cq.xs,.int .i64 x.mapping.order,.bool x.mapping.hash,.int .i64 x.bQ,.int .i64 x.interval,.int .i64 x.iQ,.int .i64 x.dW.bx,.int .i64 x.dW.bw]
 |.fV,o,x=>[.int .i64 x.id,.int .i64 x.at_,.int .i64 x.data,.int .i64 x.code]
 |.cN,o,x=>Et x o
 |.Act,o,x=>[.int .i64 x.kind,.int .i64 x.request.id,.int .i64 x.request.dm,.int .i64 x.request.line,.bool x.request.write,.int .i64 x.request.data,.int .i64 x.request.at_,.int .i64 x.n,.int .i64 x.oX,.int .i64 x.addr.ay,.int .i64 x.addr.row,.int .i64 x.addr.bT,.int .i64 x.gY.eX,.int .i64 x.gY.cap,.int .i64 x.gY.fQ,.int .i64 x.gY.low,.int .i64 x.gY.high,.sl .int o false x.gY.weights,.int .i64 x.gY.eT.down,.int .i64 x.gY.eT.sleep]
 |.sl t,o,x=>[.sl t o false x]
 |.lW,o,x=>.bool true::Et x o
 |.Bw g,o,x=>.bool false::.int .i64 (g:Int)::[.int .i64 x]
 |.By g,o,x=>.bool false::.int .i64 (g:Int)::Es x o
 |.Bz g,o,x=>.bool false::.int .i64 (g:Int)::Ep x o
 |.fnCommand g,o,x=>.bool false::.int .i64 (g:Int)::Er x o
def dF{α β:Type}(g:V->ah β)(f:β->aa V->ah α):aa V->ah α
 |x::cs=>(g x).bind λy=>f y cs
 |[]=>none
def dE{α:Type}(x:α):aa V->ah α
 |[]=>some x
 |_=>none
def V.eo(b:Bool):V->ah Bool|.bool c=>bif c==b then some c else none|_=>none
def V.Eu(n:Int):V->ah Int|.int .i64 m=>if m=n then some m else none|_=>none
def DQ{α:Type}(e:α->aa V)(p:aa V->aa V)(d:aa V->ah α):Prop:=∀cs x,d cs=some x->∃L,e x=p L/\lF cs L
def aps{α:Type}{e:α->aa V}{p:aa V->aa V}{x:α}(h:e x=p []):DQ e p (dE x):=λcs y C=>by
 cases cs with
 |nil=>injection C with C;subst C;exact⟨[],h,.nil⟩
 |cons=>cases C
def bind_some{α β:Type}{a:ah α}{f:α -> ah β}{b:β}(h:a.bind f=some b):∃ x,a=some x/\f x=some b:=by
 cases a with
 |none=>cases h
 |some x=>simp_all
def BA{α β:Type}{e:α->aa V}{p:aa V->aa V}{g:V->ah β}{k:β->V}(D:∀ {x y},g x=some y->Wk x (k y)){f:β->aa V->ah α}(E:∀ y,DQ e (λL=>p (k y :: L)) (f y)):DQ e p (dF g f):=λcs x C=>by
 cases cs with
 |nil=>cases C
 | cons c cs=>
  obtain⟨y,O,T⟩:=bind_some C;obtain⟨L,U,Y⟩:=E y cs x T;exact⟨k y::L,U,.cons (D O) Y⟩
def V.apt{b:Bool}{x:V}{c:Bool}(h:x.eo b=some c):Wk x (.bool b):=by
 unfold V.eo at h;split at h
 next C=>cases C<;>cases b<;>first|exact .same _|cases h
 ·cases h
def V.apu{n:Int}{x:V}{c:Int}(h:x.Eu n=some c):Wk x (.int .i64 n):=by
 unfold V.Eu at h;split at h
 ·split at h
  next C=>subst C;exact .same _
  ·cases h
 ·cases h
abbrev acU (o:Nat):aa V->ah aJ:=dF V.bu λC=>dF V.bu λD=>dF V.bu λE=>dE ⟨C,D,E⟩
abbrev acV (o:Nat):aa V->ah aG:=dF V.bu λC=>dF V.bu λD=>dF V.bu λE=>dF V.bu λL=>dE ⟨C,D,E,L⟩
abbrev acW (o:Nat):aa V->ah aK:=dF V.bu λC=>dF V.bu λD=>dF V.bu λE=>dF V.oc λL=>dF V.bu λO=>dF V.bu λT=>dE ⟨C,D,E,L,O,T⟩
abbrev acX (o:Nat):aa V->ah ax:=dF V.bu λC=>dF V.bu λD=>dF V.bu λE=>dF V.bu λL=>dF V.bu λO=>dF V.bu λT=>dF V.bu λU=>dF V.bu λY=>dF V.bu λZ=>dF V.bu λx9=>dF V.bu λwW=>dF V.bu λwX=>dF V.bu λwY=>dF V.bu λwZ=>dF V.bu λw5=>dF V.bu λw6=>dF V.bu λw7=>dF V.bu λHP=>dF V.bu λHQ=>dF V.bu λHR=>dF V.bu λVE=>dF V.bu λVF=>dF V.oc λVG=>dF V.bu λVH=>dF V.bu λVI=>dF V.bu λVJ=>dF V.bu λVK=>dF V.bu λVL=>dF V.bu λx28=>dF V.bu λx29=>dF V.bu λx30=>dF V.bu λx31=>dF V.bu λx32=>dF (V.fB .int o) λx33=>dF V.bu λx34=>dF V.bu λx35=>dF V.bu λx36=>dF V.bu λx37=>dF V.bu λx38=>dF V.bu λx39=>dF V.bu λx40=>dF (V.fB .int o) λx41=>dF V.bu λx42=>dF V.bu λx43=>dF V.oc λx44=>dF V.bu λx45=>dF (V.fB .gi o) λx46=>dF V.bu λx47=>dF (V.fB .int o) λx48=>dF (V.fB .int o) λx49=>dF (V.fB .Cell o) λx50=>dF (V.fB .int o) λx51=>dF (V.fB .int o) λx52=>dF V.bu λx53=>dF (V.fB .int o) λx54=>dF (V.fB .int o) λx55=>dF V.bu λx56=>dF V.oc λx57=>dF (V.fB .fj o) λx58=>dF (V.fB .int o) λx59=>dF (V.fB .Addr o) λx60=>dF (V.fB .cW o) λx61=>dF (V.fB .eC o) λx62=>dF V.oc λx63=>dF V.bu λx64=>dF V.bu λx65=>dF V.bu λx66=>dF V.bu λx67=>dF V.bu λx68=>dF V.bu λx69=>dF V.bu λx70=>dF V.bu λx71=>dF (V.fB .eH o) λx72=>dF (V.fB .Event o) λx73=>dF (V.fB .fV o) λx74=>dE ⟨⟨⟨C,D,E,L⟩,⟨O,T,U,Y,Z,x9,wW,wX,wY,wZ,w5,w6,w7,HP,HQ,HR,VE⟩,⟨VF,VG⟩,VH,VI,VJ,⟨VK,VL⟩⟩,⟨⟨x28,x29,x30,x31,x32,x33,⟨x34,x35⟩⟩,⟨x36,x37,x38,x39,x40,x41,⟨x42,x43⟩⟩,x44⟩,x45,⟨x46,x47⟩,⟨x48,x49⟩,⟨x50,x51,x52⟩,⟨x53,x54⟩,⟨x55,x56,x57⟩,x58,x59,x60,x61,x62,⟨x63,x64,x65⟩,⟨x66,x67,x68⟩,⟨x69,x70,x71⟩,x72,x73,x74⟩
def dec:(t:TC)->(o:Nat)->aa V->ah (T t)
 |.int,_=>dF V.bu dE
 |.u8,_=>dF V.VC dE
 |.bool,_=>dF V.oc dE
 |.str,_=>dF V.VD dE
 |.fA,o=>dF V.bu λC=>dF V.bu λD=>dF V.bu λE=>dF V.bu λL=>dE ⟨C,D,E,L⟩
 |.Addr,o=>acU o
 |.n8,o=>dF V.bu λC=>dF V.oc λD=>dE ⟨C,D⟩
 |.Command,o=>acV o
 |.kf,o=>dF V.bu λC=>dF V.bu λD=>dF V.bu λE=>dF V.bu λL=>dF V.bu λO=>dF V.bu λU=>dF V.bu λY=>dF V.bu λZ=>dF V.bu λx8=>dF V.bu λx9=>dF V.bu λwW=>dF V.bu λwX=>dF V.bu λwY=>dF V.bu λwZ=>dF V.bu λw5=>dF V.bu λw6=>dF V.bu λw7=>dE ⟨C,D,E,L,O,U,Y,Z,x8,x9,wW,wX,wY,wZ,w5,w6,w7⟩
 |.gi,o=>dF V.oc λC=>dF V.bu λD=>dE ⟨C,D⟩
 |.ja,o=>dF (V.fB .gi o) λC=>dF V.bu λD=>dE ⟨C,D⟩
 |.Event,o=>dF V.bu λC=>dF V.bu λD=>dF V.bu λE=>dF V.bu λL=>dF V.bu λO=>dE ⟨C,⟨D,E,L,O⟩⟩
 |.kO,o=>dF (V.fB .int o) λC=>dF (V.fB .int o) λD=>dE ⟨C,D⟩
 |.Cell,o=>dF (V.fB .int o) λC=>dF V.oc λD=>dE ⟨C,D⟩
 |.Array,o=>dF (V.fB .Cell o) λC=>dF (V.fB .int o) λD=>dF (V.fB .int o) λE=>dE ⟨C,D,E⟩
 |.nE,o=>dF V.bu λC=>dF V.bu λD=>dE ⟨C,D⟩
 |.fj,o=>dF (V.fB .int o) λC=>dF (V.fB .int o) λD=>dF V.bu λE=>dE ⟨C,D,E⟩
 |.jL,o=>dF V.bu λC=>dF (V.fB .int o) λD=>dE ⟨C,D⟩
 |.jz,o=>dF (V.fB .int o) λC=>dF V.bu λD=>dF V.oc λE=>dE ⟨C,D,E⟩
 |.cW,o=>acW o
 |.eC,o=>dF V.bu λC=>dF V.bu λD=>dE ⟨C,D⟩
 |.lD,o=>dF V.oc λC=>dF V.bu λD=>dF V.bu λE=>dE ⟨C,D,E⟩
 |.Power,o=>dF V.bu λC=>dF V.bu λD=>dF V.bu λE=>dE ⟨C,D,E⟩
 |.n9,o=>dF V.bu λC=>dF V.bu λD=>dE ⟨C,D⟩
 |.eH,o=>dF V.bu λC=>dF V.bu λD=>dF V.bu λE=>dE ⟨C,D,E⟩
 |.oa,o=>dF V.bu λC=>dF V.bu λD=>dF V.bu λE=>dE ⟨C,D,E⟩
 |.lE,o=>dF V.bu λC=>dF V.bu λD=>dF V.bu λE=>dF V.bu λL=>dF V.bu λO=>dF (V.fB .int o) λU=>dF V.bu λY=>dF V.bu λZ=>dE ⟨C,D,E,L,O,U,⟨Y,Z⟩⟩
 |.jM,o=>dF V.bu λC=>dF V.bu λD=>dF V.bu λE=>dF V.bu λL=>dF V.bu λO=>dF (V.fB .int o) λU=>dF V.bu λY=>dF V.bu λZ=>dF V.bu λx8=>dF V.bu λx9=>dF V.bu λwW=>dF V.bu λwX=>dF V.bu λwY=>dF (V.fB .int o) λwZ=>dF V.bu λw5=>dF V.bu λw6=>dF V.oc λw7=>dE ⟨⟨C,D,E,L,O,U,⟨Y,Z⟩⟩,⟨x8,x9,wW,wX,wY,wZ,⟨w5,w6⟩⟩,w7⟩
 |.Config,o=>dF V.bu λC=>dF V.bu λD=>dF V.bu λE=>dF V.bu λL=>dF V.bu λO=>dF V.bu λU=>dF V.bu λY=>dF V.bu λZ=>dF V.bu λx8=>dF V.bu λx9=>dF V.bu λwW=>dF V.bu λwX=>dF V.bu λwY=>dF V.bu λwZ=>dF V.bu λw5=>dF V.bu λw6=>dF V.bu λw7=>dF V.bu λHP=>dF V.bu λHQ=>dF V.bu λHR=>dF V.bu λVE=>dF V.bu λVF=>dF V.oc λVG=>dF V.bu λVH=>dF V.bu λVI=>dF V.bu λVJ=>dF V.bu λVK=>dF V.bu λVL=>dE ⟨⟨C,D,E,L⟩,⟨O,U,Y,Z,x8,x9,wW,wX,wY,wZ,w5,w6,w7,HP,HQ,HR,VE⟩,⟨VF,VG⟩,VH,VI,VJ,⟨VK,VL⟩⟩
 |.fV,o=>dF V.bu λC=>dF V.bu λD=>dF V.bu λE=>dF V.bu λL=>dE ⟨C,D,E,L⟩
 |.cN,o=>acX o
 |.Act,o=>dF V.bu λC=>dF V.bu λD=>dF V.bu λE=>dF V.bu λL=>dF V.oc λO=>dF V.bu λU=>dF V.bu λY=>dF V.bu λZ=>dF V.bu λx8=>dF V.bu λx9=>dF V.bu λwW=>dF V.bu λwX=>dF V.bu λwY=>dF V.bu λwZ=>dF V.bu λw5=>dF V.bu λw6=>dF V.bu λw7=>dF (V.fB .int o) λHP=>dF V.bu λHQ=>dF V.bu λHR=>dE ⟨C,⟨D,E,L,O,U,Y⟩,Z,x8,⟨x9,wW,wX⟩,⟨wY,wZ,w5,w6,w7,HP,⟨HQ,HR⟩⟩⟩
 |.sl t,o=>dF (V.fB t o) dE
 |.lW,o=>dF (V.eo true) λ_=>acX o
 |.Bw g,o=>dF (V.eo false) λ_=>dF (V.Eu g) λ_=>dF V.bu dE
 |.By g,o=>dF (V.eo false) λ_=>dF (V.Eu g) λ_=>acW o
 |.Bz g,o=>dF (V.eo false) λ_=>dF (V.Eu g) λ_=>acU o
 |.fnCommand g,o=>dF (V.eo false) λ_=>dF (V.Eu g) λ_=>acV o
def shp:TC->Nat->aa V
 |.cN,o=>Et ⟨⟨⟨0,0,0,0⟩,⟨0,0,0,0,0,0,0,0,0,0,0,0,0,0,0,0,0⟩,⟨0,false⟩,0,0,0,⟨0,0⟩⟩,⟨⟨0,0,0,0,0,[],⟨0,0⟩⟩,⟨0,0,0,0,0,[],⟨0,0⟩⟩,false⟩,0,⟨[],0⟩,⟨[],[]⟩,⟨[],[],[]⟩,⟨0,[]⟩,⟨[],0,false⟩,[],[],[],[],[],⟨false,0,0⟩,⟨0,0,0⟩,⟨0,0,0⟩,[],[],[]⟩ o
 |_,_=>[]
def kP(t:TC)(o:Nat)(x:T t):(enc t o x).length=aE t:=by cases t<;>rfl
def oY(t:TC):0<aE t:=by cases t<;>simp[aE]
def apv(t:TC)(o:Nat):DQ (enc t o) id (dec t o):=by
 cases t<;>dsimp only[dec]<;>(repeat' first|exact aps rfl|refine BA V.apn λ_=>?_|refine BA V.apq λ_=>?_|refine BA V.HO λ_=>?_|refine BA V.apr λ_=>?_|refine BA V.apo λ_=>?_|refine BA V.apt λ_=>?_|refine BA V.apu λ_=>?_)
def mJ(t:TC)(o:Nat)(cs:aa V)(x:T t)(h:dec t o cs=some x):lF cs (enc t o x):=by
 obtain⟨L,C,D⟩:=apv t o cs x h;rw[C];exact D
def V.low(n:Nat):V->Bool
 |.sl t _ _ _=>Nat.ble (full t+2) n
 |_=>true
def Oq(t:TC)(o:Nat)(x:T t):∀ y∈enc t o x,y.low (full t)=true:=by
 cases t<;>simp[enc,V.low,full,Ep,Er,Es,Et]
def V.plain:V->Bool
 |.int _ _|.bool _|.str _=>true
 |_=>false
def zg(t:TC)(o:Nat)(x:T t)(h:full t=0):∀ y∈enc t o x,y.plain=true:=by
 cases t<;>first|(simp[full]at h;done)|simp[enc,V.plain,Ep,Er,Es]
def V.kg:V->Bool
 |.nil=>false
 |_=>true
def VM(t:TC)(o:Nat)(x:T t):∀ y∈enc t o x,y.kg=true:=by
 cases t<;>simp[enc,V.kg,Ep,Er,Es,Et]
def tcs:aa TC:=[.int,.u8,.bool,.str,.sl .int,.sl .bool,.sl .str,.fA,.Addr,.n8,.Command,.kf,.gi,.ja,.Event,.kO,.Cell,.Array,.nE,.fj,.jL,.jz,.cW,.eC,.lD,.Power,.n9,.eH,.oa,.lE,.jM,.Config,.fV,.cN,.Act]
def acY(e:TypeId):ah TC:=tcs.find? λt=>Nat.beq (tid t) e
def apw{e:TypeId}{t:TC}(h:acY e=some t):tid t=e:=cK (List.find?_some (p:=λt=>Nat.beq (tid t) e) h)
def V.gr(o:Nat):V->Bool
 |.sl _ C _ _=>C==o
 |_=>true
def zh(t:TC)(o:Nat)(x:T t):∀ y∈enc t o x,y.gr o=true:=by
 cases t<;>simp[enc,V.gr,Ep,Er,Es,Et]
def V.aF:V->Bool
 |.sl _ o _ _=>decide (o<2)
 |_=>true
def V.gH:V->V
 |.sl t _ q l=>.sl t 0 q l
 |x=>x
def apx(t:TC)(o:Nat)(x y:T t):(enc t o x).map (λv=>(v.plain,v.aF))=(enc t o y).map (λv=>(v.plain,v.aF)):=by cases t<;>rfl
def V.apy(x:V):x.gH.aF=true:=by cases x<;>simp[V.gH,V.aF]
def sj(t:TC)(o:Nat)(x:T t)(C:o<2)(j:Nat)(y:V)(h:(enc t o x)[j]?=some y):y.aF=true:=by
 have:=zh t o x y (hU h);cases y<;>simp_all [V.gr,V.aF]
def acZ(t:TC)(o:Nat)(x:T t):enc t 0 x=(enc t o x).map V.gH:=by cases t<;>rfl
def w8(t:TC)(o:Nat)(x:T t)(j:Nat)(y:V)(h:(enc t 0 x)[j]?=some y):∃ z,(enc t o x)[j]?=some z/\y=z.gH:=by
 rw[acZ t o x,eR]at h
 grind
def inner:Nat->Nat
 |0=>0
 |1=>1
 |n+2=>n
abbrev bK:=Nat->ah (aa Nat)
inductive RV (w:World) (B:Nat) (aj:bK):List Nat->V->Value->Prop
 |int (q:List Nat) (k:IntKind) (n:Int):RV w B aj q (.int k n) (.int k n)
 |bool (q:List Nat) (b:Bool):RV w B aj q (.bool b) (.bool b)
 |str (q:List Nat) (s:ByteArray):RV w B aj q (.str s) (.string s)
 |nil (q:List Nat):RV w B aj q .nil (.slice none 0 0)
 |eI (q:List Nat) (t:TC) (o:Nat):RV w B aj q (.sl t o false []) (.slice none 0 0)
 |fN (q:List Nat) (t:TC) (o:Nat) (A:Addr) (c:Nat) (ho:o<2):RV w B aj q (.sl t o false []) (.slice (some A) 0 c)
 |fW (q:List Nat) (t:TC) (o:Nat) (A:Addr) (c:Nat) (ho:o<2):RV w B aj q (.sl t o true []) (.slice (some A) 0 c)
 | aF (q:List Nat) (t:TC) (o:Nat) (qn:Bool) (l:List (T t)) (b off cap:Nat) (u:Nat->Nat->Value) (ho:o<2) (hl:aj b=none) (hb:b<w.heap.size) (h1:o=1->B<=b) (jA:l.length<=cap)
   (hc:∀i (h:i<l.length) j x,(enc t o l[i])[j]?=some x->w.cell? ⟨b,off+(i*aE t+j),none⟩=some (u i j))
   (hr:∀i (h:i<l.length) j x,(enc t o l[i])[j]?=some x->RV w B aj [] x (u i j)):RV w B aj q (.sl t o qn l) (.slice (some ⟨b,off,none⟩) l.length cap)
 | own (q:List Nat) (t:TC) (o:Nat) (qn:Bool) (l:List (T t)) (b cap:Nat) (cs:Array Value) (u:Nat->Nat->Value) (hl:aj b=some q) (hh:w.heap[b]?=some (.cells cs (tid t) (0,0)))
   (hs:cs.size=cap*aE t) (hn:l.length<=cap) (hm:cap<=maxLen/\(qn=true->cap=l.length))
   (hc:∀i (h:i<l.length) j x,(enc t o l[i])[j]?=some x->cs[i*aE t+j]?=some (u i j))
   (hr:∀i (h:i<l.length) j x,(enc t o l[i])[j]?=some x->RV w B aj (j::i::aE t::q) x (u i j)):RV w B aj q (.sl t (o+2) qn l) (.slice (some ⟨b,0,none⟩) l.length cap)
section
variable {w w':World} {B:Nat} {aj aD:bK}
def V.HS(n:Nat):V->V
 |.sl t _ q l=>.sl t n q l
 |x=>x
def apz(t:TC)(o n:Nat)(x:T t):enc t n x=(enc t o x).map (V.HS n):=by cases t<;>rfl
def V.fu(n:Nat):V->Prop
 |.sl t o _ _=>full t+2<=o/\full t+2<=n
 |_=>True
def RV.HS{q:aa Nat}{x:V}{v:Value}(h:RV w B aj q x v):∀ n,x.fu n -> RV w B aj q (x.HS n) v:=by
 induction h with
 |int=>exact λ_ _=>.int _ _ _
 |bool=>exact λ_ _=>.bool _ _
 |str=>exact λ_ _=>.str _ _
 |nil=>exact λ_ _=>.nil _
 |eI=>exact λ_ _=>.eI _ _ _
 |fN q t o A c L=>exact λn C=>by have:=C.1;omega
 |fW q t o A c L=>exact λn C=>by have:=C.1;omega
 |aF q t o O l b off cap u L hl hb T jA U Y Z=>exact λn C=>by have:=C.1;omega
 | own q t o O l b cap cs u hl hh hs C hm U Y Z=>
  intro n hf;obtain⟨T,h2⟩:=hf;obtain⟨m,rfl⟩:∃m,n=m+2:=⟨n-2,by omega⟩
  have key:∀ (i:Nat) (h:i<l.length) (j:Nat) (x:V),(enc t m l[i])[j]?=some x -> ∃ y:V,(enc t o l[i])[j]?=some y/\y.HS m=x/\y.fu m:=by
   intro i h j x D;rw[apz t o m l[i],eR]at D;cases E:(enc t o l[i])[j]? with
   |none=>simp_all
   | some y=>
    rw[E]at D;injection D with D;refine⟨y,rfl,D,?_⟩;have g1:=zh t o l[i] y (hU E);have g2:=Oq t o l[i] y (hU E);cases y with
    | sl t' o' q' l'=>
     have e:o'=o:=by simpa [V.gr]using g1
     have:=cZ (show Nat.ble _ _=true from g2);exact⟨by omega,by omega⟩
    |_=>trivial
  refine .own _ _ _ _ _ _ _ cs u hl hh hs C hm (λi h j x D=>?_) (λi h j x D=>?_)
  ·grind
  ·grind
def RV.wk{q:aa Nat}{x y:V}{v:Value}(h:RV w B aj q x v)(k:Wk x y):RV w B aj q y v:=by
 cases k with
 |same=>exact h
 |nil t o=>cases h;exact .eI _ _ _
 | gr t o o' L l O h2=>
  have h:=h.HS o ⟨h2,O⟩;cases h with
  |eI=>exact .eI _ _ _
  |fN q t o A c C=>grind
  |fW q t o A c C=>grind
  |aF q t o L l b off cap u C hl hb O jA D E=>grind
  |own q t o L l b cap cs u hl T U Y Z D E=>exact .own _ _ _ _ _ _ _ cs u hl T U Y ⟨Z.1,λh=>by cases h⟩ D E
 | q t o l=>
  cases h with
  |fW q t o A c C=>exact .fN _ _ _ _ _ C
  |aF q t o L l b off cap u C hl hb O jA D E=>exact .aF _ _ _ _ _ _ _ _ u C hl hb O jA D E
  |own q t o L l b cap cs u hl T U Y Z D E=>exact .own _ _ _ _ _ _ _ cs u hl T U Y ⟨Z.1,λh=>by cases h⟩ D E
def RV.map{Q:aa Nat->aa Nat->Prop}(Z:w.heap.size<=w'.heap.size)(h0:∀ b,b<w.heap.size->aj b=none->w'.heap[b]?=w.heap[b]?/\aD b=none)
  (h1:∀b q C,b<w.heap.size->aj b=some q->Q q C->w'.heap[b]?=w.heap[b]?/\aD b=some C/\∀j i s,Q (j::i::s::q) (j::i::s::C)) {q C:aa Nat} {x:V} {v:Value} (h:RV w B aj q x v) (hq:x.aF=true\/Q q C):RV w' B aD C x v:=by
 induction h generalizing C with
 |int=>exact .int _ _ _
 |bool=>exact .bool _ _
 |str=>exact .str _ _
 |nil=>exact .nil _
 |eI=>exact .eI _ _ _
 |fN _ _ _ _ _ D=>exact .fN _ _ _ _ _ D
 |fW _ _ _ _ _ D=>exact .fW _ _ _ _ _ D
 | aF q t o qn l b off cap u D hl hb VN jA L hr O=>
  obtain⟨T,U⟩:=h0 b hb hl;exact .aF _ _ _ _ _ _ _ _ u D U (Nat.lt_of_lt_of_le hb Z) VN jA (λi h j x E=>(World.cell?_of_block (a:=⟨b,_,none⟩) T).trans (L i h j x E)) (λi h j x E=>O i h j x E (.inl (sj t o l[i] D j x E)))
 | own q t o qn l b cap cs u hl Y hs hn hm L hr O=>
  obtain⟨T,U,e3⟩:=h1 b q C (iW.1 Y).1 hl (hq.resolve_left (by simp[V.aF]));exact .own _ _ _ _ _ _ _ cs u U (T.trans Y) hs hn hm L (λi h j x E=>O i h j x E (.inr (e3 _ _ _)))
def RV.ac0{q C:aa Nat}{x:V}{v:Value}(h:RV w B aj q x v)(D:x.aF=true)(hl:∀ b,aj b=none->aD b=none):RV w B aD C x v:=
 h.map (Q:=λ_ _=>False) (dQ _) (λb _ h=>⟨rfl,hl b h⟩) (λ_ _ _ _ _ h=>h.elim) (.inl D)
def RV.Ot{q:aa Nat}{x:V}{v:Value}(h:RV w B aj q x v)(C:x.aF=true)(hl:∀b,aj b=none->aD b=none):RV w B aD q x v:=h.ac0 C hl
def RV.key{q C:aa Nat}{x:V}{v:Value}(h:RV w B aj q x v)(D:x.aF=true):RV w B aj C x v:=h.ac0 D λ_ h=>h
def nG:Value->Bool
 |.slice ..=>true
 |_=>false
def RV.VO{q:aa Nat}{x:V}{u:Value}(h:RV w B aj q x u)(C:x.aF=false):nG u=true:=by
 cases h<;>first|rfl|cases C
def RV.one{q:aa Nat}{x:V}{u:Value}(h:RV w B aj q x u):u.oneCell'=true:=by
 cases h<;>rfl
def RV.lX{q:aa Nat}{x:V}{v:Value}(h:RV w B aj q x v)(D:w.heap.size<=w'.heap.size)(C:∀ b,b<w.heap.size->w'.heap[b]?=w.heap[b]?/\aD b=aj b):RV w' B aD q x v:=
 h.map (Q:=Eq) D (λb hb hl=>⟨(C b hb).1,(C b hb).2.trans hl⟩) (λb q E hb hl e=>by subst e;exact⟨(C b hb).1,(C b hb).2.trans hl,λ_ _ _=>rfl⟩) (.inr rfl)
def RV.apart{q kt:aa Nat}{x:V}{v:Value}{bt:Nat}(h:RV w B aj q x v)(C:aj bt=some kt)(L:¬ q <:+ kt\/x.aF=true)(O:w.heap.size<=w'.heap.size)(D:∀ b,b≠bt->w'.heap[b]?=w.heap[b]?):RV w' B aj q x v:=
 h.map (Q:=λq E=>q=E/\¬ q <:+ kt) O (λb _ hl=>⟨D b (by rintro rfl;rw[hl]at C;cases C),hl⟩) (λb q E _ hl e=>by
  obtain⟨rfl,e⟩:=e;exact⟨D b (by rintro rfl;rw[hl]at C;injection C with C;subst C;exact e (List.suffix_refl _)),hl,λj i s=>⟨rfl,λT=>e (List.IsSuffix.trans ⟨[j,i,s],rfl⟩ T)⟩⟩) (L.symm.imp_right λh=>⟨rfl,h⟩)
def RV.gH{q E:aa Nat}{x:V}{v:Value}(h:RV w B aj q x v){B':Nat}:RV w B' (λ_=>none) E x.gH v:=by
 induction h generalizing E with
 |int=>exact .int _ _ _
 |bool=>exact .bool _ _
 |str=>exact .str _ _
 |nil=>exact .nil _
 |eI=>exact .eI _ _ _
 |fN=>exact .fN _ _ _ _ _ (by first|assumption|omega)
 |fW=>exact .fW _ _ _ _ _ (by first|assumption|omega)
 | aF q t o T l b off cap u ho hl hb h1 U L Y Z=>
  refine .aF _ _ _ _ _ _ _ _ u (by omega) rfl hb (by omega) U (λi h j x C=>?_) (λi h j x C=>?_)
  ·obtain⟨y,D,_⟩:=w8 t o l[i] j x C;simp_all
  ·obtain⟨y,D,rfl⟩:=w8 t o l[i] j x C;simp_all
 | own q t o T l b cap cs u hl O hs hn hm L Y Z=>
  refine .aF _ _ _ _ _ _ _ _ u (by omega) rfl (iW.1 O).1 (by omega) hn (λi h j x C=>?_) (λi h j x C=>?_)
  ·obtain⟨y,D,_⟩:=w8 t o l[i] j x C;have:=L i h j y D;rw[fD,cell_of_row w b _ cs _ _ O];exact this
  ·obtain⟨y,D,rfl⟩:=w8 t o l[i] j x C;simp_all
end
set_option linter.unusedVariables false
inductive Lf where
 |v (x:V)
 |own (k:List Nat)
 |dead
inductive A where
 |undef
 |skip
 |lf (x:Lf)
 |agg (cs:List Lf)
 |fk (xs:List (Bool×List Lf))
 |ptr (k:List Nat)
 |aH (r j:Nat)
 |jr (cs:List V)
 |nH (f:Nat) (cs:List V)
 |pk (r n:Nat)
 |view (k:List Nat) (s i j:Nat)
 |fn (f:Nat) (cap:List (Nat×Nat))
inductive bh where
 |aB (cs:List Lf)
 |sl (y:V)
 |mp (l:List (Int×Bool))
 |gh (xs:List A)
structure S where
 t:Nat->A
 m:Nat->Option bh
inductive Loc where
 |aB (b off:Nat)
 |ep (v:Value)
 |cc (us:List Value)
def addrAt(w:World)(aj:bK)(ρ:Nat->Loc):aa Nat->ah Addr
 | j :: i :: s :: [r]=>match ρ r with
  |.ep (.slice (some ⟨b,0,none⟩) _ _)=>if aj b=some [r]then some ⟨b,i*s+j,none⟩else none
  |_=>none
 | j :: i :: s :: q=>match (addrAt w aj ρ q).bind w.cell? with
  |some (.slice (some ⟨b,0,none⟩) _ _)=>if aj b=some q then some ⟨b,i*s+j,none⟩else none
  |_=>none
 |_=>none
def di(w:World)(aj:bK)(ρ:Nat->Loc):aa Nat->ah Value
 | [r]=>match ρ r with
  |.ep v=>some v
  |_=>none
 |q=>(addrAt w aj ρ q).bind w.cell?
def dZ(w:World)(B:Nat)(aj:bK)(ρ:Nat->Loc):Lf->Value->Prop
 |.v x,u=>x.aF=true/\RV w B aj [] x u
 |.own k,u=>nG u=true/\di w aj ρ k=some u
 |.dead,_=>True
def eO(w:World)(B:Nat)(aj:bK)(ρ:Nat->Loc)(cs:aa Lf)(us:Array Value):Prop:=
 us.size=cs.length/\∀(j:Nat) x,cs[j]?=some x->∃u,us[j]?=some u/\dZ w B aj ρ x u
def RP(w:World)(B:Nat)(aj:bK)(ρ:Nat->Loc)(p:Bool×aa Lf)(u:Value):Prop:=
 match p with
 |(true,cs)=>∃us,u = .agg us/\eO w B aj ρ cs us
 |(false,cs)=>eO w B aj ρ cs #[u]
def qS:Nat:=4294967296
def Ou(b n:Nat):Value:=bif Nat.beq n qS then .map (some b)else .slice (some ⟨b,0,none⟩) n n
def VP{b n:Nat}(h:n<qS):Ou b n = .slice (some ⟨b,0,none⟩) n n:=by
 unfold Ou;cases hb:Nat.beq n qS with
 |true=>simp_all
 |false=>rfl
def VQ(b:Nat):Ou b qS = .map (some b):=rfl
def RF(w:World)(B:Nat)(aj:bK)(cs:aa V)(u:Value):Prop:=
 ∃b off,u = .pointer (some ⟨b,off,none⟩)/\b<w.heap.size/\aj b=none/\∀(j:Nat) x,cs[j]?=some x->x.aF=true/\∃v,w.cell? ⟨b,off+j,none⟩=some v/\RV w B aj [] x v
def RA(w:World)(B:Nat)(aj:bK)(ρ:Nat->Loc):A->Value->Prop
 |.undef,_=>True
 |.skip,u=>u=Go.undef
 |.lf x,u=>dZ w B aj ρ x u
 |.agg cs,u=>RP w B aj ρ (true,cs) u
 |.fk xs,u=>∃us:Array Value,u = .tuple us/\us.size=xs.length/\∀(j:Nat) p,xs[j]?=some p->∃v,us[j]?=some v/\RP w B aj ρ p v
 |.ptr k,u=>∃ad,u = .pointer (some ad)/\addrAt w aj ρ k=some ad
 |.aH r j,u=>∃b off,ρ r = .aB b off/\u = .pointer (some ⟨b,off+j,none⟩)
 |.jr cs,u=>RF w B aj cs u
 |.nH f cs,u=>∃pv,u = .func (.func f) #[] #[pv]/\RF w B aj cs pv
 |.pk r n,u=>∃b,ρ r = .aB b 0/\u=Ou b n
 |.view k s i j,u=>∃A n c,di w aj ρ k=some (.slice A n c)/\i<=j/\j<=n/\u=sliced A i j c s
 |.fn f cap,u=>∃C:Array Value,u = .func (.func f) #[] C/\C.size=cap.length/\∀(j:Nat) p,cap[j]?=some p->∃b off,ρ p.1 = .aB b off/\C[j]?=some (.pointer (some ⟨b,off+p.2,none⟩))
inductive ez (w:World) (B:Nat) (aj:bK) (ρ:Nat->Loc) (r:Nat):bh->Prop
 | aB (b off:Nat) (cells:Array Value) (e:TypeId) (cs:List Lf) (us:Nat->Value) (cF:ρ r = .aB b off) (hl:aj b=some [r]) (hh:w.heap[b]?=some (.cells cells e (0,0))) (hs:off+cs.length<=cells.size)
   (hc:∀(j:Nat) x,cs[j]?=some x->cells[off+j]?=some (us j)/\dZ w B aj ρ x (us j)):ez w B aj ρ r (.aB cs)
 |sl (v:Value) (y:V) (cF:ρ r = .ep v) (hr:RV w B aj [r] y v):ez w B aj ρ r (.sl y)
 |mp (b clock:Nat) (es:Array MapEntry) (l:List (Int×Bool)) (cF:ρ r = .aB b 0) (hl:aj b=some [r]) (hh:w.heap[b]?=some (.map es clock)) (he:es.toList.map (λe=>(e.key,e.val))=l.map λp=>(.int .i64 p.1,.bool p.2)):ez w B aj ρ r (.mp l)
 |gh (us:List Value) (xs:List A) (cF:ρ r = .cc us) (hx:∀(j:Nat) x,xs[j]?=some x->RA w B aj ρ x (us.getD j undef)):ez w B aj ρ r (.gh xs)
def Qw(_:World):Prop:=True
structure apA (n:Nat) (L:bK) (w w':World):Prop where
 os:w'.os=w.os
 tape:w'.tape=w.tape
 output:w'.output=w.output
 size:w.heap.size<=w'.heap.size
 block:∀k,k<n->L k=none->w'.heap[k]?=w.heap[k]?
def Hd(w:World)(L:bK):Prop:=∀w',apA w.heap.size L w w'->Qw w'
def apB(w:World)(L:bK):Hd w L:=λ_ _=>trivial
structure Wd where
 w:World
 L:bK
 F:Nat->Option Loc
 held:Hd w L
 low:∀r,r<20000->F r=none
def Wd.heap(d:Wd):Array Obj:=d.w.heap
def Wd.of(w:World)(h:Hd w λ_=>none):Wd:=⟨w,λ_=>none,λ_=>none,h,λ_ _=>rfl⟩
structure js (d:Wd) (w w':World):Prop where
 os:w'.os=w.os
 tape:w'.tape=w.tape
 output:w'.output=w.output
 size:w.heap.size<=w'.heap.size
 block:∀k,k<d.heap.size->d.L k=none->w'.heap[k]?=w.heap[k]?
def js.trans{d:Wd}{a b c:World}(h:js d a b)(k:js d b c):js d a c:=
 ⟨k.os.trans h.os,k.tape.trans h.tape,k.output.trans h.output,Nat.le_trans h.size k.size,λi hi hl=>(k.block i hi hl).trans (h.block i hi hl)⟩
def Wd.on(d:Wd){w:World}(h:js d d.w w){L:bK}(D:∀ b k,L b=some k->d.heap.size<=b\/d.L b≠none):Hd w L:=λw' hb=>
 d.held w' ⟨hb.os.trans h.os,hb.tape.trans h.tape,hb.output.trans h.output,Nat.le_trans h.size hb.size,λk C hl=>by
  have e:L k=none:=by
   cases e:L k with
   |none=>rfl
   | some q=>
    rcases D k q e with h1|h1
    ·exact absurd C (Nat.not_lt.2 h1)
    ·exact absurd hl h1
  exact(hb.block k (Nat.lt_of_lt_of_le C h.size) e).trans (h.block k C hl)⟩
def js.of{d:Wd}{a b:World}{B:Nat}(h:Below B a b)(hB:d.heap.size<=B):js d a b:=
 ⟨h.os,h.tape,h.output,h.size,λi hi _=>h.block i (Nat.lt_of_lt_of_le hi hB)⟩
structure Rl (w0:Wd) (N:Nat) (aj:bK) (ρ:Nat->Loc) (σ:S) (a:Act) (w:World):Prop where
 below:js w0 w0.w w
 dw:∀b k,aj b=some k->(w0.heap.size<=b\/w0.L b≠none)/\b<w.heap.size/\k≠[]
 root:∀r x,σ.m r=some x->ez w w0.heap.size aj ρ r x
 tmp:∀k,RA w w0.heap.size aj ρ (σ.t k) (a.tmps.getD k undef)
 size:a.tmps.size=N
 defers:a.defers=[]
 fix:∀r l,w0.F r=some l->ρ r=l
 dH:∀r,(r<N\/60000<=r)->w0.F r=none
def R(w0:Wd)(N:Nat)(σ:S)(a:Act)(w:World):Prop:=∃aj ρ,Rl w0 N aj ρ σ a w
/-! Reading along a key. -/
inductive xb (m:Nat->Option bh):List Nat->V->Prop
 |root (r:Nat) (y:V) (h:m r=some (.sl y)):xb m [r] y
 |elem (j i:Nat) (q:List Nat) (t:TC) (o:Nat) (qn:Bool) (l:List (T t)) (y:V) (h:xb m q (.sl t (o+2) qn l)) (hi:i<l.length) (hy:(enc t o l[i])[j]?=some y):xb m (j::i::aE t::q) y
section
variable {w w':World} {w0:Wd} {B N:Nat} {aj aD:bK} {ρ ρ':Nat->Loc} {m:Nat->ah bh} {σ:S} {a:Act}
def BB{q:aa Nat}(j i s:Nat){b n c:Nat}(h:di w aj ρ q=some (.slice (some ⟨b,0,none⟩) n c))(hl:aj b=some q):addrAt w aj ρ (j :: i :: s :: q)=some ⟨b,i*s+j,none⟩:=by
 match q,h,hl with
 | [r],h,hl=>
  simp[di]at h;simp[addrAt]
  grind
 | x :: y :: q,h,hl=>
  simp[di]at h;simp[addrAt,h,hl,if_true]
def Ov{j i s:Nat}{q:aa Nat}:di w aj ρ (j::i::s::q)=(addrAt w aj ρ (j::i::s::q)).bind w.cell?:=rfl
def xb.ok{k:aa Nat}{y:V}(h:xb m k y)(D:∀ r x,m r=some x -> ez w B aj ρ r x):∃ u,di w aj ρ k=some u/\RV w B aj k y u:=by
 induction h with
 | root r y h=>
  cases D _ _ h with
  |sl v y E C=>exact⟨v,by simp[di,E],C⟩
 | elem j i q t o Y l y h hi L O=>
  obtain⟨u,T,C⟩:=O;cases C with
  |eI=>simp at hi
  |fN=>simp at hi
  |fW=>simp at hi
  |aF _ _ _ _ _ _ _ _ _ Z=>omega
  | own _ _ _ _ _ b cap cs us hl U hs hn D hc C=>
   refine⟨us i j,?_,C i hi j y L⟩;rw[Ov,BB j i _ T hl];show w.cell? _=_;rw[cell_of_row w b _ cs _ _ U];simp_all
def BE:∀ (k:aa Nat) (ad:Addr),addrAt w aj ρ k=some ad -> ∃ j i s q,k=j :: i :: s :: q/\aj ad.block=some q/\ad.off=i*s+j/\ad.spot=none/\(∀ r,q=[r] -> ∃ v,ρ r = .ep v)
 |[],_,h=>by simp[addrAt]at h
 | [j,i,s,r],ad,h=>by
  simp only[addrAt]at h
  grind
 | j :: i :: s :: x :: y :: q,ad,h=>by
  simp only[addrAt]at h
  grind
/-! What is forgotten: keys of leaves,of addresses,roots. -/
structure nI where
 l:List Nat->Bool
 p:List Nat->Bool
 r:Nat->Bool
def Lf.cL(f:aa Nat->Bool):Lf->Lf
 |.own k=>bif f k then .dead else .own k
 |x=>x
def A.cL(K:nI):A->A
 |.lf x=>.lf (x.cL K.l)
 |.agg cs=>.agg (cs.map (Lf.cL K.l))
 |.fk xs=>.fk (xs.map λp=>(p.1,p.2.map (Lf.cL K.l)))
 |.ptr k=>bif K.p k then .undef else .ptr k
 |.aH r j=>bif K.r r then .undef else .aH r j
 |.pk r n=>bif K.r r then .undef else .pk r n
 |.view k s i j=>bif K.p k then .undef else .view k s i j
 |.fn f cap=>bif cap.any (λp=>K.r p.1)then .undef else .fn f cap
 |x=>x
def bh.cL(K:nI):bh->bh
 |.aB cs=>.aB (cs.map (Lf.cL K.l))
 |.gh xs=>.gh (xs.map (A.cL K))
 |x=>x
/-! What names nothing that is forgotten. -/
def Lf.fr(f:aa Nat->Bool):Lf->Bool
 |.own k=>!f k
 |_=>true
def A.fr(K:nI):A->Bool
 |.lf x=>x.fr K.l
 |.agg cs=>cs.all (Lf.fr K.l)
 |.fk xs=>xs.all λq=>q.2.all (Lf.fr K.l)
 |.ptr k=>!K.p k
 |.aH r _=>!K.r r
 |.pk r _=>!K.r r
 |.view k _ _ _=>!K.p k
 |.fn _ cap=>cap.all λq=>!K.r q.1
 |_=>true
def Lf.qT{f:aa Nat->Bool}{x:Lf}(h:x.fr f=true):x.cL f=x:=by
 cases x with
 |own k=>simp only[Lf.cL,show f k=false by simpa [Lf.fr]using h,aq]
 |_=>rfl
def qU.qT{f:aa Nat->Bool}{cs:aa Lf}(h:cs.all (Lf.fr f)=true):cs.map (Lf.cL f)=cs:=
 (List.map_congr_left λx C=>Lf.qT (cx.1 h x C)).trans (List.map_id cs)
def A.qT{K:nI}{x:A}(h:x.fr K=true):x.cL K=x:=by
 cases x with
 |lf x=>exact aZ A.lf (Lf.qT h)
 |agg cs=>exact aZ A.agg (qU.qT h)
 |fk xs=>exact aZ A.fk ((List.map_congr_left λq C=>by rw[qU.qT (cx.1 h q C)];rfl).trans (List.map_id xs))
 |ptr k=>simp only[A.cL,show K.p k=false by simpa [A.fr]using h,aq]
 |view k=>simp only[A.cL,show K.p k=false by simpa [A.fr]using h,aq]
 |aH r=>simp only[A.cL,show K.r r=false by simpa [A.fr]using h,aq]
 |pk r=>simp only[A.cL,show K.r r=false by simpa [A.fr]using h,aq]
 |fn f cap=>simp only[A.cL,show (cap.any λp=>K.r p.1)=false from List.any_eq_false.2 λp D=>by simpa using cx.1 h p D,aq]
 |_=>rfl
def Lf.vt{f g:aa Nat->Bool}(hl:∀ k,f k=true->g k=true){x:Lf}(h:x.fr g=true):x.fr f=true:=by
 cases x with
 | own k=>
  have h:(!g k)=true:=h;show (!f k)=true;cases C:f k with
  |false=>rfl
  |true=>rw[hl k C]at h;cases h
 |_=>rfl
def A.vt{K J:nI}(hl:∀ k,K.l k=true->J.l k=true)(L:∀ k,K.p k=true->J.p k=true)(O:∀ r,K.r r=true->J.r r=true){x:A}(h:x.fr J=true):x.fr K=true:=by
 have C:∀r,(!J.r r)=true->(!K.r r)=true:=λr h=>Lf.vt (x:=.own []) (f:=λ_=>K.r r) (λ_=>O r) h
 cases x with
 |lf x=>exact Lf.vt hl h
 |agg cs=>exact cx.2 λc D=>Lf.vt hl (cx.1 h c D)
 |fk xs=>exact cx.2 λq E=>cx.2 λc D=>Lf.vt hl (cx.1 (cx.1 h q E) c D)
 |ptr k=>exact Lf.vt (x:=.own k) L h
 |view k=>exact Lf.vt (x:=.own k) L h
 |aH r=>exact C r h
 |pk r=>exact C r h
 |fn f cap=>exact cx.2 λq E=>C _ (cx.1 h q E)
 |_=>rfl
def Lf.oZ(x:Lf)(f g:aa Nat->Bool):(x.cL f).cL g=(x.cL g).cL f:=by
 cases x with
 |own k=>cases C:f k<;>cases D:g k<;>simp[Lf.cL,C,D]
 |_=>rfl
def qU.oZ(cs:aa Lf)(f g:aa Nat->Bool):(cs.map (Lf.cL f)).map (Lf.cL g)=(cs.map (Lf.cL g)).map (Lf.cL f):=by
 rw[List.map_map,List.map_map];exact List.map_congr_left λx _=>Lf.oZ x f g
def A.oZ(x:A)(K J:nI):(x.cL K).cL J=(x.cL J).cL K:=by
 cases x with
 |lf x=>exact aZ A.lf (Lf.oZ x _ _)
 |agg cs=>exact aZ A.agg (qU.oZ cs _ _)
 | fk xs=>
  refine aZ A.fk ?_;rw[List.map_map,List.map_map];exact List.map_congr_left λq _=>aZ (Prod.mk q.1) (qU.oZ q.2 _ _)
 |ptr k=>cases C:K.p k<;>cases D:J.p k<;>simp[A.cL,C,D]
 |view k=>cases C:K.p k<;>cases D:J.p k<;>simp[A.cL,C,D]
 |aH r=>cases C:K.r r<;>cases D:J.r r<;>simp[A.cL,C,D]
 |pk r=>cases C:K.r r<;>cases D:J.r r<;>simp[A.cL,C,D]
 |fn f cap=>cases C:(cap.any λp=>K.r p.1)<;>cases D:(cap.any λp=>J.r p.1)<;>simp only[A.cL,C,D,au,aq]
 |_=>rfl
def bh.oZ(x:bh)(K J:nI):(x.cL K).cL J=(x.cL J).cL K:=by
 cases x with
 |aB cs=>exact aZ bh.aB (qU.oZ cs _ _)
 | gh xs=>
  refine aZ bh.gh ?_;rw[List.map_map,List.map_map];exact List.map_congr_left λx _=>A.oZ x K J
 |_=>rfl
def dc(d:Nat)(k:aa Nat):Bool:=k.getLast?==some d
def xd(d:Nat):nI:=⟨dc d,dc d,λr=>Nat.beq r d⟩
def Lf.drop(d:Nat):Lf->Lf:=Lf.cL (dc d)
def A.drop(d:Nat):A->A:=A.cL (xd d)
def bh.drop(d:Nat):bh->bh:=bh.cL (xd d)
def jB(c:Nat->Bool)(k:aa Nat):Bool:=match k.getLast? with
 |some r=>c r
 |none=>false
structure Tr (w w':World) (aj aD:bK) (ρ ρ':Nat->Loc) (t:List Nat->Bool) (c:Nat->Bool):Prop where
 size:w.heap.size<=w'.heap.size
 no:∀b,b<w.heap.size->aj b=none->w'.heap[b]?=w.heap[b]?/\aD b=none
 so:∀b k,aj b=some k->t k=false->w'.heap[b]?=w.heap[b]?/\aD b=some k
 fl:∀r,c r=false->ρ' r=ρ r
 up:∀j i s x q,t (j::i::s::x::q)=t (x::q)
 ne:∀b,aj b=some []->∀k,t k=false
structure nI.OK (K:nI) (t:List Nat->Bool) (c:Nat->Bool):Prop where
 l:∀k,K.l k=false->(k.length=1\/t k=false)/\jB c k=false
 p:∀k,K.p k=false->t k=false/\jB c k=false
 r:∀r,K.r r=false->c r=false
section
variable {t:aa Nat->Bool} {c:Nat->Bool} {K:nI}
def RV.tr(T:Tr w w' aj aD ρ ρ' t c){q:aa Nat}{x:V}{v:Value}(h:RV w B aj q x v)(D:x.aF=true\/t q=false):RV w' B aD q x v:=
 h.map (Q:=λq C=>q=C/\t q=false) T.size T.no (λb q C _ hl e=>by
  obtain⟨rfl,e⟩:=e;exact⟨(T.so b q hl e).1,(T.so b q hl e).2,λj i s=>⟨rfl,by
   cases q with
   |nil=>exact T.ne b hl _
   |cons x q=>rw[T.up];exact e⟩⟩) (D.imp_right λh=>⟨rfl,h⟩)
def Ow(j i s x:Nat)(q:aa Nat):jB c (j::i::s::x::q)=jB c (x::q):=by simp[jB,List.getLast?_cons_cons]
def VR(T:Tr w w' aj aD ρ ρ' t c):∀ (k:aa Nat) (ad:Addr),t k=false->jB c k=false->addrAt w aj ρ k=some ad->addrAt w' aD ρ' k=some ad
 |[],_,_,_,h=>by simp[addrAt]at h
 |[_],_,_,_,h=>by simp[addrAt]at h
 |[_,_],_,_,_,h=>by simp[addrAt]at h
 |[_,_,_],_,_,_,h=>by simp[addrAt]at h
 | [j,i,s,r],_,C,D,h=>by
  rw[T.up]at C;rw[Ow]at D;simp only[addrAt]at h ⊢;rw[T.fl r D];split at h
  ·split at h
   next hl=>rw[bI (T.so _ _ hl C).2];exact h
   ·cases h
  ·cases h
 | j :: i :: s :: x :: y :: q,ad,C,D,h=>by
  rw[T.up]at C;rw[Ow]at D;simp only[addrAt]at h ⊢;cases E:addrAt w aj ρ (x::y::q)with
  |none=>rw[E]at h;cases h
  | some U=>
   rw[VR T _ _ C D E];rw[E]at h;cases L:w.cell? U with
   |none=>simp[L]at h
   | some v=>
    obtain⟨Z,i',s',O,hk,Y,_,_⟩:=BE _ _ E;have BF:t O=false:=by
     cases O with
     |nil=>exact T.ne _ Y _
     |cons z O=>rw[<-T.up Z i' s',<-hk];exact C
    have e:w'.cell? U=some v:=(World.cell?_of_block (T.so _ _ Y BF).1).trans L;simp only[Option.bind_some,L]at h;simp only[Option.bind_some,e];split at h
    ·split at h
     next hl=>rw[bI (T.so _ _ hl C).2];exact h
     ·cases h
    ·cases h
def VS(T:Tr w w' aj aD ρ ρ' t c)(k:aa Nat)(u:Value)(C:k.length=1\/t k=false)(D:jB c k=false)(h:di w aj ρ k=some u):di w' aD ρ' k=some u:=by
 match k,C,D,h with
 |[],_,_,h=>simp[di,addrAt]at h
 | [r],_,D,h=>
  simp only[di]at h ⊢;rw[T.fl r D];exact h
 | x :: y :: q,C,D,h=>
  have C:t (x::y::q)=false:=C.resolve_left (by simp);simp only[di]at h ⊢;cases E:addrAt w aj ρ (x::y::q)with
  |none=>rw[E]at h;cases h
  | some ad=>
   rw[VR T _ _ C D E];rw[E]at h;have h:w.cell? ad=some u:=h;obtain⟨U,Y,Z,L,hk,O,_,_⟩:=BE _ _ E;have BF:t L=false:=by
    cases L with
    |nil=>exact T.ne _ O _
    |cons z L=>rw[<-T.up U Y Z,<-hk];exact C
   exact(World.cell?_of_block (T.so _ _ O BF).1).trans h
def dZ.tr(T:Tr w w' aj aD ρ ρ' t c)(C:K.OK t c){x:Lf}{u:Value}(h:dZ w B aj ρ x u):dZ w' B aD ρ' (x.cL K.l) u:=by
 cases x with
 |v x=>exact⟨h.1,h.2.tr T (.inl h.1)⟩
 |dead=>trivial
 | own k=>
  show dZ w' B aD ρ' (bif K.l k then .dead else .own k) u;cases hl:K.l k with
  |true=>trivial
  |false=>exact⟨h.1,VS T k u (C.l k hl).1 (C.l k hl).2 h.2⟩
def eO.tr(T:Tr w w' aj aD ρ ρ' t c)(D:K.OK t c){cs:aa Lf}{us:Array Value}(h:eO w B aj ρ cs us):eO w' B aD ρ' (cs.map (Lf.cL K.l)) us:=by
 refine⟨by rw[eS];exact h.1,λj x C=>?_⟩
 rw[eR]at C;obtain⟨y,E,rfl⟩:=Option.map_eq_some_iff.1 C;obtain⟨u,L,r⟩:=h.2 j y E;exact⟨u,L,r.tr T D⟩
def RP.tr(T:Tr w w' aj aD ρ ρ' t c)(C:K.OK t c){p:Bool×aa Lf}{u:Value}(h:RP w B aj ρ p u):RP w' B aD ρ' (p.1,p.2.map (Lf.cL K.l)) u:=by
 obtain⟨b,cs⟩:=p;cases b with
 |true=>obtain⟨us,e,h⟩:=h;exact⟨us,e,h.tr T C⟩
 |false=>exact eO.tr T C h
def RF.tr(T:Tr w w' aj aD ρ ρ' t c){cs:aa V}{u:Value}(h:RF w B aj cs u):RF w' B aD cs u:=by
 obtain⟨b,off,e,hb,hl,h⟩:=h;obtain⟨D,E⟩:=T.no b hb hl
 refine⟨b,off,e,Nat.lt_of_lt_of_le hb T.size,E,λj x L=>?_⟩
 obtain⟨C,v,O,U⟩:=h j x L;exact⟨C,v,(World.cell?_of_block (a:=⟨b,_,none⟩) D).trans O,U.tr T (.inl C)⟩
def RA.tr(T:Tr w w' aj aD ρ ρ' t c)(C:K.OK t c){x:A}{u:Value}(h:RA w B aj ρ x u):RA w' B aD ρ' (x.cL K) u:=by
 cases x with
 |undef=>trivial
 |skip=>exact h
 |lf x=>exact dZ.tr T C h
 |agg cs=>exact RP.tr T C (p:=(true,cs)) h
 | fk xs=>
  obtain⟨us,e,E,h⟩:=h
  refine⟨us,e,by rw[eS];exact E,λj p D=>?_⟩
  rw[eR]at D;obtain⟨y,L,rfl⟩:=Option.map_eq_some_iff.1 D;obtain⟨v,O,r⟩:=h j y L;exact⟨v,O,r.tr T C⟩
 | ptr k=>
  simp only[A.cL];cases hl:K.p k with
  |true=>trivial
  |false=>obtain⟨ad,e,h⟩:=h;exact⟨ad,e,VR T k ad (C.p k hl).1 (C.p k hl).2 h⟩
 | view k s i j=>
  simp only[A.cL];cases hl:K.p k with
  |true=>trivial
  |false=>obtain⟨A,n,c,h,g⟩:=h;exact⟨A,n,c,VS T k _ (.inr (C.p k hl).1) (C.p k hl).2 h,g⟩
 | pk r n=>
  simp only[A.cL];cases hl:K.r r with
  |true=>trivial
  |false=>obtain⟨b,e,h⟩:=h;exact⟨b,(T.fl r (C.r r hl)).trans e,h⟩
 | aH r j=>
  simp only[A.cL];cases hl:K.r r with
  |true=>trivial
  |false=>obtain⟨b,off,e,h⟩:=h;exact⟨b,off,(T.fl r (C.r r hl)).trans e,h⟩
 |jr cs=>exact RF.tr T h
 |nH f cs=>obtain⟨pv,e,h⟩:=h;exact⟨pv,e,h.tr T⟩
 | fn f cap=>
  simp only[A.cL];cases hl:cap.any (λp=>K.r p.1)with
  |true=>trivial
  | false=>
   obtain⟨U,e,E,h⟩:=h
   refine⟨U,e,E,λj p D=>?_⟩
   obtain⟨b,off,Y,Z⟩:=h j p D;exact⟨b,off,(T.fl _ (C.r _ (by simpa using List.any_eq_false.1 hl p (hU D)))).trans Y,Z⟩
def ez.tr(T:Tr w w' aj aD ρ ρ' t c)(Y:K.OK t c){r:Nat}{x:bh}(h:ez w B aj ρ r x)(D:t [r]=false)(E:c r=false):ez w' B aD ρ' r (x.cL K):=by
 cases h with
 | aB b off cells e cs us C hl U hs Z=>
  refine .aB b off cells e _ us ((T.fl r E).trans C) (T.so b _ hl D).2 ((T.so b _ hl D).1.trans U) (by rw[eS];exact hs) (λj x L=>?_)
  rw[eR]at L;obtain⟨y,O,rfl⟩:=Option.map_eq_some_iff.1 L;exact⟨(Z j y O).1,(Z j y O).2.tr T Y⟩
 |sl v y C hr=>exact .sl v y ((T.fl r E).trans C) (hr.tr T (.inr D))
 |mp b clock es l C hl U he=>exact .mp b clock es l ((T.fl r E).trans C) (T.so b _ hl D).2 ((T.so b _ hl D).1.trans U) he
 | gh us xs C L=>
  refine .gh us _ ((T.fl r E).trans C) (λj x hj=>?_)
  rw[eR]at hj;obtain⟨y,O,rfl⟩:=Option.map_eq_some_iff.1 hj;exact(L j y O).tr T Y
end
/-! Nothing is forgotten where old memory stays. -/
def Ox:nI:=⟨λ_=>false,λ_=>false,λ_=>false⟩
def A.HT(x:A):x.cL Ox=x:=by
 have h:∀cs:aa Lf,cs.all (Lf.fr Ox.l)=true:=λcs=>cx.2 λc _=>by cases c<;>rfl
 refine A.qT ?_;cases x with
 |lf x=>cases x<;>rfl
 |agg cs=>exact h cs
 |fk xs=>exact cx.2 λq _=>h q.2
 |fn f cap=>exact cx.2 λ_ _=>rfl
 |_=>rfl
def bh.HT(x:bh):x.cL Ox=x:=by
 cases x with
 |aB cs=>exact aZ bh.aB (A.agg.inj (A.HT (.agg cs)))
 |gh xs=>exact aZ bh.gh ((List.map_congr_left λx _=>A.HT x).trans (List.map_id xs))
 |_=>rfl
def VT(k:aa Nat):jB (λ_=>false) k=false:=by unfold jB;split<;>rfl
def ac1:Ox.OK (λ_=>false) (λ_=>false):=⟨λk _=>⟨.inr rfl,VT k⟩,λk _=>⟨rfl,VT k⟩,λ_ _=>rfl⟩
def Tr.lX(E:w.heap.size<=w'.heap.size)(C:∀ b,b<w.heap.size->w'.heap[b]?=w.heap[b]?/\aD b=aj b)(D:∀ b k,aj b=some k->b<w.heap.size):Tr w w' aj aD ρ ρ (λ_=>false) (λ_=>false):=
 ⟨E,λb hb hl=>⟨(C b hb).1,(C b hb).2.trans hl⟩,λb k hl _=>⟨(C b (D b k hl)).1,(C b (D b k hl)).2.trans hl⟩,λ_ _=>rfl,λ_ _ _ _ _=>rfl,λ_ _ _=>rfl⟩
def RA.lX{x:A}{u:Value}(h:RA w B aj ρ x u)(C:w.heap.size<=w'.heap.size)(D:∀ b,b<w.heap.size->w'.heap[b]?=w.heap[b]?/\aD b=aj b)(E:∀ b k,aj b=some k->b<w.heap.size):RA w' B aD ρ x u:=by
 have:=h.tr (.lX C D E) ac1
 rwa [A.HT]at this
def dZ.lX{x:Lf}{u:Value}(h:dZ w B aj ρ x u)(C:w.heap.size<=w'.heap.size)(D:∀b,b<w.heap.size->w'.heap[b]?=w.heap[b]?/\aD b=aj b)(E:∀b k,aj b=some k->b<w.heap.size):dZ w' B aD ρ x u:=RA.lX (x:=.lf x) h C D E
def eO.lX{cs:aa Lf}{us:Array Value}(h:eO w B aj ρ cs us)(C:w.heap.size<=w'.heap.size)(D:∀ b,b<w.heap.size->w'.heap[b]?=w.heap[b]?/\aD b=aj b)(E:∀ b k,aj b=some k->b<w.heap.size):eO w' B aD ρ cs us:=
 ⟨h.1,λj x L=>let ⟨u,hu,r⟩:=h.2 j x L;⟨u,hu,r.lX C D E⟩⟩
def ez.lX{r:Nat}{x:bh}(h:ez w B aj ρ r x)(C:w.heap.size<=w'.heap.size)(D:∀ b,b<w.heap.size->w'.heap[b]?=w.heap[b]?/\aD b=aj b)(E:∀ b k,aj b=some k->b<w.heap.size):ez w' B aD ρ r x:=by
 have:=h.tr (.lX C D E) ac1 rfl rfl
 rwa [bh.HT]at this
/-! A root's name is given anew. -/
def vu{d:Nat}{t:aa Nat->Bool}{c:Nat->Bool}(E:∀ k,dc d k=false->t k=false)(L:∀ r,r≠d->c r=false):(xd d).OK t c:=by
 have h:∀ k,dc d k=false->jB c k=false:=λk C=>by
  unfold jB;split
  next r D=>exact L r (by rintro rfl;simp[dc,D]at C)
  ·rfl
 exact⟨λk C=>⟨.inr (E k C),h k C⟩,λk C=>⟨E k C,h k C⟩,λr D=>L r (by rintro rfl;simp[xd]at D)⟩
def o6{d r:Nat}(h:r≠d):Nat.beq r d=false:=Bool.eq_false_iff.2 λe=>h (cK e)
def Tr.HU{d:Nat}(C:∀ r,r≠d->ρ' r=ρ r):Tr w w aj aj ρ ρ' (λ_=>false) (λr=>Nat.beq r d):=
 ⟨dQ _,λ_ _ h=>⟨rfl,h⟩,λ_ _ h _=>⟨rfl,h⟩,λr D=>C r (by rintro rfl;simp at D),λ_ _ _ _ _=>rfl,λ_ _ _=>rfl⟩
def RP.fl{d:Nat}(C:∀r,r≠d->ρ' r=ρ r){p:Bool×aa Lf}{u:Value}(h:RP w B aj ρ p u):RP w B aj ρ' (p.1,p.2.map (Lf.drop d)) u:=h.tr (.HU C) (vu (λ_ _=>rfl) λ_=>o6)
def RA.fl{d:Nat}(C:∀r,r≠d->ρ' r=ρ r){x:A}{u:Value}(h:RA w B aj ρ x u):RA w B aj ρ' (x.drop d) u:=h.tr (.HU C) (vu (λ_ _=>rfl) λ_=>o6)
def eO.fl{d:Nat}(C:∀r,r≠d->ρ' r=ρ r){cs:aa Lf}{us:Array Value}(h:eO w B aj ρ cs us):eO w B aj ρ' (cs.map (Lf.drop d)) us:=h.tr (.HU C) (vu (λ_ _=>rfl) λ_=>o6)
def dZ.fl{d:Nat}(C:∀r,r≠d->ρ' r=ρ r){x:Lf}{u:Value}(h:dZ w B aj ρ x u):dZ w B aj ρ' (x.drop d) u:=h.tr (.HU C) (vu (λ_ _=>rfl) λ_=>o6)
def ez.fl{d r:Nat}(C:∀r,r≠d->ρ' r=ρ r)(D:r≠d){x:bh}(h:ez w B aj ρ r x):ez w B aj ρ' r (x.drop d):=h.tr (.HU C) (vu (λ_ _=>rfl) λ_=>o6) rfl (o6 D)
def cg{α:Type}(f:Nat->α)(d:Nat)(x:α):Nat->α:=λk=>bif Nat.beq k d then x else f k
def cv{α:Type}(f:Nat->α)(d:Nat)(x:α):cg f d x d=x:=by simp[cg]
def cR{α:Type}(f:Nat -> α)(d:Nat)(x:α){k:Nat}(h:k≠d):cg f d x k=f k:=by
 have:Nat.beq k d=false:=by
  cases hb:Nat.beq k d with
  |false=>rfl
  |true=>simp_all
 simp[cg,this,aq]
def S.set(σ:S)(d:Nat)(x:A):S:={ σ with t:=cg σ.t d x }
def S.drop(σ:S)(d:Nat):S:=⟨λk=>(σ.t k).drop d,λr=>bif Nat.beq r d then none else (σ.m r).map (bh.drop d)⟩
def S.root(σ:S)(d:Nat)(x:bh):S:={ σ with m:=cg σ.m d (some x) }
def Rl.set{x:A}{v:Value}{d:Nat}(h:Rl w0 N aj ρ σ a w)(E:RA w w0.heap.size aj ρ x v)(D:d<N):Rl w0 N aj ρ (σ.set d x) (a.put (some d) v) w:=by
 refine⟨h.below,h.dw,h.root,λk=>?_,?_,h.defers,h.fix,h.dH⟩
 ·show RA w _ aj ρ (cg σ.t d x k) ((a.tmps.setIfInBounds d v).getD k undef);by_cases C:k=d
  ·subst C;rw[cv,iM,Array.getElem?_setIfInBounds_self];have:k<a.tmps.size:=by rw[h.size];exact D
   simp_all
  ·rw[cR _ _ _ C,iM,Array.getElem?_setIfInBounds_ne (Ne.symm C),<- iM];exact h.tmp k
 ·show (a.tmps.setIfInBounds d v).size=N;rw[Array.size_setIfInBounds];exact h.size
def Rl.grow(h:Rl w0 N aj ρ σ a w)(hb:Below w.heap.size w w')(hl:∀ b,b<w.heap.size -> aD b=aj b)(L:∀ b k,w.heap.size <= b -> aD b=some k -> b<w'.heap.size/\k≠[]):Rl w0 N aD ρ σ a w':=by
 have D:∀b,b<w.heap.size -> w'.heap[b]?=w.heap[b]?/\aD b=aj b:=λb E=>⟨hb.block b E,hl b E⟩
 refine⟨h.below.trans (.of hb h.below.size),λb k C=>?_,λr x O=>(h.root r x O).lX hb.size D (λb k hb=>(h.dw b k hb).2.1),λk=>(h.tmp k).lX hb.size D (λb k hb=>(h.dw b k hb).2.1),h.size,h.defers,h.fix,h.dH⟩
 rcases Nat.lt_or_ge b _ with T|o7
 ·rw[hl b T]at C;have:=h.dw b k C
  grind
 ·have:=L b k o7 C;exact⟨.inl (Nat.le_trans h.below.size o7),this.1,this.2⟩
def Rl.new{d:Nat}{x:bh}(h:Rl w0 N aj ρ σ a w)(l:Loc)(T:ez w w0.heap.size aj (cg ρ d l) d x)(L:w0.F d=none):Rl w0 N aj (cg ρ d l) ((σ.drop d).root d x) a w:=by
 have E:∀r,r≠d -> cg ρ d l r=ρ r:=λr D=>cR _ _ _ D
 refine⟨h.below,h.dw,λr y C=>?_,λk=>(h.tmp k).fl E,h.size,h.defers,λr O D=>(E r (by rintro rfl;rw[L]at D;cases D)).trans (h.fix r O D),h.dH⟩
 by_cases D:r=d
 ·subst D;have e:(cg (σ.drop r).m r _) r=some x:=cv _ _ _;have C:(cg (σ.drop r).m r _) r=some y:=C;simp_all
 ·have C:(cg (σ.drop d).m d _) r=some y:=C;rw[cR _ _ _ D]at C;have hb:Nat.beq r d=false:=by
   cases hb:Nat.beq r d with
   |false=>rfl
   |true=>simp_all
  simp only[S.drop,hb,aq]at C;cases hm:σ.m r with
  |none=>simp_all
  | some z=>
   rw[hm]at C;injection C with C;subst C;exact(h.root r z hm).fl E D
end
def splice{α:Type}(l:aa α)(j:Nat)(xs:aa α):aa α:=l.take j++xs++l.drop (j+xs.length)
def tu{α:Type}(l:aa α)(j:Nat)(xs:aa α)(h:j+xs.length<=l.length):(splice l j xs).length=l.length:=by
 simp[splice];omega
def xe{α:Type}(l:aa α)(j:Nat)(xs:aa α)(h:j+xs.length <= l.length)(n:Nat):
  (splice l j xs)[n]?=if n<j then l[n]? else if n<j+xs.length then xs[n-j]? else l[n]?:=by
 unfold splice
 grind
structure vw (w w':World) (bt:Nat):Prop where
 size:w'.heap.size=w.heap.size
 os:w'.os=w.os
 tape:w'.tape=w.tape
 output:w'.output=w.output
 block:∀k,k≠bt->w'.heap[k]?=w.heap[k]?
def Oy(w:World)(b o:Nat)(l:aa Value):vw w (w.setCells b o l) b:=by
 have g:=acT b l o w;have s:=acS b l o w
 refine⟨s,g.os,g.tape,g.output,λk C=>?_⟩
 rcases Nat.lt_or_ge k _ with D|o7
 ·exact g.block k D (by intro e;injection e with e;exact C e)
 ·simp_all
section
variable {w w':World} {w0:Wd} {B N:Nat} {aj:bK} {ρ:Nat->Loc} {m m':Nat->ah bh} {σ:S} {a:Act} {bt:Nat} {kt:aa Nat}
def qV(w w':World)(aj:bK)(ρ:Nat->Loc):Prop:=∀k ad v,addrAt w aj ρ k=some ad->w.cell? ad=some v->nG v=true->w'.cell? ad=some v
def VU(D:qV w w' aj ρ):∀ (k:aa Nat) (ad:Addr),addrAt w aj ρ k=some ad -> addrAt w' aj ρ k=some ad
 |[],_,h=>h
 |[_],_,h=>h
 |[_,_],_,h=>h
 |[j,i,s,r],_,h=>by simp only[addrAt]at h ⊢;exact h
 | j :: i :: s :: x :: y :: q,ad,h=>by
  simp only[addrAt]at h ⊢;cases C:addrAt w aj ρ (x::y::q)with
  |none=>simp_all
  | some L=>
   rw[VU D _ _ C];rw[C]at h;cases E:w.cell? L with
   |none=>simp_all
   | some v=>
    simp only[Option.bind_some,E]at h;have O:nG v=true:=by
     split at h
     next e=>injection e with e;subst e;rfl
     ·cases h
    simp only[Option.bind_some,D _ _ _ C E O];exact h
def ac2(D:qV w w' aj ρ)(k:aa Nat)(u:Value)(E:nG u=true)(h:di w aj ρ k=some u):di w' aj ρ k=some u:=by
 match k,h with
 |[r],h=>exact h
 | x :: y :: q,h=>
  simp[di]at h ⊢;cases C:addrAt w aj ρ _ with
  |none=>rw[C]at h;cases h
  | some ad=>
   rw[VU D _ _ C];rw[C]at h;exact D _ _ _ C h E
def dZ.wrote{x:Lf}{u:Value}(h:dZ w B aj ρ x u)(C:vw w w' bt)(hl:aj bt=some kt)(D:qV w w' aj ρ):dZ w' B aj ρ x u:=by
 cases x with
 |v x=>exact⟨h.1,h.2.apart hl (.inr h.1) (Nat.le_of_eq C.size.symm) C.block⟩
 |own k=>exact⟨h.1,ac2 D k u h.1 h.2⟩
 |dead=>trivial
def eO.wrote{cs:aa Lf}{us:Array Value}(h:eO w B aj ρ cs us)(C:vw w w' bt)(hl:aj bt=some kt)(D:qV w w' aj ρ):eO w' B aj ρ cs us:=
 ⟨h.1,λj x E=>let ⟨u,hu,r⟩:=h.2 j x E;⟨u,hu,r.wrote C hl D⟩⟩
def RP.wrote{p:Bool×aa Lf}{u:Value}(h:RP w B aj ρ p u)(C:vw w w' bt)(hl:aj bt=some kt)(D:qV w w' aj ρ):RP w' B aj ρ p u:=by
 obtain⟨b,cs⟩:=p;cases b with
 |true=>obtain⟨us,e,h⟩:=h;exact⟨us,e,h.wrote C hl D⟩
 |false=>exact eO.wrote h C hl D
def RF.wrote{cs:aa V}{u:Value}(h:RF w B aj cs u)(C:vw w w' bt)(hl:aj bt=some kt):RF w' B aj cs u:=by
 obtain⟨b,off,e,hb,D,h⟩:=h;have L:b≠bt:=by rintro rfl;rw[hl]at D;cases D
 refine⟨b,off,e,by rw[C.size];exact hb,D,λj x O=>?_⟩
 obtain⟨E,v,T,U⟩:=h j x O;exact⟨E,v,(World.cell?_of_block (C.block b L)).trans T,U.apart hl (.inr E) (Nat.le_of_eq C.size.symm) C.block⟩
def RA.wrote{x:A}{u:Value}(h:RA w B aj ρ x u)(C:vw w w' bt)(hl:aj bt=some kt)(D:qV w w' aj ρ):RA w' B aj ρ x u:=by
 cases x with
 |undef=>trivial
 |skip=>exact h
 |lf x=>exact dZ.wrote h C hl D
 |agg cs=>exact RP.wrote (p:=(true,cs)) h C hl D
 |fk xs=>obtain⟨us,e,E,h⟩:=h;exact⟨us,e,E,λj p L=>let ⟨v,O,r⟩:=h j p L;⟨v,O,r.wrote C hl D⟩⟩
 |ptr k=>obtain⟨ad,e,h⟩:=h;exact⟨ad,e,VU D _ _ h⟩
 |view k s i j=>obtain⟨A,n,c,h,g⟩:=h;exact⟨A,n,c,ac2 D k _ rfl h,g⟩
 |pk r n=>exact h
 |aH r j=>exact h
 |jr cs=>exact RF.wrote h C hl
 |nH f cs=>obtain⟨pv,e,h⟩:=h;exact⟨pv,e,h.wrote C hl⟩
 |fn f cap=>exact h
def ez.wrote{r:Nat}{x:bh}(h:ez w B aj ρ r x)(E:vw w w' bt)(hl:aj bt=some kt)(Y:qV w w' aj ρ)(O:¬ [r] <:+ kt):ez w' B aj ρ r x:=by
 cases h with
 | aB b off cells e cs us D C T hs Z=>
  have U:b≠bt:=by rintro rfl;rw[hl]at C;injection C with C;subst C;exact O (List.suffix_refl _)
  exact .aB b off cells e cs us D C ((E.block b U).trans T) hs (λj x L=>⟨(Z j x L).1,(Z j x L).2.wrote E hl Y⟩)
 |sl v y D fE=>exact .sl v y D (fE.apart hl (.inl O) (Nat.le_of_eq E.size.symm) E.block)
 | mp b c es l D C T he=>
  have U:b≠bt:=by rintro rfl;rw[hl]at C;injection C with C;subst C;exact O (List.suffix_refl _)
  exact .mp b c es l D C ((E.block b U).trans T) he
 |gh us xs D L=>exact .gh us xs D λj x hj=>(L j x hj).wrote E hl Y
def Rl.wrote(h:Rl w0 N aj ρ σ a w)(C:vw w w' bt)(hl:aj bt=some kt)(O:qV w w' aj ρ)(T:∀ r x,m' r=some x -> ez w' w0.heap.size aj ρ r x):Rl w0 N aj ρ ⟨σ.t,m'⟩ a w':=by
 have hb:=(h.dw bt kt hl).1;have U:∀ k,k<w0.heap.size -> w0.L k=none -> k≠bt:=by
  grind
 refine⟨⟨C.os.trans h.below.os,C.tape.trans h.below.tape,C.output.trans h.below.output,by rw[C.size];exact h.below.size,λk D E=>(C.block k (U k D E)).trans (h.below.block k D E)⟩,λb k Y=>?_,T,λk=>(h.tmp k).wrote C hl O,h.size,h.defers,h.fix,h.dH⟩
 rw[C.size];exact h.dw b k Y
def ac3{r C:Nat}(h:C≠r):¬ [C] <:+ [r]:=by
 intro D;have:=D.eq_of_length rfl;simp_all
def Rl.HV{r j:Nat}{cs xs:aa Lf}{us:Array Value}(h:Rl w0 N aj ρ σ a w)(hm:σ.m r=some (.aB cs))(hx:eO w w0.heap.size aj ρ xs us)(hj:j+xs.length <= cs.length):
  ∃b off,ρ r = .aB b off/\w.there b (off+j) us.size/\Rl w0 N aj ρ ⟨σ.t,cg σ.m r (some (.aB (splice cs j xs)))⟩ a (w.setCells b (off+j) us.toList):=by
 have T:=h.root r _ hm;generalize D:bh.aB cs=x at T;cases T with
 |sl=>cases D
 |mp=>cases D
 |gh=>cases D
 | aB b off cells e eM u cF hl Y hs hc=>
  injection D with D;subst D;have hlen:us.size=xs.length:=hx.1;have lY:off+j+us.toList.length <= cells.size:=by rw[lS,hlen];omega
  have E:=Oy w b (off+j) us.toList;obtain⟨U,gZ,qa⟩:=HN b e us.toList (off+j) w cells Y lY;have O:qV w (w.setCells b (off+j) us.toList) aj ρ:=by
   intro k ad v ha Z gu;obtain⟨j',i',s',q,rfl,hq,_,_,hh'⟩:=BE k ad ha;have dy:ad.block≠b:=by
    intro e
    grind
   exact(World.cell?_of_block (E.block _ dy)).trans Z
  refine⟨b,off,cF,λn hn=>⟨?_,frozen_of_row w b _ cells e Y⟩,h.wrote E hl O λr' y L=>?_⟩
  ·rw[cell_of_row w b _ cells e _ Y];simp;omega
  ·by_cases nJ:r'=r
   ·subst nJ;rw[cv]at L;injection L with L;subst L
    refine .aB b off U e _ (λn=>if n<j then u n else if n<j+xs.length then us.getD (n-j) undef else u n) cF hl gZ ?_ λn x C=>?_
    ·rw[tu _ _ _ hj,<- lS,qa]
     grind
    ·have e2:U[off+n]?=(splice cells.toList (off+j) us.toList)[off+n]?:=by
      rw[show U[off+n]?=U.toList[off+n]? by simp,qa];rfl
     rw[e2,xe _ _ _ (by simpa using lY)];rw[xe _ _ _ hj]at C;by_cases h1:n<j
     ·rw[bI];simp only[h1]at C ⊢;refine⟨?_,(hc n x C).2.wrote E hl O⟩;simp_all
     ·by_cases h2:n<j+xs.length
      ·rw[bU,bI (by rw[lS,hlen];omega)];simp only[h1,h2,if_true,if_false]at C ⊢;obtain⟨v,Z,T⟩:=hx.2 (n-j) x C;have hg:us.getD (n-j) undef=v:=by rw[iM,Z];rfl
       rw[hg];refine⟨?_,T.wrote E hl O⟩
       grind
      ·rw[bU,bU (by rw[lS];omega)];simp only[h1,h2]at C ⊢;refine⟨?_,(hc n x C).2.wrote E hl O⟩
       grind
   ·rw[cR _ _ _ nJ]at L;exact(h.root r' y L).wrote E hl O (ac3 nJ)
inductive zi (m:Nat->Option bh):List Nat->V->(Nat->Option bh)->Prop
 |root (r:Nat) (y0 y:V) (h:m r=some (.sl y0)):zi m [r] y (cg m r (some (.sl y)))
 | elem (j i:Nat) (q:List Nat) (t:TC) (o:Nat) (qn:Bool) (l:List (T t)) (y:V) (e:T t) (m':Nat->Option bh) (h:xb m q (.sl t (o+2) qn l)) (hi:i<l.length) (hj:j<aE t)
   (hd:dec t o (splice (enc t o l[i]) j [y])=some e) (hp:zi m q (.sl t (o+2) qn (l.set i e)) m'):zi m (j::i::aE t::q) y m'
def VV{α:Type}{a b c:aa α}(D:a <:+ c)(hb:b <:+ c)(h:a.length=b.length):a=b:=by
 obtain⟨x,E⟩:=D;obtain⟨y,C⟩:=hb;rw[<-E]at C;exact((List.append_inj' C h.symm).2).symm
def RV.Oz{q:aa Nat}{t:TC}{o:Nat}{Y:Bool}{l:aa (T t)}{i j:Nat}{xs:aa V}{e:T t}{b cap:Nat}{cs eM:Array Value}{u us:Nat -> Nat -> Value}
  (hl:aj b=some q) (hh:w'.heap[b]?=some (.cells eM (tid t) (0,0))) (hs:eM.size=cap*aE t) (hn:l.length <= cap) (hm:cap <= maxLen/\(Y=true -> cap=l.length)) (hi:i<l.length) (hj:j+xs.length <= aE t)
  (hd:dec t o (splice (enc t o l[i]) j xs)=some e)
  (hc:∀D (h:D<l.length) (C:Nat) x,(enc t o l[D])[C]?=some x -> ¬ (D=i/\j <= C/\C<j+xs.length) -> eM[D*aE t+C]?=some (u D C)/\RV w' B aj (C::D::aE t::q) x (u D C))
  (hx:∀(n:Nat) x,xs[n]?=some x -> eM[i*aE t+(j+n)]?=some (us i (j+n))/\RV w' B aj ((j+n)::i::aE t::q) x (us i (j+n))):
  RV w' B aj q (.sl t (o+2) Y (l.set i e)) (.slice (some ⟨b,0,none⟩) l.length cap):=by
 have hlen:(l.set i e).length=l.length:=gG;have key:∀ D (h:D<(l.set i e).length) (C:Nat) x,(enc t o (l.set i e)[D])[C]?=some x ->
   ∃v,eM[D*aE t+C]?=some v/\RV w' B aj (C::D::aE t::q) x v:=by
  intro D h C x L;rw[List.getElem_set]at L;by_cases hii:i=D
  ·subst hii;rw[bI rfl]at L;have hk:=mJ t o _ e hd;have qW:C<(enc t o e).length:=(dV.1 L).1;rw[<- hk.1]at qW;have E:=bZ qW;generalize (splice (enc t o l[i]) j xs)[C]=y at E;have Z:=hk.2 C y x E L;rw[xe _ _ _ (by rw[kP];exact hj)]at E;by_cases h1:C<j
   ·rw[bI h1]at E;obtain⟨O,U⟩:=hc i hi C y E (by omega);exact⟨_,O,U.wk Z⟩
   ·by_cases h2:C<j+xs.length
    ·rw[bU h1,bI h2]at E;obtain⟨O,U⟩:=hx _ y E;rw[show j+(C-j)=C by omega]at O U;exact⟨_,O,U.wk Z⟩
    ·rw[bU h1,bU h2]at E;obtain⟨O,U⟩:=hc i hi C y E (by omega);exact⟨_,O,U.wk Z⟩
  ·grind
 rw[<- hlen]
 refine .own q t o Y (l.set i e) b cap eM (λD C=>(eM[D*aE t+C]?).getD undef) hl hh hs (by rw[hlen];exact hn) ⟨hm.1,λh=>by rw[hlen];exact hm.2 h⟩ (λD h C x L=>?_) (λD h C x L=>?_)
 ·grind
 ·obtain⟨v,hv,hr⟩:=key D h C x L;simp_all
def ac4{r:Nat}{q:aa Nat}(h:[r] <:+ q){C:Nat}(D:[C] <:+ q):C=r:=by
 have:=VV D h rfl;injection this
def zi.ok{q:aa Nat}{y:V}(h:zi m q y m')(hm:∀ r x,m r=some x -> ez w B aj ρ r x)(T:vw w w' bt)(hl:aj bt=some kt)(U:q <:+ kt)(hC:qV w w' aj ρ){L:Value}(D:di w aj ρ q=some L)(hy:RV w' B aj q y L):
  ∀r x,m' r=some x -> ez w' B aj ρ r x:=by
 induction h generalizing L with
 | root r y0 y h=>
  intro Y x C;by_cases O:Y=r
  ·subst O;rw[cv]at C;injection C with C;subst C;simp only[di]at D;cases cF:ρ Y with
   |aB b off=>grind
   |cc us=>grind
   | ep v=>
    rw[cF]at D;injection D with D;subst D;exact .sl v y cF hy
  ·rw[cR _ _ _ O]at C;exact(hm Y x C).wrote T hl hC (λZ=>O (ac4 U Z))
 | elem j i q t o qn l y e m' h hi hj hd hp ih=>
  obtain⟨tv,BG,fE⟩:=h.ok hm;have hqk:q <:+ kt:=List.IsSuffix.trans ⟨[j,i,aE t],rfl⟩ U;cases fE with
  |eI=>simp at hi
  |fN=>simp at hi
  |fW=>simp at hi
  |aF _ _ _ _ _ _ _ _ _ ho=>omega
  | own _ _ _ _ _ b cap cs us E hh Z hn sk hc O=>
   have dy:b≠bt:=by
    rintro rfl;rw[hl]at E;injection E with E;subst E;have:=U.length_le
    grind
   have hz:=Nat.le_of_eq T.size.symm
   refine ih hqk BG (RV.Oz (us:=λ_ _=>L) (u:=us) (cs:=cs) (xs:=[y]) E ((T.block b dy).trans hh) Z hn sk hi (show j+1 <= aE t from hj) hd (λi' h' j' x C OA=>⟨hc i' h' j' x C,(O i' h' j' x C).apart hl (.inl λo8=>OA ?_) hz T.block⟩) (λn x C=>?_))
   ·have:=VV o8 U rfl
    grind
   ·cases n with
    |succ n=>simp at C
    | zero=>
     simp at C;subst C;refine⟨?_,hy⟩;rw[Ov,BB j i _ BG E]at D;have D:w.cell? ⟨b,i*aE t+j,none⟩=some L:=D;rw[cell_of_row w b _ cs _ _ hh]at D;exact D
def RV.ac5{q:aa Nat}{x:V}{v:Value}(h:RV w B aj q x v)(C:x.plain=true):nG v=false:=by
 cases h<;>first|rfl|cases C
def RV.tw{q C:aa Nat}{x:V}{v:Value}{B':Nat}{aD:bK}(h:RV w B aj q x v)(D:x.plain=true):RV w' B' aD C x v:=by
 cases h<;>first|exact .int _ _ _|exact .bool _ _|exact .str _ _|cases D
def Rl.apC{j i:Nat}{q:aa Nat}{t:TC}{o:Nat}{qn:Bool}{l:aa (T t)}{xs:aa V}{us:Array Value}{e:T t}(h:Rl w0 N aj ρ σ a w)(hg:xb σ.m q (.sl t (o+2) qn l))(hi:i<l.length)(hj:j+xs.length <= aE t)
  (hd:dec t o (splice (enc t o l[i]) j xs)=some e) (hold:∀(n:Nat) x,n<xs.length -> (enc t o l[i])[j+n]?=some x -> x.plain=true) (hxp:∀x∈xs,x.plain=true) (kQ:us.size=xs.length) (hx:∀(n:Nat) x,xs[n]?=some x -> ∃u,us[n]?=some u/\RV w w0.heap.size aj [] x u)
  (hp:zi σ.m q (.sl t (o+2) qn (l.set i e)) m'):
  ∃b,addrAt w aj ρ (j::i::aE t::q)=some ⟨b,i*aE t+j,none⟩/\w.there b (i*aE t+j) us.size/\Rl w0 N aj ρ ⟨σ.t,m'⟩ a (w.setCells b (i*aE t+j) us.toList):=by
 obtain⟨tv,BG,fE⟩:=hg.ok h.root;cases fE with
 |eI=>simp at hi
 |fN=>simp at hi
 |fW=>simp at hi
 |aF _ _ _ _ _ _ _ _ _ ho=>omega
 | own _ _ _ _ _ b cap cs u U hh hs hn sk hc hr=>
  have BH:i*aE t+aE t <= cap*aE t:=by
   have:(i+1)*aE t <= cap*aE t:=iX _ (by omega);rw[iN]at this;exact this
  have lY:i*aE t+j+us.toList.length <= cs.size:=by rw[lS,kQ,hs];omega
  have Y:=Oy w b (i*aE t+j) us.toList;obtain⟨O,gZ,qa⟩:=HN b (tid t) us.toList (i*aE t+j) w cs hh lY;have tA:∀ n,O[n]?=if n<i*aE t+j then cs[n]? else if n<i*aE t+j+xs.length then us[n-(i*aE t+j)]? else cs[n]?:=by
   intro n;have e2:O[n]?=(splice cs.toList (i*aE t+j) us.toList)[n]?:=by
    rw[show O[n]?=O.toList[n]? by simp,qa];rfl
   rw[e2,xe _ _ _ (by simpa using lY),lS,kQ];simp
  have HW:O.size=cs.size:=by
   rw[<- lS,qa];have:=tu cs.toList _ us.toList (by simpa using lY)
   grind
  have hC:qV w (w.setCells b (i*aE t+j) us.toList) aj ρ:=by
   intro k ad v ha D gu;by_cases dy:ad.block=b
   ·obtain⟨L,C,s',q',rfl,BF,apD,vA,_⟩:=BE k ad ha;have o9:ad=⟨b,ad.off,none⟩:=by cases ad;simp_all
    rw[o9,cell_of_row w b _ cs _ _ hh]at D;rw[o9,cell_of_row _ b _ O _ _ gZ,tA];by_cases h1:ad.off<i*aE t+j
    ·rw[bI h1];exact D
    ·by_cases h2:ad.off<i*aE t+j+xs.length
     ·exfalso;have hjs:ad.off-(i*aE t+j)<xs.length:=by omega
      have BI:j+(ad.off-(i*aE t+j))<(enc t o l[i]).length:=by rw[kP];omega
      have hy:=bZ BI;generalize (enc t o l[i])[j+(ad.off-(i*aE t+j))]=y at hy;have vB:=hold _ y hjs hy;have Z:=hc i hi _ y hy;rw[show i*aE t+(j+(ad.off-(i*aE t+j)))=ad.off by omega]at Z;rw[D]at Z;injection Z with Z;have:=(hr i hi _ y hy).ac5 vB;rw[<- Z,gu]at this;cases this
     ·rw[bU h1,bU h2];exact D
   ·exact(World.cell?_of_block (Y.block _ dy)).trans D
  refine⟨b,BB j i (aE t) BG U,λn qX=>⟨?_,frozen_of_row w b _ cs _ hh⟩,h.wrote Y U hC (hp.ok h.root Y U (List.suffix_refl _) hC BG ?_)⟩
  ·rw[cell_of_row w b _ cs _ _ hh];simp;omega
  ·refine RV.Oz (u:=u) (us:=λ_ n=>us.getD (n-j) undef) (cs:=cs) (xs:=xs) U gZ (HW.trans hs) hn sk hi hj hd (λC h' L x E OA=>?_) (λn x E=>?_)
   ·have qW:L<aE t:=by have:=(dV.1 E).1;rwa [kP]at this
    refine⟨?_,(hr C h' L x E).apart U (.inl λo8=>?_) (Nat.le_of_eq Y.size.symm) Y.block⟩
    ·rw[tA];have HX:¬ (¬ C*aE t+L<i*aE t+j/\C*aE t+L<i*aE t+j+xs.length):=by
      rintro⟨h1,h2⟩;rcases Nat.lt_trichotomy C i with dI|heq|Ev
      ·have:(C+1)*aE t <= i*aE t:=iX _ dI;rw[iN]at this;omega
      ·subst heq
       grind
      ·have:(i+1)*aE t <= C*aE t:=iX _ Ev;rw[iN]at this;omega
     split
     ·exact hc C h' L x E
     ·rw[bU];exact hc C h' L x E
    ·have:=o8.length_le;simp at this;omega
   ·obtain⟨v,D,Ew⟩:=hx n x E;have qX:n<xs.length:=(dV.1 E).1;have Ex:us.getD (j+n-j) undef=v:=by rw[show j+n-j=n by omega,iM,D];rfl
    rw[Ex,tA,bU,bI];refine⟨?_,Ew.tw (hxp x (hU E))⟩;rw[show i*aE t+(j+n)-(i*aE t+j)=n by omega];exact D
end
def VW:Value->A
 |.bool b=>.lf (.v (.bool b))
 |.int k n=>.lf (.v (.int k n))
 |.string s=>.lf (.v (.str s))
 |.slice none 0 0=>.lf (.v .nil)
 |_=>.undef
def aL(σ:S):Operand->A
 |.tmp t=>σ.t t
 |.const v=>VW v
 |.func f=>.fn f []
 |.global _=>.undef
def iy{X:Type}(N:Nat)(σ:S)(C:ah Tmp)(x:A)(k:S->ah X):ah X:=
 match C with
 |none=>k σ
 |some d=>bif Nat.blt d N then k (σ.set d x)else none
def lZ(P:Program)(w0:Wd)(N:Nat)(o:Oper)(σ D:S):Prop:=
 ∀a w K Q,R w0 N σ a w->(∀C w',R w0 N D C w'->K C w')->o.wp P a w K Q
section
variable {P:Program} {w:World} {w0:Wd} {B N:Nat} {aj:bK} {ρ:Nat->Loc} {σ:S} {a:Act} {X:Type} {r:X} {k:S->ah X} {o:Oper}
def apE(v:Value):RA w B aj ρ (VW v) v:=by
 unfold VW;split
 ·exact⟨rfl,.bool _ _⟩
 ·exact⟨rfl,.int _ _ _⟩
 ·exact⟨rfl,.str _ _⟩
 ·exact⟨rfl,.nil _⟩
 ·trivial
def Rl.aL(h:Rl w0 N aj ρ σ a w)(x:Operand):RA w w0.heap.size aj ρ (aL σ x) (a.eval x):=by
 cases x with
 |tmp t=>exact h.tmp t
 |const v=>exact apE v
 |func f=>exact⟨#[],rfl,rfl,by simp⟩
 |global g=>trivial
def lZ.val{x:A}(C:iy N σ o.dst x k=some r)(h:∀ aj ρ a w,Rl w0 N aj ρ σ a w -> ∃ v,(execOp a.eval o).run P w = .ok (.value v) w/\RA w w0.heap.size aj ρ x v):∃ O,k O=some r/\lZ P w0 N o σ O:=by
 unfold iy at C;split at C
 ·rename_i D
  refine⟨σ,C,λa w K Q hR E=>?_⟩
  obtain⟨aj,ρ,hl⟩:=hR;obtain⟨v,L,T⟩:=h aj ρ a w hl;unfold Oper.wp;rw[L,Oper.upon_value,D];exact E _ _ ⟨aj,ρ,hl⟩
 ·rename_i d D;cases U:Nat.blt d N with
  |false=>simp_all
  | true=>
   rw[U]at C
   refine⟨_,C,λa w K Q hR E=>?_⟩
   obtain⟨aj,ρ,hl⟩:=hR;obtain⟨v,L,T⟩:=h aj ρ a w hl;unfold Oper.wp;rw[L,Oper.upon_value,D];exact E _ _ ⟨aj,ρ,hl.set T (by have:=cZ U;omega)⟩
/-! What does the same whatever comes behind. -/
def mK{α:Type}(f:(X:Type)->(α->ah X)->ah X)(y:α):Prop:=∀(X:Type) (k:α->ah X),f X k=k y
def mK.at_{α:Type}{f:(X:Type)->(α->ah X)->ah X}{y:α}(h:mK f y){X:Type}(k:α->ah X):f X k=k y:=h X k
def cP{α:Type}(f:(X:Type)->(α->ah X)->ah X):Prop:=∀(X Y:Type) (k:α->ah X) (g:X->ah Y),(f X k).bind g=f Y λy=>(k y).bind g
def cP.nK{α:Type}{f:(X:Type)->(α->ah X)->ah X}(n:cP f){X:Type}{k:α->ah X}{r:X}(h:f X k=some r):∃ y,k y=some r/\mK f y:=by
 have e:∀(Y:Type) (k:α->ah Y),f Y k=(f α some).bind k:=λY k=>(n α Y some k).symm
 rw[e]at h;cases C:f α some with
 |none=>rw[C]at h;cases h
 |some y=>rw[C]at h;exact⟨y,h,λX k=>by rw[e,C];rfl⟩
def cP.comp{α β:Type}{f:(X:Type)->(α->ah X)->ah X}{b:(X:Type)->(β->ah X)->α->ah X}(n:cP f)(m:∀y,cP λX k=>b X k y):cP λX k=>f X (b X k):=λX Y k g=>(n X Y _ g).trans (aZ _ (funext λy=>m y X Y k g))
def dz{X Y:Type}{b:Bool}{x y:ah X}{C D:ah Y}{g:X->ah Y}(E:x.bind g=C)(L:y.bind g=D):(bif b then x else y).bind g=bif b then C else D:=by
 cases b
 ·exact L
 ·exact E
/-! Contents of leaves. -/
def jt{X:Type}(m:Nat->ah bh):aa Nat->(V->ah X)->ah X
 | [r],k=>match m r with
  |some (.sl y)=>k y
  |_=>none
 | j :: i :: s :: q,k=>jt m q λy=>match y with
  |.sl t (o+2) _ l=>if s=aE t then (if h:i<l.length then (match (enc t o l[i])[j]? with|some z=>k z|none=>none)else none)else none
  |_=>none
 |_,_=>none
def sn{m:Nat -> ah bh}:∀ (q:aa Nat) (k:V -> ah X),jt m q k=some r -> ∃ y,xb m q y/\k y=some r
 |[],_,h=>by simp[jt]at h
 | [x],k,h=>by
  simp only[jt]at h;split at h
  next y D=>exact⟨y,.root x y D,h⟩
  ·cases h
 | j :: i :: s :: q,k,h=>by
  obtain⟨y,D,C⟩:=sn q _ h;clear h;split at C
  ·split at C
   ·rename_i E;subst E;split at C
    ·rename_i hi;split at C
     next z L=>exact⟨z,.elem j i q _ _ _ _ z D hi L,C⟩
     ·cases C
    ·cases C
   ·cases C
  ·cases C
def pg{X:Type}(σ:S)(x:Lf)(k:V->ah X):ah X:=
 match x with
 |.v y=>k y
 |.own q=>jt σ.m q k
 |.dead=>none
def RV.part{q:aa Nat}{C:TC}{g:Nat}{Y:Bool}{xs:aa (T C)}{A:ah Addr}{n c a h:Nat}(O:RV w B aj q (.sl C g Y xs) (.slice A n c))(L:g<2)(h1:a <= h)(D:h <= xs.length):RV w B aj q (.sl C g false ((xs.take h).drop a)) (sliced A a h c (aE C))/\n=xs.length/\xs.length <= c:=by
 have hlen:((xs.take h).drop a).length=h-a:=by simp;omega
 cases O with
 | eI=>
  have:a=0:=by simp at D;omega
  have:h=0:=by simpa using D
  subst_vars
  exact⟨.eI _ _ _,rfl,dQ _⟩
 | fN=>
  have:h=0:=by simpa using D
  subst this;have:a=0:=by omega
  subst this;exact⟨by unfold sliced;split<;>exact .fN _ _ _ _ _ L,rfl,Nat.zero_le _⟩
 | fW=>
  have:h=0:=by simpa using D
  subst this;have:a=0:=by omega
  subst this;exact⟨by unfold sliced;split<;>exact .fN _ _ _ _ _ L,rfl,Nat.zero_le _⟩
 |own=>omega
 | aF _ _ _ _ _ b off cap u Z hl hb hB jA hc O=>
  refine⟨?_,rfl,jA⟩;by_cases he:a=h
  ·subst he;have e0:=List.eq_nil_of_length_eq_zero (by rw[hlen];omega);rw[e0];unfold sliced;rw[Nat.sub_self];split<;>exact .fN _ _ _ _ _ L
  ·unfold sliced;rw[bU,<- hlen];have Oo:(some (⟨b,off,none⟩:Addr)).map (·.add (a*aE C))=some ⟨b,off+a*aE C,none⟩:=by
    simp;unfold Addr.add;simp_all
   rw[Oo];have U:∀ i (hi:i<((xs.take h).drop a).length),((xs.take h).drop a)[i]=xs[a+i]'(by omega):=by
    intro i hi;simp_all
   refine .aF _ _ _ _ _ b (off+a*aE C) (c-a) (λi j=>u (a+i) j) Z hl hb hB (by omega) (λi hi j x E=>?_) (λi hi j x E=>?_)
   ·rw[U]at E;have:=hc _ _ j x E
    grind
   ·rw[U i]at E
    grind
def ac6(s i j:Nat):V->ah V
 |.sl t _ _ l=>bif Nat.beq s (aE t)then some (.sl t 0 false ((l.take j).drop i))else none
 |_=>none
def vC{X:Type}(σ:S)(q:aa Nat)(s i j:Nat)(k:V->ah X):ah X:=
 jt σ.m q λy=>match ac6 s i j y with
  |some z=>k z
  |none=>none
def sq{X:Type}(σ:S)(y:A)(k:V->ah X):ah X:=
 match y with
 |.lf l=>pg σ l k
 |.view q s i j=>vC σ q s i j k
 |_=>none
def ac7{q:aa Nat}{s i j:Nat}{k:V -> ah X}(h:vC σ q s i j k=some r):∃ z,k z=some r/\z.aF=true /\ ∀ w0 N aj ρ a w,Rl w0 N aj ρ σ a w -> ∀ u,RA w w0.heap.size aj ρ (.view q s i j) u -> ∀ B',RV w B' (λ_=>none) [] z u:=by
 obtain⟨y,T,E⟩:=sn q _ h;clear h;split at E
 ·rename_i z C;unfold ac6 at C;split at C
  ·rename_i t g U l;cases L:Nat.beq s (aE t)with
   |false=>simp_all
   | true=>
    rw[L,au]at C;obtain rfl:=cK L;injection C with C;subst C
    refine⟨_,E,rfl,λw0 N aj ρ a w hR u Y B'=>?_⟩
    obtain⟨A,n,c,Z,h1,h3,rfl⟩:=Y;obtain⟨v,D,hr⟩:=T.ok hR.root;rw[Z]at D;injection D with D;subst D;have O:RV w B' (λ_=>none) [] (.sl t 0 U l) (.slice A n c):=hr.gH;have hn:n=l.length:=by cases O<;>rfl
    exact(O.part (by omega) h1 (by omega)).1
  ·cases C
 ·cases E
def vK{X:Type}(x:A)(k:V->ah X):ah X:=
 match x with
 |.lf (.v y)=>k y
 |_=>none
def VX{x:A}{k:V -> ah X}(h:vK x k=some r):∃ y,x = .lf (.v y)/\k y=some r:=by
 unfold vK at h
 grind
def RV.iz{q:aa Nat}{k:IntKind}{n:Int}{u:Value}(h:RV w B aj q (.int k n) u):u = .int k n:=by cases h;rfl
def RV.zj{q:aa Nat}{n:Bool}{u:Value}(h:RV w B aj q (.bool n) u):u = .bool n:=by cases h;rfl
def RV.xg{q:aa Nat}{n:ByteArray}{u:Value}(h:RV w B aj q (.str n) u):u = .string n:=by cases h;rfl
/-! Arithmetic and comparison. -/
def bM(n:Nat):Bool:=decide (n<1073741824)
def HY{X:Type}(P:Program)(ty:TypeId)(op:BinOp)(x y:V)(k:V->ah X):ah X:=
 match x,y with
 | .int C a,.int D b=>match op with
  |.shl=>if b<0 then none else k (.int C (C.wrap (a*2 ^ (min b.toNat C.bits))))
  |.shr=>if b<0 then none else k (.int C (a.fdiv (2 ^ (min b.toNat C.bits))))
  | op=>if C=D then (match op with
   |.add=>k (.int C (C.wrap (a+b)))
   |.sub=>k (.int C (C.wrap (a-b)))
   |.mul=>k (.int C (C.wrap (a*b)))
   |.quo=>if b=0 then none else k (.int C (C.wrap (a.tdiv b)))
   |.rem=>if b=0 then none else k (.int C (a.tmod b))
   |.and=>k (.int C (bits .and C a b))
   |.or=>k (.int C (bits .or C a b))
   |.xor=>k (.int C (bits .xor C a b))
   |.andNot=>k (.int C (bits .andNot C a b))
   |.eql=>k (.bool (a==b))
   |.neq=>k (.bool (a != b))
   |.lss=>k (.bool (decide (a<b)))
   |.leq=>k (.bool (decide (a<=b)))
   |.gtr=>k (.bool (decide (a > b)))
   |.geq=>k (.bool (decide (a >= b)))
   |_=>none)else none
 | .bool a,.bool b=>match P.underlying ty with
  | some .bool=>(match op with
   |.eql=>k (.bool (a==b))
   |.neq=>k (.bool (!(a==b)))
   |_=>none)
  |_=>none
 | .str a,.str b=>match op with
  |.add=>bif bM (a.size+b.size)then k (.str (a++b))else none
  |.eql=>k (.bool (a.toList==b.toList))
  |.neq=>k (.bool (!(a.toList==b.toList)))
  |_=>none
 |_,_=>none
def apF{ty:TypeId}{T:BinOp}{x y:V}{k:V -> ah X}(h:HY P ty T x y k=some r):∃ z,k z=some r/\z.plain=true /\ ∀ (w:World) (B:Nat) (aj:bK) (E L:Operand) (q O:aa Nat) (u v:Value),RV w B aj q x u -> RV w B aj O y v ->
  ∃t,(do eqGuard T ty E L u v;binOp T ty u v:Sem Value).run P w = .ok t w/\RV w B aj [] z t:=by
 unfold HY at h;split at h
 ·rename_i kx a ky b;split at h
  ·split at h
   ·cases h
   ·rename_i hb
    refine⟨_,h,rfl,λw B aj E L q O u v C D=>?_⟩
    obtain rfl:=C.iz;obtain rfl:=D.iz;exact⟨_,by simp[eqGuard,binOp,Op.shift,hb],.int _ _ _⟩
  ·split at h
   ·cases h
   ·rename_i hb
    refine⟨_,h,rfl,λw B aj E L q O u v C D=>?_⟩
    obtain rfl:=C.iz;obtain rfl:=D.iz;exact⟨_,by simp[eqGuard,binOp,Op.shift,hb],.int _ _ _⟩
  ·rename_i Z h2;split at h
   ·rename_i hk;subst hk;cases T
    case shl=>exact absurd rfl Z
    case shr=>exact absurd rfl h2
    case quo=>
     by_cases hb:b=0
     ·simp only[hb,if_true]at h;cases h
     ·simp[hb]at h
      refine⟨_,h,rfl,λw B aj E L q O u v C D=>?_⟩
      obtain rfl:=C.iz;obtain rfl:=D.iz;exact⟨_,by simp[eqGuard,binOp,Op.intDiv,hb],.int _ _ _⟩
    case rem=>
     by_cases hb:b=0
     ·simp only[hb,if_true]at h;cases h
     ·simp[hb]at h
      refine⟨_,h,rfl,λw B aj E L q O u v C D=>?_⟩
      obtain rfl:=C.iz;obtain rfl:=D.iz;exact⟨_,by simp[eqGuard,binOp,Op.intDiv,hb],.int _ _ _⟩
    all_goals first
     | (refine⟨_,h,rfl,λw B aj E L q O u v C D=>?_⟩
        obtain rfl:=C.iz;obtain rfl:=D.iz
        first
         |(refine⟨_,?_,.int _ _ _⟩;simp[eqGuard,binOp,Op.intArith];done)
         |(refine⟨_,?_,.int _ _ _⟩;simp[eqGuard,binOp,intBits_and,intBits_or,intBits_xor,intBits_andNot];done)
         |(refine⟨_,?_,.bool _ _⟩;simp[eqGuard,binOp,Op.intCmp];done))
     |cases h
   ·cases h
 ·rename_i a b;split at h
  ·rename_i Y;split at h
   ·refine⟨_,h,rfl,λw B aj E L q O u v C D=>?_⟩
    obtain rfl:=C.zj;obtain rfl:=D.zj;have e:binOp .eql ty (.bool a) (.bool b)=(do pure (.bool (<- Op.equal ty (.bool a) (.bool b)))):=rfl;have g:eqGuard .eql ty E L (.bool a) (.bool b)=pure ():=rfl;exact⟨_,by rw[e,g,gq,Sem.run_pure,mH,gq,run_equal_bool _ _ _ _ Y];rfl,.bool _ _⟩
   ·refine⟨_,h,rfl,λw B aj E L q O u v C D=>?_⟩
    obtain rfl:=C.zj;obtain rfl:=D.zj;have e:binOp .neq ty (.bool a) (.bool b)=(do pure (.bool (!(<- Op.equal ty (.bool a) (.bool b))))):=rfl;have g:eqGuard .neq ty E L (.bool a) (.bool b)=pure ():=rfl;exact⟨_,by rw[e,g,gq,Sem.run_pure,mH,gq,run_equal_bool _ _ _ _ Y];rfl,.bool _ _⟩
   ·cases h
  ·cases h
 ·rename_i a b;split at h
  ·cases U:bM (a.size+b.size)with
   |false=>rw[U]at h;cases h
   | true=>
    rw[U]at h
    refine⟨_,h,rfl,λw B aj E L q O u v C D=>?_⟩
    obtain rfl:=C.xg;obtain rfl:=D.xg;have hL':a.size+b.size<1073741824:=by simpa [bM]using U
    refine⟨_,?_,.str _ _⟩;have h9:IntKind.i64.max=9223372036854775807:=rfl;simp only[eqGuard,binOp,Op.stringOp,h9];simp;omega
  ·refine⟨_,h,rfl,λw B aj E L q O u v C D=>?_⟩
   obtain rfl:=C.xg;obtain rfl:=D.xg;exact⟨_,by simp[eqGuard,binOp,Op.stringOp],.bool _ _⟩
  ·refine⟨_,h,rfl,λw B aj E L q O u v C D=>?_⟩
   obtain rfl:=C.xg;obtain rfl:=D.xg;exact⟨_,by simp[eqGuard,binOp,Op.stringOp],.bool _ _⟩
  ·cases h
 ·cases h
def HZ{X:Type}(D:UnOp)(x:V)(k:V->ah X):ah X:=
 match D,x with
 |.not,.bool b=>k (.bool (!b))
 |.neg,.int C n=>k (.int C (C.wrap (0-n)))
 |_,_=>none
def apG{D:UnOp}{x:V}{k:V->ah X}(h:HZ D x k=some r):∃ z,k z=some r/\z.plain=true/\∀ (w:World) (B:Nat) (aj:bK) (q:aa Nat) (u:Value),RV w B aj q x u->∃ t,(Op.unary D u).run P w = .ok t w/\RV w B aj [] z t:=by
 unfold HZ at h;split at h
 ·refine⟨_,h,rfl,λw B aj q u C=>?_⟩
  obtain rfl:=C.zj;exact⟨_,by simp[Op.unary],.bool _ _⟩
 ·refine⟨_,h,rfl,λw B aj q u C=>?_⟩
  obtain rfl:=C.iz;exact⟨_,by simp[Op.unary,Op.intArith],.int _ _ _⟩
 ·cases h
def V.H6{x:V}(h:x.plain=true):x.aF=true:=by cases x<;>first|rfl|cases h
end
def jC(P:Program)(t:TypeId):ah Nat:=(P.info? t).map (·.size)
def Ey(P:Program)(t:TypeId):ah Bool:=
 match P.underlying t with
 |some (.struct _)|some (.array _ _)=>some true
 |some _=>some false
 |none=>none
def qb(P:Program)(t:TypeId):ah TypeId:=
 match P.underlying t with
 |some (.slice e)=>some e
 |_=>none
def H7(P:Program)(s:TypeId)(f:Nat):ah Field:=
 match P.underlying s with
 |some (.struct C)=>C[f]?
 |_=>none
def xh{X:Type}(P:Program)(t:TypeId)(cs:aa Lf)(k:A->ah X):ah X:=
 match jC P t with
 | some n=>if cs.length=n then (match Ey P t with
  |some true=>k (.agg cs)
  | some false=>(match cs with
   |[y]=>k (.lf y)
   |_=>none)
  |none=>none)else none
 |none=>none
def leaves(key:Nat->aa Nat):Nat->aa V->aa Lf
 |_,[]=>[]
 |j,z::C=>(bif z.aF then .v z else .own (key j))::leaves key (j+1) C
def od{X:Type}(P:Program)(σ:S)(t:TypeId)(x:A)(k:A->ah X):ah X:=
 match jC P t with
 |none=>none
 | some n=>match x with
  | .aH r j=>(match σ.m r with
   |some (.aB cs)=>xh P t ((cs.drop j).take n) k
   |_=>none)
  |.jr cs=>xh P t ((cs.take n).map .v) k
  | .ptr (j :: i :: s :: q)=>jt σ.m q λy=>(match y with
   |.sl C (o+2) _ l=>if s=aE C then (if h:i<l.length then xh P t (leaves (λD=>D::i::s::q) j (((enc C o l[i]).drop j).take n)) k else none)else none
   |_=>none)
  |_=>none
section
variable {P:Program} {w:World} {w0:Wd} {B N:Nat} {aj:bK} {ρ:Nat->Loc} {σ:S} {a:Act} {X:Type} {r:X} {o:Oper}
def ac8(key:Nat -> aa Nat):∀ (j:Nat) (C:aa V) (n:Nat),(leaves key j C)[n]?=(C[n]?).map λz=>bif z.aF then .v z else .own (key (j+n))
 |_,[],n=>by simp[leaves]
 |j,z::C,0=>by simp[leaves]
 | j,z :: C,n+1=>by
  simp[leaves,List.getElem?_cons_succ,ac8]
  grind
def VY{t:TypeId}{cs:aa Lf}{k:A -> ah X}(h:xh P t cs k=some r):∃ x,k x=some r /\ ∀ (w:World) (B:Nat) (aj:bK) (ρ:Nat -> Loc) (b o:Nat) (D:aa Value),eO w B aj ρ cs D.toArray -> w.rangeAt b o D ->
  ∃v,(Instr.loadAt t (.pointer (some ⟨b,o,none⟩))).run P w = .ok v w/\RA w B aj ρ x v:=by
 unfold xh at h;split at h
 ·rename_i n T;split at h
  ·rename_i hlen;split at h
   ·rename_i C
    refine⟨_,h,λw B aj ρ b o D hl L=>?_⟩
    have O:D.length=n:=by have:=hl.1;simpa [hlen]using this
    unfold Ey at C;split at C
    next Z E=>exact⟨_,run_loadAt_mid w b o t D _ L E rfl (by rw[O];exact T),_,rfl,hl⟩
    next c e E=>exact⟨_,run_loadAt_mid w b o t D _ L E rfl (by rw[O];exact T),_,rfl,hl⟩
    ·cases C
    ·cases C
   ·rename_i C;split at h
    ·rename_i y
     refine⟨_,h,λw B aj ρ b o D hl L=>?_⟩
     have O:D.length=1:=by have:=hl.1;simpa using this
     obtain⟨v,rfl⟩:=List.length_eq_one_iff.1 O;have U:w.cell? ⟨b,o,none⟩=some v:=L 0 v rfl;obtain⟨u,E,hR⟩:=hl.2 0 y rfl;have:v=u:=by simpa using E
     subst this;refine⟨v,?_,hR⟩;unfold Ey at C;split at C
     ·cases C
     ·cases C
     ·rename_i d hs ha E;have Y:(isAgg t).run P w = .ok false w:=by
       unfold isAgg;rw[gq,ia E];simp_all
      simp[Instr.loadAt,Instr.sureAddr,loadVar,gq,Y,load,Sem.run,U]
     ·cases C
    ·cases h
   ·cases h
  ·cases h
 ·cases h
def OB{α:Type}(l:aa α)(j n i:Nat)(x:α)(h:((l.drop j).take n)[i]?=some x):i<n/\l[j+i]?=some x:=by grind
def ac9{t:TypeId}{x:A}{k:A -> ah X}(h:od P σ t x k=some r):∃ y,k y=some r /\ ∀ aj ρ a w,Rl w0 N aj ρ σ a w -> ∀ u,RA w w0.heap.size aj ρ x u ->
  ∃v,(Instr.loadAt t u).run P w = .ok v w/\RA w w0.heap.size aj ρ y v:=by
 unfold od at h;split at h
 ·cases h
 ·rename_i n hn;split at h
  ·rename_i r' j;split at h
   ·rename_i cs gI;obtain⟨y,Y,Z⟩:=VY h
    refine⟨y,Y,λaj ρ a w hR u hu=>?_⟩
    obtain⟨b,off,cF,rfl⟩:=hu;have O:=hR.root r' _ gI;generalize U:bh.aB cs=x at O;cases O with
    |sl=>cases U
    |mp=>cases U
    |gh=>cases U
    | aB b' H8 cells e eM us g9 hl hh hs hc=>
     injection U with U;subst U;rw[cF]at g9;injection g9 with e1 e2;subst e1 e2
     refine Z w _ aj ρ b (off+j) (((cs.drop j).take n).mapIdx λi _=>us (j+i)) ⟨by simp,λi x C=>?_⟩ (λi v D=>?_)
     ·obtain⟨hi,mb⟩:=OB _ _ _ _ _ C;simp_all
     ·rw[List.getElem?_mapIdx]at D;cases C:((cs.drop j).take n)[i]? with
      |none=>rw[C]at D;cases D
      | some x=>
       rw[C]at D;injection D with D;subst D;obtain⟨hi,mb⟩:=OB _ _ _ _ _ C;rw[cell_of_row w b _ cells _ _ hh,Nat.add_assoc];simp_all
   ·cases h
  ·rename_i cs;obtain⟨y,Y,Z⟩:=VY h
   refine⟨y,Y,λaj ρ a w hR u hu=>?_⟩
   obtain⟨b,off,rfl,hb,hl,hc⟩:=hu;have qc:∀ (i:Nat) (x:Lf),((cs.take n).map Lf.v)[i]?=some x -> ∃ z v,x = .v z/\z.aF=true/\w.cell? ⟨b,off+i,none⟩=some v/\RV w w0.heap.size aj [] z v:=by
    intro i x C;rw[eR]at C;cases L:(cs.take n)[i]? with
    |none=>rw[L]at C;cases C
    | some z=>
     rw[L]at C;injection C with C;rw[List.getElem?_take]at L;split at L
     ·obtain⟨vD,v,D,O⟩:=hc i z L
      grind
     ·cases L
   refine Z w _ aj ρ b off (((cs.take n).map Lf.v).mapIdx λi _=>(w.cell? ⟨b,off+i,none⟩).getD undef) ⟨by simp,λi x C=>?_⟩ (λi v D=>?_)
   ·obtain⟨z,v,rfl,vD,D,O⟩:=qc i x C;refine⟨v,?_,vD,O⟩;simp_all
   ·rw[List.getElem?_mapIdx]at D;cases C:((cs.take n).map Lf.v)[i]? with
    |none=>rw[C]at D;cases D
    |some x =>grind
  ·rename_i j i s q;obtain⟨y0,hg,T⟩:=sn _ _ h;clear h;split at T
   ·rename_i E o' qn l;split at T
    ·rename_i hs;subst hs;split at T
     ·rename_i hi;obtain⟨y,Y,Z⟩:=VY T
      refine⟨y,Y,λaj ρ a w hR u hu=>?_⟩
      obtain⟨ad,rfl,o9⟩:=hu;obtain⟨D,kR,ki⟩:=hg.ok hR.root;cases ki with
      |eI=>simp at hi
      |fN=>simp at hi
      |fW=>simp at hi
      |aF _ _ _ _ _ _ _ _ _ ho=>omega
      | own _ _ _ _ _ b cap cs us qd hh hs hn sk hc O=>
       rw[BB j i (aE E) kR qd]at o9;injection o9 with o9;subst o9;have qc:∀ (m:Nat) (x:Lf),(leaves (λj'=>j' :: i :: aE E :: q) j (((enc E o' l[i]).drop j).take n))[m]?=some x -> cs[i*aE E+(j+m)]?=some (us i (j+m))/\dZ w w0.heap.size aj ρ x (us i (j+m)):=by
        intro m x C;rw[ac8]at C;cases L:(((enc E o' l[i]).drop j).take n)[m]? with
        |none=>rw[L]at C;cases C
        | some z=>
         rw[L]at C;injection C with C;have C:(bif z.aF then Lf.v z else Lf.own ((j+m)::i::aE E::q))=x:=C;obtain⟨_,Ez⟩:=OB _ _ _ _ _ L;have h3:=hc i hi _ z Ez;have h4:=O i hi _ z Ez;refine⟨h3,?_⟩;cases EA:z.aF with
         | true=>
          rw[EA]at C;subst C;exact⟨EA,h4.key EA⟩
         | false=>
          rw[EA]at C;have C:Lf.own ((j+m)::i::aE E::q)=x:=C;subst C;refine⟨?_,?_⟩
          ·exact h4.VO EA
          ·rw[Ov,BB _ i _ kR qd];show w.cell? _=_;rw[cell_of_row w b _ cs _ _ hh];exact h3
       refine Z w _ aj ρ b (i*aE E+j) ((leaves (λj'=>j'::i::aE E::q) j (((enc E o' l[i]).drop j).take n)).mapIdx λm _=>us i (j+m)) ⟨by simp,λm x C=>?_⟩ (λm v D=>?_)
       ·simp[*]
       ·rw[List.getElem?_mapIdx]at D;cases C:(leaves (λj'=>j' :: i :: aE E :: q) j (((enc E o' l[i]).drop j).take n))[m]? with
        |none=>rw[C]at D;cases D
        | some x=>
         rw[C]at D;injection D with D;subst D;rw[cell_of_row w b _ cs _ _ hh,Nat.add_assoc];simp_all
     ·cases T
    ·cases T
   ·cases T
  ·cases h
end
def A.zk:A->ah (aa Lf)
 |.lf x=>some [x]
 |.agg xs=>some xs
 |_=>none
def Lf.live:Lf->Bool
 |.dead=>false
 |_=>true
def Lf.pl:Lf->ah V
 |.v x=>bif x.plain then some x else none
 |_=>none
def qY:aa Lf->ah (aa V)
 |[]=>some []
 | x :: xs=>match x.pl,qY xs with
  |some y,some ys=>some (y::ys)
  |_,_=>none
def xj{X:Type}(m:Nat->ah bh):aa Nat->V->((Nat->ah bh)->ah X)->ah X
 | [r],y,k=>match m r with
  |some (.sl _)=>k (cg m r (some (.sl y)))
  |_=>none
 | j :: i :: s :: q,y,k=>jt m q λz=>match z with
  | .sl t (o+2) C l=>if s=aE t then (if h:i<l.length then (if j<aE t then (match dec t o (splice (enc t o l[i]) j [y])with
   |some e=>xj m q (.sl t (o+2) C (l.set i e)) k
   |none=>none)else none)else none)else none
  |_=>none
 |_,_,_=>none
def qe{X:Type}(P:Program)(σ:S)(t:TypeId)(x y:A)(k:S->ah X):ah X:=
 match jC P t,y.zk with
 | some n,some xs=>if xs.length=n then (match x with
  | .aH r j=>(match σ.m r with
   |some (.aB cs)=>if j+n<=cs.length then (bif xs.all Lf.live then k ⟨σ.t,cg σ.m r (some (.aB (splice cs j xs)))⟩else none)else none
   |_=>none)
  | .ptr (j :: i :: s :: q)=>(match qY xs with
   |none=>none
   | some D=>jt σ.m q λy=>(match y with
    | .sl C (o+2) E l=>if s=aE C then (if h:i<l.length then (if j+D.length<=aE C then (bif (((enc C o l[i]).drop j).take D.length).all V.plain then (match dec C o (splice (enc C o l[i]) j D)with
     |some e=>xj σ.m q (.sl C (o+2) E (l.set i e)) λm=>k ⟨σ.t,m⟩
     |none=>none)else none)else none)else none)else none
    |_=>none))
  |_=>none)else none
 |_,_=>none
section
variable {P:Program} {w:World} {w0:Wd} {B N:Nat} {aj:bK} {ρ:Nat->Loc} {σ:S} {a:Act} {X:Type} {r:X} {o:Oper}
def ada{m:Nat -> ah bh}:∀ (q:aa Nat) (y:V) (k:(Nat -> ah bh) -> ah X),xj m q y k=some r -> ∃ m',zi m q y m'/\k m'=some r
 |[],_,_,h=>by simp[xj]at h
 | [x],y,k,h=>by
  simp only[xj]at h;split at h
  next D E=>exact⟨_,.root x D y E,h⟩
  ·cases h
 | j :: i :: s :: q,y,k,h=>by
  simp only[xj]at h;obtain⟨z,L,C⟩:=sn q _ h;clear h;split at C
  ·split at C
   ·rename_i O;subst O;split at C
    ·rename_i hi;split at C
     ·rename_i T;split at C
      next e U=>obtain⟨m',Y,Z⟩:=ada q _ k C;exact⟨m',.elem j i q _ _ _ _ y e m' L hi T U Y,Z⟩
      ·cases C
     ·cases C
    ·cases C
   ·cases C
  ·cases C
def OC:∀ (xs:aa Lf) (C:aa V),qY xs=some C -> xs=C.map .v /\ ∀ v∈C,v.plain=true
 | [],C,h=>by
  simp[qY]at h;subst h;exact⟨rfl,by simp⟩
 | x :: xs,C,h=>by
  unfold qY at h;split at h
  ·rename_i y ys D E;injection h with h;subst h;obtain⟨L,O⟩:=OC xs ys E;have:x = .v y/\y.plain=true:=by
    cases x with
    | v z=>
     unfold Lf.pl at D
     grind
    |own q=>cases D
    |dead=>cases D
   simp_all
  ·cases h
def apH{u:Value}(h:u.oneCell'=true):u.cells = #[u]:=by cases u<;>first|rfl|cases h
def dZ.one{x:Lf}{u:Value}(h:dZ w B aj ρ x u)(C:x.live=true):u.oneCell'=true:=by
 cases x with
 |v z=>exact h.2.one
 | own k=>
  have:=h.1;cases u<;>first|rfl|cases this
 |dead=>cases C
def H9{y:A}{xs:aa Lf}(h:y.zk=some xs)(D:xs.all Lf.live=true){u:Value}(C:RA w B aj ρ y u):eO w B aj ρ xs u.cells/\u.cells.all (·.oneCell')=true:=by
 have key:∀ us:Array Value,eO w B aj ρ xs us -> us.all (·.oneCell')=true:=by
  intro us E;rw[Array.all_eq_true];intro i hi;have O:=bZ (by rw[<- E.1];exact hi);obtain⟨v,L,T⟩:=E.2 i _ O;have:us[i]=v:=by rw[Array.getElem?_eq_getElem hi]at L;injection L
  rw[this];exact T.one (cx.1 D _ (cT _))
 cases y with
 | lf x=>
  injection h with h;subst h;have C:dZ w B aj ρ x u:=C;have U:=C.one (by simpa using D);have:eO w B aj ρ [x] u.cells:=by
   rw[apH U]
   refine⟨rfl,λj y Y=>?_⟩
   grind
  simp_all
 | agg Z=>
  injection h with h;subst h;obtain⟨us,rfl,h⟩:=C;exact⟨h,key _ h⟩
 |_=>cases h
def VZ(w:World)(b o:Nat)(ty:TypeId)(v:Value)(D:w.there b o v.cells.size)(hi:(P.info? ty).map (·.size)=some v.cells.size)(L:v.cells.all (·.oneCell')=true):
  (Instr.storeAt ty (.pointer (some ⟨b,o,none⟩)) v).run P w = .ok () (w.setCells b o v.cells.toList):=by
 have:=run_storeCells_cells (P:=P) b o v.cells.toList 0 w (λj C=>by simpa using (D j (by simpa using C)).1) (λj C=>by simpa using (D j (by simpa using C)).2)
  (λv O=>(Array.all_eq_true_iff_forall_mem.1 L) v (by simpa using O))
 cases E:P.info? ty with
 |none=>simp_all
 | some i=>
  have T:v.cells.size=i.size:=by simp[E]at hi;omega
  simp[Instr.storeAt,Instr.sureAddr,storeVar,sizeOf,typeInfo,E,T,this]
def adb{t:TypeId}{x y:A}{k:S -> ah X}(h:qe P σ t x y k=some r):∃ dn,k dn=some r /\ ∀ aj ρ a w,Rl w0 N aj ρ σ a w -> ∀ u v,RA w w0.heap.size aj ρ x u -> RA w w0.heap.size aj ρ y v ->
  ∃w',(Instr.storeAt t u v).run P w = .ok () w'/\Rl w0 N aj ρ dn a w':=by
 unfold qe at h;split at h
 ·rename_i n xs hn pn;split at h
  ·rename_i hlen;split at h
   ·rename_i r' j;split at h
    ·rename_i cs gI;split at h
     ·rename_i U;cases L:xs.all Lf.live with
      |false=>grind
      | true=>
       rw[L]at h
       refine⟨_,h,λaj ρ a w hR u v Y Z=>?_⟩
       obtain⟨b,off,cF,rfl⟩:=Y;obtain⟨hl,mc⟩:=H9 pn L Z;obtain⟨b',H8,g9,Ia,dJ⟩:=hR.HV gI hl (by rw[hlen];exact U);rw[cF]at g9;injection g9 with e1 e2;subst e1 e2;exact⟨_,VZ w b (off+j) t v Ia (by rw[hl.1,hlen];exact hn) mc,dJ⟩
     ·cases h
    ·cases h
   ·rename_i j i s q;split at h
    ·cases h
    ·rename_i E kj;obtain⟨y0,hg,C⟩:=sn _ _ h;clear h;split at C
     ·rename_i t' o' qn l;split at C
      ·rename_i hs;subst hs;split at C
       ·rename_i hi;split at C
        ·rename_i U;cases hold:(((enc t' o' l[i]).drop j).take E.length).all V.plain with
         |false=>grind
         | true=>
          rw[hold,au]at C;split at C
          ·rename_i e he;obtain⟨m',vE,h3⟩:=ada q _ _ C
           refine⟨_,h3,λaj ρ a w hR u v Y Z=>?_⟩
           obtain⟨ad,rfl,o9⟩:=Y;obtain⟨O,V0⟩:=OC xs E kj;have L:xs.all Lf.live=true:=by rw[O];simp[Lf.live]
           obtain⟨hl,mc⟩:=H9 pn L Z;have BJ:E.length=n:=by rw[<- hlen,O,eS]
           have q1:∀ (D:Nat) x,D<E.length -> (enc t' o' l[i])[j+D]?=some x -> x.plain=true:=by
            intro D x qX hx;refine cx.1 hold x (hU (i:=D) ?_);simp_all
           have q2:∀ (D:Nat) x,E[D]?=some x -> ∃ T,v.cells[D]?=some T/\RV w w0.heap.size aj [] x T:=by
            intro D x hx;obtain⟨T,vF,fE⟩:=hl.2 D (.v x) (by rw[O,eR,hx];rfl);exact⟨T,vF,fE.2⟩
           obtain⟨b,hb,Ia,dJ⟩:=hR.apC (xs:=E) (us:=v.cells) hg hi U he q1 V0 (by rw[hl.1,O,eS]) q2 vE;rw[o9]at hb;injection hb with hb;subst hb;exact⟨_,VZ w b _ t v Ia (by rw[hl.1,hlen];exact hn) mc,dJ⟩
          ·cases C
        ·cases C
       ·cases C
      ·cases C
     ·cases C
   ·cases h
  ·cases h
 ·cases h
end
def EB{X:Type}(P:Program)(s:TypeId)(x:A)(f:Nat)(k:A->ah X):ah X:=
 match H7 P s f with
 |none=>none
 | some C=>match jC P C.type with
  | some (_+1)=>(match x with
   |.aH r j=>k (.aH r (j+C.offset))
   |.jr cs=>k (.jr (cs.drop C.offset))
   |.ptr (j::i::s::q)=>k (.ptr ((j+C.offset)::i::s::q))
   |_=>none)
  |_=>none
def zl{X:Type}(P:Program)(σ:S)(t:TypeId)(x i:A)(k:A->ah X):ah X:=
 match qb P t with
 |none=>none
 | some e=>match jC P e,i with
  | some n,.lf (.v (.int _ iv))=>(match x with
   |.lf (.v (.sl C g _ l))=>if n=aE C then (bif Nat.blt g 2 then (if h:0<=iv/\iv.toNat<l.length then k (.jr (enc C g (l[iv.toNat]'h.2)))else none)else none)else none
   | .lf (.own q)=>jt σ.m q λy=>(match y with
    |.sl C g _ l=>if n=aE C then (if h:0<=iv/\iv.toNat<l.length then (bif Nat.blt g 2 then k (.jr (enc C g (l[iv.toNat]'h.2)))else k (.ptr (0::iv.toNat::aE C::q)))else none)else none
    |_=>none)
   |_=>none)
  |_,_=>none
def BM{X:Type}(P:Program)(σ:S)(t:TypeId)(x:A)(k:A->ah X):ah X:=
 match x with
 | .lf y=>pg σ y λz=>(match z with
  |.sl _ _ _ l=>(match P.underlying t with|some (.slice _)=>k (.lf (.v (.int .i64 (l.length:Int))))|_=>none)
  |.nil=>(match P.underlying t with|some (.slice _)=>k (.lf (.v (.int .i64 0)))|_=>none)
  |.str s=>(match P.underlying t with|some .string=>k (.lf (.v (.int .i64 (s.size:Int))))|_=>none)
  |_=>none)
 |.view _ _ i j=>(match P.underlying t with|some (.slice _)=>k (.lf (.v (.int .i64 ((j-i:Nat):Int))))|_=>none)
 |_=>none
def zm:Bool×aa Lf->ah A
 |(true,cs)=>some (.agg cs)
 |(false,[y])=>some (.lf y)
 |_=>none
def BN{X:Type}(x:A)(i:Nat)(k:A->ah X):ah X:=
 match x with
 | .fk xs=>match (xs[i]?).bind zm with
  |some y=>k y
  |none=>none
 |_=>none
section
variable {P:Program} {w:World} {w0:Wd} {B N:Nat} {aj:bK} {ρ:Nat->Loc} {σ:S} {a:Act} {X:Type} {r:X} {o:Oper} {w':World} {aD:bK} {ρ':Nat->Loc} {d:Nat}
def apI(n:Nat){j i s:Nat}{q:aa Nat}{ad:Addr}(h:addrAt w aj ρ (j :: i :: s :: q)=some ad):addrAt w aj ρ ((j+n) :: i :: s :: q)=some ⟨ad.block,ad.off+n,none⟩:=by
 match q,h with
 | [r],h=>
  simp[addrAt]at h ⊢;split at h
  ·grind
  ·cases h
 | x :: y :: q,h=>
  simp[addrAt]at h ⊢;split at h
  ·grind
  ·cases h
def V1(w:World)(s:TypeId)(f:Nat)(C:Field)(n b off:Nat)(D:H7 P s f=some C)(E:jC P C.type=some (n+1)):
  (Instr.fieldAt s (.pointer (some ⟨b,off,none⟩)) f).run P w = .ok (.pointer (some ⟨b,off+C.offset,none⟩)) w:=by
 unfold H7 at D;split at D
 ·rename_i T O;unfold jC at E;cases L:P.info? C.type with
  |none=>simp_all
  | some i=>
   have hi:i.size=n+1:=by simpa [L]using E
   simp[Instr.fieldAt,ia O,D,Instr.sureAddr,fieldPlace,sizeOf,typeInfo,L,hi,Addr.add_mid]
 ·cases D
def apJ{s:TypeId}{x:A}{f:Nat}{k:A -> ah X}(h:EB P s x f k=some r):∃ y,k y=some r /\ ∀ (w:World) (B:Nat) (aj:bK) (ρ:Nat -> Loc) (u:Value),RA w B aj ρ x u ->
  ∃v,(Instr.fieldAt s u f).run P w = .ok v w/\RA w B aj ρ y v:=by
 unfold EB at h;split at h
 ·cases h
 ·rename_i D E;split at h
  ·rename_i n L;split at h
   ·rename_i Z j
    refine⟨_,h,λw B aj ρ u C=>?_⟩
    obtain⟨b,off,U,rfl⟩:=C;exact⟨_,V1 w s f D n b _ E L,b,off,U,by rw[Nat.add_assoc]⟩
   ·rename_i cs
    refine⟨_,h,λw B aj ρ u C=>?_⟩
    obtain⟨b,off,rfl,hb,hl,hc⟩:=C
    refine⟨_,V1 w s f D n b _ E L,b,_,rfl,hb,hl,λj x hx=>?_⟩
    grind
   ·rename_i j i s' q
    refine⟨_,h,λw B aj ρ u C=>?_⟩
    obtain⟨ad,rfl,O⟩:=C;have Y:=apI D.offset O;obtain⟨_,_,_,_,_,_,_,T,_⟩:=BE _ _ O;obtain⟨b,off,sp⟩:=ad;simp only at T;subst T;exact⟨_,V1 w s f D n b off E L,_,rfl,Y⟩
   ·cases h
  ·cases h
def V2(w:World)(t e:TypeId)(n b off len cap:Nat)(L:IntKind)(iv:Int)(C:qb P t=some e)(D:jC P e=some n)(O:0 <= iv)(Z:iv.toNat<len):
  (Instr.indexAt t (.slice (some ⟨b,off,none⟩) len cap) (.int L iv)).run P w = .ok (.pointer (some ⟨b,off+iv.toNat*n,none⟩)) w:=by
 unfold qb at C;split at C
 ·rename_i T U;injection C with C;subst C;unfold jC at D;cases E:P.info? T with
  |none=>simp_all
  | some i=>
   have hi:i.size=n:=by simpa [E]using D
   have Y:iv<len:=by omega
   simp[Instr.indexAt,ia U,asIntOf,O,Y,sizeOf,typeInfo,E,hi,Addr.add_mid]
 ·cases C
def apK{t:TypeId}{x i:A}{k:A -> ah X}(h:zl P σ t x i k=some r):∃ y,k y=some r /\ ∀ aj ρ a w,Rl w0 N aj ρ σ a w -> ∀ u v,RA w w0.heap.size aj ρ x u -> RA w w0.heap.size aj ρ i v ->
  ∃p,(Instr.indexAt t u v).run P w = .ok p w/\RA w w0.heap.size aj ρ y p:=by
 unfold zl at h;split at h
 ·cases h
 ·rename_i e Z;split at h
  ·rename_i n kk iv hn;split at h
   ·rename_i t' g qn l;split at h
    ·rename_i BO;subst BO;cases D:Nat.blt g 2 with
     |false=>grind
     | true=>
      rw[D,au]at h;split at h
      ·rename_i hb
       refine⟨_,h,λaj ρ a w hR u v E L=>?_⟩
       obtain rfl:=L.2.iz;have tC:g<2:=by have:=cZ D;omega
       cases E.2 with
       |eI=>simp at hb
       |fN=>simp at hb
       |fW=>simp at hb
       |own=>grind
       | aF _ _ _ _ _ b off cap us ho hl OD h1 jA hc Y=>
        refine⟨_,V2 w t e _ b off _ cap kk iv Z hn hb.1 hb.2,b,_,rfl,OD,hl,λj x O=>⟨sj t' g _ tC j x O,us _ j,?_,Y _ hb.2 j x O⟩⟩
        grind
      ·cases h
    ·cases h
   ·rename_i q;obtain⟨y0,D,C⟩:=sn _ _ h;clear h;split at C
    ·rename_i t' T qn l;split at C
     ·rename_i BO;subst BO;split at C
      ·rename_i hb;cases U:Nat.blt T 2 with
       | true=>
        rw[U,au]at C;have ho2:T<2:=cZ U
        refine⟨_,C,λaj ρ a w hR u v E L=>?_⟩
        obtain rfl:=L.2.iz;obtain⟨tv,kR,ki⟩:=D.ok hR.root;have:tv=u:=by
         have h3:=E.2;simp_all
        subst this;cases ki with
        |eI=>simp at hb
        |fN=>simp at hb
        |fW=>simp at hb
        |own=>grind
        | aF _ _ _ _ _ b off cap us ho hl OD h1 jA hc Y=>
         refine⟨_,V2 w t e _ b off _ cap kk iv Z hn hb.1 hb.2,b,_,rfl,OD,hl,λj x O=>⟨sj t' T _ ho2 j x O,us _ j,?_,Y _ hb.2 j x O⟩⟩
         grind
       | false=>
        rw[U,aq]at C;have ho2:¬ T<2:=λdI=>by have h9:Nat.blt T 2=true:=jn dI;rw[h9]at U;cases U
        refine⟨_,C,λaj ρ a w hR u v E L=>?_⟩
        obtain rfl:=L.2.iz;obtain⟨tv,kR,ki⟩:=D.ok hR.root;have:tv=u:=by
         have h3:=E.2;simp_all
        subst this;cases ki with
        |eI=>simp at hb
        |fN=>simp at hb
        |fW=>simp at hb
        |aF _ _ _ _ _ _ _ _ _ ho=>omega
        | own _ _ _ _ _ b cap cs us qd hh hs qX sk hc Y=>
         refine⟨_,V2 w t e _ b 0 _ cap kk iv Z hn hb.1 hb.2,_,rfl,?_⟩;rw[BB 0 _ _ kR qd];simp
      ·cases C
     ·cases C
    ·cases C
   ·cases h
  ·cases h
def apL{t ty:TypeId}{x:A}{k:A->ah X}(h:BM P σ t x k=some r):∃ y,k y=some r/\∀ aj ρ a w,Rl w0 N aj ρ σ a w->∀ u,RA w w0.heap.size aj ρ x u->
  ∃v,(Builtin.len_ #[t] ty #[u]).run P w = .ok v w/\RA w w0.heap.size aj ρ y v:=by
 unfold BM at h;split at h
 ·rename_i y;have key:∃ z,(∀ aj ρ a w,Rl w0 N aj ρ σ a w->∀ u,dZ w w0.heap.size aj ρ y u->∃ q,RV w w0.heap.size aj q z u)/\(match z with
    |.sl _ _ _ l=>(match P.underlying t with|some (.slice _)=>k (.lf (.v (.int .i64 (l.length:Int))))|_=>none)
    |.nil=>(match P.underlying t with|some (.slice _)=>k (.lf (.v (.int .i64 0)))|_=>none)
    |.str s=>(match P.underlying t with|some .string=>k (.lf (.v (.int .i64 (s.size:Int))))|_=>none)
    |_=>none)=some r:=by
   cases y with
   |v z=>exact⟨z,λaj ρ a w _ u D=>⟨[],D.2⟩,h⟩
   |dead=>cases h
   | own q=>
    obtain⟨z,O,h⟩:=sn q _ h
    refine⟨z,λaj ρ a w hR u D=>?_,h⟩
    obtain⟨v,U,L⟩:=O.ok hR.root;have T:=D.2;rw[U]at T;injection T with T;subst T;exact⟨q,L⟩
  obtain⟨z,O,C⟩:=key;clear h;split at C
  ·rename_i Y g Z l;split at C
   ·rename_i e E
    refine⟨_,C,λaj ρ a w hR u D=>?_⟩
    obtain⟨q,L⟩:=O aj ρ a w hR u D;cases L with
    |eI=>exact⟨_,by simp[Builtin.len_,ia E,goInt],rfl,.int _ _ _⟩
    |fN=>exact⟨_,by simp[Builtin.len_,ia E,goInt],rfl,.int _ _ _⟩
    |fW=>exact⟨_,by simp[Builtin.len_,ia E,goInt],rfl,.int _ _ _⟩
    |aF=>exact⟨_,by simp[Builtin.len_,ia E,goInt],rfl,.int _ _ _⟩
    |own=>exact⟨_,by simp[Builtin.len_,ia E,goInt],rfl,.int _ _ _⟩
   ·cases C
  ·split at C
   ·rename_i e E
    refine⟨_,C,λaj ρ a w hR u D=>?_⟩
    obtain⟨q,L⟩:=O aj ρ a w hR u D;cases L;exact⟨_,by simp[Builtin.len_,ia E,goInt],rfl,.int _ _ _⟩
   ·cases C
  ·split at C
   ·rename_i E
    refine⟨_,C,λaj ρ a w hR u D=>?_⟩
    obtain⟨q,L⟩:=O aj ρ a w hR u D;obtain rfl:=L.xg;exact⟨_,by simp[Builtin.len_,ia E,goInt],rfl,.int _ _ _⟩
   ·cases C
  ·cases C
 ·split at h
  ·rename_i e E
   refine⟨_,h,λaj ρ a w hR u D=>?_⟩
   obtain⟨A,n,c,U,h1,C,rfl⟩:=D;exact⟨_,by cases A<;>simp[sliced,Builtin.len_,ia E,goInt],rfl,.int _ _ _⟩
  ·cases h
 ·cases h
def V3{p:Bool×aa Lf}{y:A}(h:zm p=some y){u:Value}(C:RP w B aj ρ p u):RA w B aj ρ y u:=by
 unfold zm at h;split at h
 ·injection h with h;subst h;exact C
 ·rename_i z;injection h with h;subst h;obtain⟨D,E,L⟩:=C.2 0 z rfl;have:u=D:=by simpa using E
  subst this;exact L
 ·cases h
def apM{x:A}{i:Nat}{k:A -> ah X}(h:BN x i k=some r):∃ y,k y=some r /\ ∀ (w:World) (B:Nat) (aj:bK) (ρ:Nat -> Loc) (u:Value),RA w B aj ρ x u ->
  ∃v,(Instr.extract u i).run P w = .ok v w/\RA w B aj ρ y v:=by
 unfold BN at h;split at h
 ·rename_i xs;split at h
  ·rename_i y C
   refine⟨y,h,λw B aj ρ u E=>?_⟩
   obtain⟨us,rfl,U,L⟩:=E;cases D:xs[i]? with
   |none=>simp_all
   | some p=>
    rw[D]at C;obtain⟨v,O,T⟩:=L i p D;exact⟨v,by simp[Instr.extract,O],V3 C T⟩
  ·cases h
 ·cases h
def ade{k:aa Nat}(h:dc d k=true):[d] <:+ k:=by
 have h:k.getLast?=some d:=by simpa [dc]using h
 obtain⟨y,C⟩:=List.getLast?_eq_some_iff.1 h;simp_all
def OE{j i s:Nat}{q:aa Nat}(C:q≠[]):dc d (j :: i :: s :: q)=dc d q:=by
 cases q with
 |nil=>simp_all
 |cons x q=>simp[dc]
structure EC (w w':World) (aj aD:bK) (d:Nat):Prop where
 size:w.heap.size<=w'.heap.size
 block:∀b,b<w.heap.size->aj b≠some [d]->w'.heap[b]?=w.heap[b]?
 V4:∀b,b<w.heap.size->aD b=aj b
 ne:∀b,aj b≠some []
def EC.tr(C:EC w w' aj aD d)(D:∀ b k,aj b=some k->b<w.heap.size)(E:∀ r,r≠d->ρ' r=ρ r):Tr w w' aj aD ρ ρ' (dc d) (λr=>Nat.beq r d):=by
 refine⟨C.size,λb hb hl=>⟨C.block b hb (by rw[hl];simp),(C.V4 b hb).trans hl⟩,λb k hl L=>⟨C.block b (D b k hl) ?_,(C.V4 b (D b k hl)).trans hl⟩,λr O=>E r (by rintro rfl;simp at O),λj i s x q=>OE (by simp),λb hb=>absurd hb (C.ne b)⟩
 rw[hl];intro e;injection e with e;subst e;simp[dc]at L
def RA.V5{x:A}{u:Value}(h:RA w B aj ρ x u)(C:EC w w' aj aD d)(D:∀b k,aj b=some k->b<w.heap.size)(E:∀r,r≠d->ρ' r=ρ r):RA w' B aD ρ' (x.drop d) u:=h.tr (C.tr D E) (vu (λ_ h=>h) λ_=>o6)
def ez.V5{r:Nat}(C:r≠d){x:bh}(h:ez w B aj ρ r x)(D:EC w w' aj aD d)(E:∀b k,aj b=some k->b<w.heap.size)(L:∀r,r≠d->ρ' r=ρ r):ez w' B aD ρ' r (x.drop d):=h.tr (D.tr E L) (vu (λ_ h=>h) λ_=>o6) (by simpa [dc]using C) (o6 C)
def Rl.zn{x:bh}(h:Rl w0 N aj ρ σ a w)(U:w0.F d=none)(hb:js w0 w w')(E:EC w w' aj aD d)(Y:∀ b k,w.heap.size <= b -> aD b=some k -> b<w'.heap.size/\k≠[])(L:∀ r,r≠d -> ρ' r=ρ r)(hx:ez w' w0.heap.size aD ρ' d x):
  Rl w0 N aD ρ' ((σ.drop d).root d x) a w':=by
 have T:=λb k hb=>(h.dw b k hb).2.1
 refine⟨h.below.trans hb,λb k O=>?_,λr y C=>?_,λk=>(h.tmp k).V5 E T L,h.size,h.defers,λr Z D=>(L r (by rintro rfl;rw[U]at D;cases D)).trans (h.fix r Z D),h.dH⟩
 ·rcases Nat.lt_or_ge b w.heap.size with dI | o7
  ·rw[E.V4 b dI]at O;have:=h.dw b k O;exact⟨this.1,Nat.lt_of_lt_of_le this.2.1 E.size,this.2.2⟩
  ·have:=Y b k o7 O;exact⟨.inl (Nat.le_trans h.below.size o7),this.1,this.2⟩
 ·by_cases D:r=d
  ·subst D;have C:(cg (σ.drop r).m r _) r=some y:=C;rw[cv]at C;simp_all
  ·have C:(cg (σ.drop d).m d (some x)) r=some y:=C;rw[cR _ _ _ D]at C;have hb:Nat.beq r d=false:=by
    cases hb:Nat.beq r d with
    |false=>rfl
    |true=>simp_all
   simp only[S.drop,hb,aq]at C;cases hm:σ.m r with
   |none=>simp_all
   | some z=>
    rw[hm]at C;injection C with C;subst C;exact(h.root r z hm).V5 D E T L
end
def ic(q:Nat)(nk k:aa Nat):aa Nat:=bif dc q k then k.dropLast++nk else k
def bK.ic(aj:bK)(q:Nat)(nk:aa Nat):bK:=λb=>(aj b).map (Proofs.YtnilicojgkhpnaaGreat.ic q nk)
section
variable {P:Program} {w w':World} {w0:Wd} {B N:Nat} {aj aD:bK} {ρ ρ':Nat->Loc} {σ:S} {a:Act} {X:Type} {d q:Nat} {nk:aa Nat}
def adf:ic q nk [q]=nk:=by simp[ic,dc]
def apN{k:aa Nat}(h:dc q k=false):ic q nk k=k:=by simp[ic,h]
def apO{j i s:Nat}{k:aa Nat}(C:k≠[]):ic q nk (j :: i :: s :: k)=j :: i :: s :: ic q nk k:=by
 unfold ic;rw[OE C];cases dc q k with
 |false=>rfl
 | true=>
  cases k with
  |nil=>simp_all
  |cons x k=>simp
def adg{k:aa Nat}(C:nk≠[])(D:k≠[]):ic q nk k≠[]:=by
 unfold ic;cases dc q k with
 |false=>simp_all
 |true=>simp[C]
def bK.V6{b:Nat}(h:aj b=none):aj.ic q nk b=none:=by simp[bK.ic,h]
def bK.adh{b:Nat}{k:aa Nat}(h:aj b=some k):aj.ic q nk b=some (Proofs.YtnilicojgkhpnaaGreat.ic q nk k):=by simp[bK.ic,h]
def bK.adi{b:Nat}{k:aa Nat}(h:aj b=some k)(C:dc q k=false):aj.ic q nk b=some k:=by rw[bK.adh h,apN C]
def RV.ic{k:aa Nat}{x:V}{v:Value}(h:RV w B aj k x v)(D:∀ b,aj b≠some []):RV w B (aj.ic q nk) (Proofs.YtnilicojgkhpnaaGreat.ic q nk k) x v:=
 h.map (Q:=λk C=>C=Proofs.YtnilicojgkhpnaaGreat.ic q nk k) (dQ _) (λb _ h=>⟨rfl,bK.V6 h⟩) (λb k C _ hl e=>by
  subst e;exact⟨rfl,bK.adh hl,λj i s=>(apO λe=>D b (e ▸ hl)).symm⟩) (.inr rfl)
structure Rel (q:Nat) (aj aD:bK):Prop where
 ne:∀b,aj b≠some []
 none:∀b,aj b=none->aD b=Option.none
 lX:∀b k,aj b=some k->dc q k=false->aD b=some k
def Ib(C:∀b,aj b≠some []):Rel q aj (aj.ic q nk):=⟨C,λ_ h=>bK.V6 h,λ_ _ h D=>bK.adi h D⟩
def Rel.tr(C:Rel q aj aD):Tr w w aj aD ρ ρ (dc q) (λ_=>false):=
 ⟨dQ _,λb _ hl=>⟨rfl,C.none b hl⟩,λb k hl D=>⟨rfl,C.lX b k hl D⟩,λ_ _=>rfl,λj i s x q=>OE (by simp),λb hb=>absurd hb (C.ne b)⟩
def RV.rel(C:Rel q aj aD){k:aa Nat}{x:V}{v:Value}(h:RV w B aj k x v)(D:dc q k=false\/x.aF=true):RV w B aD k x v:=h.tr (ρ:=λ_=>.ep undef) C.tr D.symm
def apP(C:Rel q aj aD)(k:aa Nat)(u:Value)(D:dc q k=false)(h:di w aj ρ k=some u):di w aD ρ k=some u:=VS C.tr k u (.inr D) (VT k) h
def eO.rel(C:Rel q aj aD){cs:aa Lf}{us:Array Value}(h:eO w B aj ρ cs us):eO w B aD ρ (cs.map (Lf.drop q)) us:=h.tr C.tr (vu (λ_ h=>h) λ_ _=>rfl)
def RA.rel(C:Rel q aj aD){x:A}{u:Value}(h:RA w B aj ρ x u):RA w B aD ρ (x.drop q) u:=h.tr C.tr (vu (λ_ h=>h) λ_ _=>rfl)
def ez.rel(C:Rel q aj aD){r:Nat}(D:r≠q){x:bh}(h:ez w B aj ρ r x):ez w B aD ρ r (x.drop q):=h.tr C.tr (vu (λ_ h=>h) λ_ _=>rfl) (by simpa [dc]using D) rfl
def Rl.xk(h:Rl w0 N aj ρ σ a w):∀b,aj b≠some []:=λb hb=>(h.dw b [] hb).2.2 rfl
def Rl.rel(h:Rl w0 N aj ρ σ a w)(E:Rel q aj aD)(O:∀ b k,aD b=some k -> (∃ D,aj b=some D)/\k≠[]):Rl w0 N aD ρ (σ.drop q) a w:=by
 refine⟨h.below,λb k T=>?_,λr x C=>?_,λk=>(h.tmp k).rel E,h.size,h.defers,h.fix,h.dH⟩
 ·obtain⟨⟨D,hl⟩,Y⟩:=O b k T;have:=h.dw b D hl;simp_all
 ·have C:(bif Nat.beq r q then none else (σ.m r).map _)=some x:=C;cases hb:Nat.beq r q with
  |true=>simp_all
  | false=>
   rw[hb]at C;have U:r≠q:=by rintro rfl;simp at hb
   cases L:σ.m r with
   |none=>simp_all
   | some y=>
    rw[L]at C;injection C with C;subst C;exact(h.root r y L).rel E U
def Rl.apQ{z:V}(h:Rl w0 N aj ρ σ a w)(O:σ.m q=some (.sl z))(T:nk≠[]):∃ u,ρ q = .ep u/\Rl w0 N (aj.ic q nk) ρ (σ.drop q) a w/\RV w w0.heap.size (aj.ic q nk) nk z u:=by
 have E:=h.xk;have L:=h.root q _ O;generalize C:bh.sl z=x at L;cases L with
 |aB=>cases C
 |mp=>cases C
 |gh=>cases C
 | sl u y U Y=>
  injection C with C;subst C
  refine⟨u,U,h.rel (Ib E) λb k D=>?_,?_⟩
  ·unfold bK.ic at D;cases hl:aj b with
   |none=>simp_all
   | some Z=>
    rw[hl]at D;injection D with D;subst D;exact⟨⟨Z,rfl⟩,adg T (λe=>E b (by rw[hl,e]))⟩
  ·have:=Y.ic (q:=q) (nk:=nk) E
   rwa [adf]at this
def iA(r:Nat)(key:Nat->aa Nat):Nat->Nat->aa Lf->S->ah (aa V×S)
 |_,_,[],σ=>some ([],σ)
 |f+1,j,.v x::xs,σ=>(iA r key f (j+1) xs σ).map λp=>(x::p.1,p.2)
 | f+1,j,.own [q] :: xs,σ=>match σ.m q with
  |some (.sl z)=>bif Nat.beq q r then none else (iA r key f (j+1) (xs.map (Lf.drop q)) (σ.drop q)).map λp=>(z::p.1,p.2)
  |_=>none
 |_,_,_,_=>none
def OF{r:Nat}{key:Nat->aa Nat}(Y:∀ j,dc r (key j)=true):∀ (f j:Nat) (xs:aa Lf) (σ E:S) (L:aa V),iA r key f j xs σ=some (L,E)->∀ aj ρ a w,Rl w0 N aj ρ σ a w->∀ us:aa Value,eO w w0.heap.size aj ρ xs us.toArray->
  ∃ aD,Rl w0 N aD ρ E a w/\L.length=xs.length/\(∀ (n:Nat) x,L[n]?=some x->∃ u,us[n]?=some u/\RV w w0.heap.size aD (key (j+n)) x u)/\(∀ k x v,dc r k=true->RV w w0.heap.size aj k x v->RV w w0.heap.size aD k x v)/\
   (∀x,σ.m r=some (.sl x)->E.m r=some (.sl x))/\(∀k u,dc r k=true->di w aj ρ k=some u->di w aD ρ k=some u)/\(∀b,aj b=some [r]->aD b=some [r])/\(∀b,aj b=none->aD b=none)
 | 0,j,[],σ,E,L,h,aj,ρ,a,w,hR,us,O=>by
  simp only[iA,iO,Prod.mk.injEq]at h;obtain⟨rfl,rfl⟩:=h;exact⟨aj,hR,rfl,by simp,λ_ _ _ _ h=>h,λ_ h=>h,λ_ _ _ h=>h,λ_ h=>h,λ_ h=>h⟩
 | f+1,j,[],σ,E,L,h,aj,ρ,a,w,hR,us,O=>by
  simp only[iA,iO,Prod.mk.injEq]at h;obtain⟨rfl,rfl⟩:=h;exact⟨aj,hR,rfl,by simp,λ_ _ _ _ h=>h,λ_ h=>h,λ_ _ _ h=>h,λ_ h=>h,λ_ h=>h⟩
 |0,j,x::xs,σ,E,L,h,aj,ρ,a,w,hR,us,O=>by simp[iA]at h
 | f+1,j,x :: xs,σ,E,L,h,aj,ρ,a,w,hR,us,O=>by
  obtain⟨U,us,rfl⟩:∃ U OG,us=U :: OG:=by
   cases us with
   |nil=>have:=O.1;simp at this
   |cons U us=>exact⟨_,_,rfl⟩
  have Z:dZ w w0.heap.size aj ρ x U:=by
   obtain⟨u,e,h⟩:=O.2 0 x rfl;simp at e;subst e;exact h
  have kQ:eO w w0.heap.size aj ρ xs us.toArray:=⟨by have:=O.1;simpa using this,λn y C=>by
   obtain⟨u,e,h⟩:=O.2 (n+1) y C;exact⟨u,by simpa using e,h⟩⟩
  cases x with
  | v x=>
   simp only[iA,Option.map_eq_some_iff]at h;obtain⟨⟨V7,sr⟩,h,e⟩:=h;simp only[Prod.mk.injEq]at e;obtain⟨rfl,rfl⟩:=e;obtain⟨aD,h1,h2,h3,D,h5⟩:=OF Y f (j+1) xs σ sr V7 h aj ρ a w hR us kQ
   refine⟨aD,h1,by simp[h2],λn y C=>?_,D,h5⟩
   cases n with
   | zero=>
    simp at C;subst C;refine⟨U,rfl,D _ _ _ (Y _) (Z.2.key Z.1)⟩
   | succ n=>
    obtain⟨u,e,h⟩:=h3 n y (by simpa using C);exact⟨u,by simpa using e,by rw[show j+(n+1)=j+1+n by omega];exact h⟩
  |dead=>simp[iA]at h
  | own k=>
   match k,Z,h with
   |[],_,h=>simp[iA]at h
   |_::_::_,_,h=>simp[iA]at h
   | [q],Z,h=>
    simp only[iA]at h;split at h
    ·rename_i z hz;cases V8:Nat.beq q r with
     |true=>rw[V8]at h;cases h
     | false=>
      rw[V8,aq,Option.map_eq_some_iff]at h;obtain⟨⟨V7,sr⟩,apR,e⟩:=h;simp only[Prod.mk.injEq]at e;obtain⟨rfl,rfl⟩:=e;have dy:q≠r:=by rintro rfl;simp at V8
      have hkj:key j≠[]:=by intro e;have:=Y j;rw[e]at this;simp[dc]at this
      obtain⟨u,cF,dJ,ki⟩:=hR.apQ hz hkj;have Ic:u=U:=by
       have D:=Z.2;simp only[di,cF]at D;injection D
      subst Ic;have oe:∀ k,dc r k=true->dc q k=false:=by
       intro k T;cases hq:dc q k with
       |false=>rfl
       | true=>
        exfalso;have h1:=ade T;have h2:=ade hq;exact dy (ac4 h1 h2)
      obtain⟨aD,h1,h2,h3,D,h5,h6,h7,h8⟩:=OF Y f (j+1) (xs.map (Lf.drop q)) (σ.drop q) sr V7 apR _ ρ a w dJ us (kQ.rel (Ib hR.xk))
      refine⟨aD,h1,by simp[h2],λn y C=>?_,λk x v T hv=>D _ _ _ T (hv.rel (Ib hR.xk) (.inl (oe k T))),λx hx=>h5 x ?_,λk v T hv=>h6 k v T (apP (Ib hR.xk) k v (oe k T) hv),λb hb=>h7 b (bK.adi hb (by simpa [dc]using λe=>dy e.symm)),λb hb=>h8 b (bK.V6 hb)⟩
      ·cases n with
       | zero=>
        simp at C;subst C;exact⟨u,rfl,D _ _ _ (Y _) ki⟩
       | succ n=>
        obtain⟨u,e,h⟩:=h3 n y (by simpa using C);exact⟨u,by simpa using e,by rw[show j+(n+1)=j+1+n by omega];exact h⟩
      ·have hb:Nat.beq r q=false:=by
        cases hb:Nat.beq r q with
        |false=>rfl
        |true=>exact absurd (cK hb).symm dy
       show (bif Nat.beq r q then none else (σ.m r).map (bh.drop q))=_;rw[hb,hx];rfl
    ·cases h
end
def og:Value->Lf
 |.int k n=>.v (.int k n)
 |.bool b=>.v (.bool b)
 |.string s=>.v (.str s)
 |.slice none 0 0=>.v .nil
 |_=>.dead
def zeroV:Value->ah V
 |.int k n=>some (.int k n)
 |.bool b=>some (.bool b)
 |.string s=>some (.str s)
 |.slice none 0 0=>some .nil
 |_=>none
def Ie:aa Value->ah (aa V)
 |[]=>some []
 | v :: C=>match zeroV v,Ie C with
  |some x,some xs=>some (x::xs)
  |_,_=>none
def zeroOf(P:Program)(e:TypeId):ah Value:=(P.info? e).bind (·.zero)
def bytesOf(P:Program)(e:TypeId):ah Nat:=(P.info? e).map (·.bytes)
def iB{X:Type}(N:Nat)(σ:S)(d:Nat)(x:bh)(y:A)(k:S->ah X):ah X:=
 bif Nat.blt d N then k (((σ.drop d).root d x).set d y)else none
def qZ{X:Type}(P:Program)(N:Nat)(σ:S)(d:Nat)(e:TypeId)(k:S->ah X):ah X:=
 match zeroOf P e with
 |some z=>iB N σ d (.aB (z.cells.toList.map og)) (.aH d 0) k
 |none=>none
def vG(P:Program)(t:TypeId):ah (TypeId×TC):=
 match qb P t with
 |none=>none
 | some e=>match acY e,jC P e,bytesOf P e with
  |some C,some n,some b=>bif Nat.beq n (aE C)&&Nat.ble b 65536 then some (e,C)else none
  |_,_,_=>none
def OH(P:Program)(e:TypeId)(C:TC):ah (T C):=
 match zeroOf P e with
 |none=>none
 | some z=>match Ie z.cells.toList with
  |none=>none
  |some D=>dec C (full C) D
def zo{X:Type}(P:Program)(N:Nat)(σ:S)(d:Nat)(t:TypeId)(l c:A)(k:S->ah X):ah X:=
 match vG P t,l,c with
 | some (e,C),.lf (.v (.int _ n)),.lf (.v (.int _ c))=>match OH P e C with
  |none=>none
  |some z=>if 0<=n/\n<=c/\c<1073741824 then iB N σ d (.sl (.sl C (full C+2) false (List.replicate n.toNat z))) (.lf (.own [d])) k else none
 |_,_,_=>none
def V.OI(t:TC):V->ah (aa (T t))
 |.sl C _ _ l=>if h:C=t then some (h ▸ l)else none
 |.nil=>some []
 |_=>none
def tD{X:Type}(P:Program)(N:Nat)(σ:S)(d:Nat)(t:TypeId)(x y:A)(k:S->ah X):ah X:=
 match vG P t with
 | some (e,C)=>bif Nat.beq (full C) 0&&(zeroOf P e).any (λz=>Nat.beq z.cells.size (aE C))then sq σ y λD=>(match D.OI C with
  |none=>none
  | some l2=>match x with
   |.lf (.v .nil)=>bif bM l2.length then iB N σ d (.sl (.sl C 2 false l2)) (.lf (.own [d])) k else none
   | .lf (.own [r])=>(match σ.m r with
    |some (.sl (.sl E (o+2) q l))=>if h:E=C then (bif Nat.blt d N&&(Nat.blt r N ||Nat.ble 60000 r)&&bM (l.length+l2.length)then k (((σ.drop r).root r (.sl (.sl C (o+2) false ((h ▸ l)++l2)))).set d (.lf (.own [r])))else none)else none
    |_=>none)
   |_=>none)else none
 |none=>none
section
variable {P:Program} {w w':World} {w0:Wd} {B N:Nat} {aj aD:bK} {ρ ρ':Nat->Loc} {σ:S} {a:Act} {X:Type} {d:Nat} {r:X} {q:Nat} {o:Oper}
def OJ(v:Value):dZ w B aj ρ (og v) v:=by
 unfold og;split
 ·exact⟨rfl,.int _ _ _⟩
 ·exact⟨rfl,.bool _ _⟩
 ·exact⟨rfl,.str _ _⟩
 ·exact⟨rfl,.nil _⟩
 ·trivial
def adj{v:Value}{x:V}(h:zeroV v=some x)(q:aa Nat):RV w B aj q x v:=by
 unfold zeroV at h;split at h<;>first|(injection h with h;subst h;first|exact .int _ _ _|exact .bool _ _|exact .str _ _|exact .nil _)|cases h
def V9:∀ (C:aa Value) (xs:aa V),Ie C=some xs -> xs.length=C.length /\ ∀ (j:Nat) x,xs[j]?=some x -> ∃ v,C[j]?=some v/\zeroV v=some x
 | [],xs,h=>by
  simp[Ie]at h;simp_all
 | v :: C,xs,h=>by
  unfold Ie at h;split at h
  ·rename_i y ys E D;injection h with h;subst h;obtain⟨L,O⟩:=V9 C ys D
   grind
  ·cases h
def js.adk(w0:Wd)(w:World)(o:Obj)(h:w0.heap.size<=w.heap.size):js w0 w (w.alloc o):=.of ((Below.refl w0.heap.size w).alloc h o) (dQ _)
def Rl.ED{c:Array Value}{e:TypeId}{x:bh}{ρ':Nat -> Loc}(h:Rl w0 N aj ρ σ a w)(D:w0.F d=none)(E:∀ r,r≠d -> ρ' r=ρ r)
  (L:ez (w.alloc (.cells c e)) w0.heap.size (cg aj w.heap.size (some [d])) ρ' d x):Rl w0 N (cg aj w.heap.size (some [d])) ρ' ((σ.drop d).root d x) a (w.alloc (.cells c e)):=by
 refine h.zn D (js.adk w0 w _ h.below.size) ⟨by simp,λb hb _=>Below.heap_alloc w _ b hb,λb hb=>cR _ _ _ (by omega),λb hb=>(h.dw b [] hb).2.2 rfl⟩ (λb k hb C=>?_) E L
 by_cases e:b=w.heap.size
 ·subst e;rw[cv]at C;injection C with C;subst C;simp_all
 ·rw[cR _ _ _ e]at C;have:=(h.dw b k C).2.1;omega
def pq{x:bh}{y:A}{k:S -> ah X}(h:iB N σ d x y k=some r):d<N/\k (((σ.drop d).root d x).set d y)=some r:=by
 unfold iB at h;cases C:Nat.blt d N with
 |false=>simp_all
 |true=>simp_all
def apS{e:TypeId}{k:S -> ah X}(h:qZ P N σ d e k=some r):∃ E,k E=some r /\ ∀ aj ρ a w,Rl w0 N aj ρ σ a w -> ∃ w' aD ρ' v,(Instr.alloc e true (.tuple #[])).run P w = .ok v w'/\Rl w0 N aD ρ' E (a.put (some d) v) w':=by
 unfold qZ at h;split at h
 ·rename_i z D;obtain⟨L,h⟩:=pq h
  refine⟨_,h,λaj ρ a w hR=>?_⟩
  have U:(Instr.alloc e true (.tuple #[])).run P w = .ok (.pointer (some ⟨w.heap.size,0,none⟩)) (w.alloc (.cells z.cells e)):=by
   unfold zeroOf at D;cases hi:P.info? e with
   |none=>simp_all
   | some i=>
    have D:i.zero=some z:=by simpa [hi]using D
    simp[Instr.alloc,zeroValue,typeInfo,hi,D,newVar,newRow]
  refine⟨_,cg aj w.heap.size (some [d]),cg ρ d (.aB w.heap.size 0),_,U,(hR.ED (hR.dH d (.inl L)) (λr Y=>cR _ _ _ Y) ?_).set ⟨w.heap.size,0,cv _ _ _,rfl⟩ L⟩
  refine .aB w.heap.size 0 z.cells e _ (λj=>z.cells.getD j undef) (cv _ _ _) (cv _ _ _) (heap_alloc_new w _) (by simp) λj x C=>?_
  rw[eR]at C;cases O:z.cells.toList[j]? with
  |none=>simp_all
  | some v=>
   rw[O]at C;injection C with C;subst C;have T:z.cells[j]?=some v:=by simpa using O
   have Z:z.cells.getD j undef=v:=by rw[iM,T];rfl
   rw[Z,fD];exact⟨T,OJ v⟩
 ·cases h
def zp{t e:TypeId}{C:TC}(h:vG P t=some (e,C)):P.underlying t=some (.slice e)/\tid C=e /\ ∃ i,P.info? e=some i/\i.size=aE C/\i.bytes <= 65536:=by
 unfold vG at h;split at h
 ·cases h
 ·rename_i L D;split at h
  ·rename_i O n b T U hb;cases E:(Nat.beq n (aE O)&&Nat.ble b 65536)with
   |false=>simp_all
   | true=>
    rw[E,au]at h;injection h with h;injection h with Y Z;subst Y Z;rw[aU]at E;refine⟨?_,apw T,?_⟩
    ·unfold qb at D;split at D
     ·simp_all
     ·cases D
    ·unfold jC at U;unfold bytesOf at hb;cases hi:P.info? L with
     |none=>simp_all
     |some i =>simp_all
  ·cases h
def adl(z:Array Value)(n i j:Nat)(C:j<z.size)(h:i*z.size+j<n):(madeCells z n)[i*z.size+j]?=some z[j]:=by
 have D:(i*z.size+j) % z.size=j:=by rw[Nat.add_comm,Nat.add_mul_mod_self_right,Nat.mod_eq_of_lt C]
 simp[madeCells,Array.getElem?_map,Array.getElem?_range,h,if_true,Option.map_some,D];simp[C]
def apT{t:TypeId}{l c:A}{k:S -> ah X}(h:zo P N σ d t l c k=some r):∃ dn,k dn=some r /\ ∀ aj ρ a w,Rl w0 N aj ρ σ a w -> ∀ u v,RA w w0.heap.size aj ρ l u -> RA w w0.heap.size aj ρ c v ->
  ∃w' aD ρ' x,(Instr.makeSlice t u v).run P w = .ok x w'/\Rl w0 N aD ρ' dn (a.put (some d) x) w':=by
 unfold zo at h;split at h
 ·rename_i e D kl n kc c pz;split at h
  ·cases h
  ·rename_i z E;split at h
   ·rename_i hb;obtain⟨hd,h⟩:=pq h
    refine⟨_,h,λaj ρ a w hR u v hu U=>?_⟩
    obtain rfl:=hu.2.iz;obtain rfl:=U.2.iz;obtain⟨gv,ht,i,hi,iL,jW⟩:=zp pz;unfold OH at E;split at E
    ·cases E
    ·rename_i C EE;split at E
     ·cases E
     ·rename_i vs kj;have pE:i.zero=some C:=by unfold zeroOf at EE;simpa [hi]using EE
      obtain⟨q5,lG⟩:=V9 _ _ kj;have Y:=mJ D (full D) vs z E;have T:C.cells.size=aE D:=by rw[<- kP D (full D) z,<- Y.1,q5];simp
      have VB:(i.bytes:Int)*c <= 281474976710656:=by
       have h1:(i.bytes:Int) <= 65536:=by omega
       have h2:i.bytes*c <= 65536*c:=Int.mul_le_mul_of_nonneg_right h1 (by omega);omega
      have dP:=run_make (P:=P) w t e i C gv hi pE kl kc n c hb.1 hb.2.1 VB (by omega);rw[iL,<- T]at dP
      refine⟨_,cg aj w.heap.size (some [d]),cg ρ d (.ep (.slice (some ⟨w.heap.size,0,none⟩) n.toNat c.toNat)),_,dP,(hR.ED (hR.dH d (.inl hd)) (λr hr=>cR _ _ _ hr) ?_).set ⟨rfl,?_⟩ hd⟩
      ·refine .sl _ _ (cv _ _ _) ?_;have hlen:(List.replicate n.toNat z).length=n.toNat:=by simp
       have:=RV.own (w:=w.alloc (.cells (madeCells C.cells (c.toNat*C.cells.size)) e)) (B:=w0.heap.size) (aj:=cg aj w.heap.size (some [d])) [d] D (full D) false (List.replicate n.toNat z) w.heap.size c.toNat (madeCells C.cells (c.toNat*C.cells.size)) (λ_ j=>C.cells.getD j undef)
        (cv _ _ _) (by rw[ht];exact heap_alloc_new w _) (by rw[size_madeCells,T]) (by rw[hlen];omega) ⟨by unfold maxLen;omega,λh=>by cases h⟩ (λZ h' j x L=>?_) (λZ h' j x L=>?_)
       ·rw[hlen]at this;exact this
       ·rw[List.getElem_replicate]at L;have O:j<aE D:=by have:=(dV.1 L).1;rwa [kP]at this
        rw[hlen]at h';rw[<- T]at O;rw[<- T,adl C.cells _ Z j O (by
         have:(Z+1)*C.cells.size <= c.toNat*C.cells.size:=iX _ (by omega);rw[iN]at this;omega)]
        simp[iM,O]
       ·rw[List.getElem_replicate]at L;have O:j<(enc D (full D) z).length:=(dV.1 L).1;rw[<- Y.1]at O;have hy:=bZ O;generalize vs[j]=y at hy;obtain⟨v,U,Wa⟩:=lG j y hy;have tv:C.cells[j]?=some v:=by simpa using U
        have hg:C.cells.getD j undef=v:=by rw[iM,tv];rfl
        rw[hg];exact(adj Wa _).wk (Y.2 j y x hy L)
      ·simp[di,cv]
   ·cases h
 ·cases h
def EF(t:TC)(h:full t=0)(o C:Nat)(x:T t):enc t o x=enc t C x:=by
 have key:∀ o,enc t o x=enc t 0 x:=by
  intro o;rw[acZ t o x];have:=zg t o x h
  conv=>lhs;rw[<- List.map_id (enc t o x)]
  apply List.map_congr_left;intro y D;have E:=this y D;cases y<;>first|rfl|cases E
 simp_all
def xl(u:Nat->Nat->Value)(n s:Nat):aa Value:=(List.range (n*s)).map λk=>u (k / s) (k % s)
def adm(u:Nat -> Nat -> Value)(n s i j:Nat)(hi:i<n)(C:j<s):(xl u n s)[i*s+j]?=some (u i j):=by
 have D:i*s+j<n*s:=by
  have:(i+1)*s <= n*s:=iX _ hi
  grind
 have E:(i*s+j) / s=i:=by rw[Nat.add_comm,Nat.add_mul_div_right _ _ (by omega),Nat.div_eq_of_lt C,fD]
 have L:(i*s+j) % s=j:=by rw[Nat.add_comm,Nat.add_mul_mod_self_right,Nat.mod_eq_of_lt C]
 simp[xl,D,E,L]
def OL(u:Nat -> Nat -> Value)(n s k:Nat)(v:Value)(D:0<s)(h:(xl u n s)[k]?=some v):∃ i j,k=i*s+j/\i<n/\j<s/\v=u i j:=by
 have C:k<n*s:=by
  have:=(dV.1 h).1
  simpa [xl]using this
 refine⟨k / s,k % s,by rw[Nat.mul_comm];exact(Nat.div_add_mod k s).symm,Nat.div_lt_of_lt_mul (by rw[Nat.mul_comm];exact C),Nat.mod_lt _ D,?_⟩;simp[xl,eR,List.getElem?_range C,Option.map_some,iO]at h;simp_all
def BP(t:TC)(o:Nat)(x:T t)(j:Nat)(C:j<aE t):∃y,(enc t o x)[j]?=some y:=⟨_,bZ (by rw[kP];exact C)⟩
def xm(t:TC)(l:aa (T t))(C:aa Value):Prop:=
 ∀i (hi:i<l.length) (o j:Nat) x,(enc t o l[i])[j]?=some x->∃v,C[i*aE t+j]?=some v/\v.oneCell'=true/\∀(w':World) (B':Nat) (aD:bK) (D:aa Nat),RV w' B' aD D x v
def RV.reads{q:aa Nat}{t:TC}{g:Nat}{qn:Bool}{l:aa (T t)}{u:Value}(h:RV w B aj q (.sl t g qn l) u)(Y:full t=0):
  ∃A c news,u = .slice A l.length c/\Reads w w.heap.size (aE t) A l.length news/\(∀v∈news,v.oneCell'=true)/\xm t l news:=by
 cases h with
 |eI=>exact⟨none,0,[],rfl,Reads.none_,by simp,λi hi=>by simp at hi⟩
 |fN=>exact⟨_,_,[],rfl,⟨by simp,λh=>by simp at h⟩,by simp,λi hi=>by simp at hi⟩
 |fW=>exact⟨_,_,[],rfl,⟨by simp,λh=>by simp at h⟩,by simp,λi hi=>by simp at hi⟩
 | aF _ _ _ _ _ b off cap us ho hl hb h1 jA hc O=>
  have U:∀ i (hi:i<l.length) j,j<aE t -> (us i j).oneCell'=true:=by
   intro i hi j C;obtain⟨y,L⟩:=BP t g l[i] j C;exact(O i hi j y L).one
  refine⟨_,cap,xl us l.length (aE t),rfl,⟨by simp[xl],λhn=>⟨b,off,rfl,hb,λk v E=>?_⟩⟩,λv E=>?_,λi hi o j x D=>?_⟩
  ·obtain⟨i,j,rfl,hi,C,rfl⟩:=OL us _ _ k v (oY t) E;obtain⟨y,L⟩:=BP t g l[i] j C;exact hc i hi j y L
  ·obtain⟨k,Z⟩:=List.mem_iff_getElem?.1 E;obtain⟨i,j,rfl,hi,C,rfl⟩:=OL us _ _ k v (oY t) Z;exact U i hi j C
  ·have C:j<aE t:=by have:=(dV.1 D).1;rwa [kP]at this
   rw[EF t Y o g]at D
   refine⟨us i j,adm us _ _ i j hi C,U i hi j C,λw' B' aD q'=>(O i hi j x D).tw (zg t g l[i] Y x (hU D))⟩
 | own _ _ o _ _ b cap cs us hl hh hs hn hm hc O=>
  have U:∀ i (hi:i<l.length) j,j<aE t -> (us i j).oneCell'=true:=by
   intro i hi j C;obtain⟨y,L⟩:=BP t o l[i] j C;exact(O i hi j y L).one
  refine⟨_,cap,xl us l.length (aE t),rfl,⟨by simp[xl],λhn=>⟨b,0,rfl,(iW.1 hh).1,λk v E=>?_⟩⟩,λv E=>?_,λi hi o' j x D=>?_⟩
  ·obtain⟨i,j,rfl,hi,C,rfl⟩:=OL us _ _ k v (oY t) E;obtain⟨y,L⟩:=BP t o l[i] j C;rw[fD,cell_of_row w b _ cs _ _ hh];simp_all
  ·obtain⟨k,Z⟩:=List.mem_iff_getElem?.1 E;obtain⟨i,j,rfl,hi,C,rfl⟩:=OL us _ _ k v (oY t) Z;exact U i hi j C
  ·have C:j<aE t:=by have:=(dV.1 D).1;rwa [kP]at this
   rw[EF t Y o' o]at D
   refine⟨us i j,adm us _ _ i j hi C,U i hi j C,λw' B' aD q'=>(O i hi j x D).tw (zg t o l[i] Y x (hU D))⟩
def RV.adn{q:aa Nat}{t:TC}{o:Nat}{D:Bool}{l:aa (T t)}{u:Value}(h:RV w B aj q (.sl t (o+2) D l) u)(E:full t=0){B':Nat}(hB:∀ b,aj b=some q -> B' <= b):
  ∃xs,w.ownsRow B' (tid t) (aE t) u l.length xs/\(∀b,u.ownBlock=some b -> aj b=some q)/\(D=true -> u.ownBlock≠none)/\xm t l xs:=by
 cases h with
 |fN=>omega
 |fW=>omega
 |eI=>exact⟨[],⟨by simp,.inl ⟨rfl,rfl⟩⟩,by simp[Value.ownBlock],by simp,λi hi=>by simp at hi⟩
 |aF _ _ _ _ _ _ _ _ _ ho=>omega
 | own _ _ _ _ _ b cap cs us hl O U Y Z hc L=>
  refine⟨cs.toList.take _,⟨?_,.inr ⟨b,cap,cs,rfl,hB b hl,O,Y,Z.1,U,rfl⟩⟩,λb' BQ=>?_,λ_=>by simp[Value.ownBlock],λi hi o' j x C=>?_⟩
  ·simp_all
  ·have:b=b':=by simpa [Value.ownBlock]using BQ
   simp_all
  ·have hj:j<aE t:=by have:=(dV.1 C).1;rwa [kP]at this
   have dI:i*aE t+j<l.length*aE t:=by
    have:(i+1)*aE t <= l.length*aE t:=iX _ hi;rw[iN]at this;omega
   rw[EF t E o' o]at C
   refine⟨us i j,?_,(L i hi j x C).one,λw' B' aD q'=>(L i hi j x C).tw (zg t o l[i] E x (hU C))⟩
   grind
def xm.append{t:TC}{l l2:aa (T t)}{xs ys:aa Value}(h:xm t l xs)(E:xm t l2 ys)(hl:xs.length=l.length*aE t):xm t (l++l2) (xs++ys):=by
 intro i hi o j x C;by_cases D:i<l.length
 ·rw[List.getElem_append_left D]at C;obtain⟨v,L,r⟩:=h i D o j x C
  grind
 ·rw[List.getElem_append_right (by omega)]at C;have O:i-l.length<l2.length:=by rw[List.length_append]at hi;omega
  obtain⟨v,L,r⟩:=E _ O o j x C;refine⟨v,?_,r⟩;have e:i*aE t+j=xs.length+((i-l.length)*aE t+j):=by
   rw[hl,Nat.sub_mul];have:l.length*aE t <= i*aE t:=iX _ (by omega);omega
  grind
def Wb{q:aa Nat}{t:TC}{o:Nat}{l:aa (T t)}{u:Value}{xs:aa Value}{B':Nat}(h:w.ownsRow B' (tid t) (aE t) u l.length xs)(D:xm t l xs)(hl:∀ b,u.ownBlock=some b -> aj b=some q):
  RV w B aj q (.sl t (o+2) false l) u:=by
 rcases h.2 with ⟨rfl,E⟩|⟨b,cap,cs,rfl,hB,L,O,U,Y,ht⟩
 ·have:=List.eq_nil_of_length_eq_zero E;subst this;exact .eI _ _ _
 ·have qc:∀ i _ j x,(enc t o l[i])[j]?=some x -> ∃ v,cs[i*aE t+j]?=some v /\ ∀ w' B' aD Z,RV w' B' aD Z x v:=by
   intro i hi j x C;obtain⟨v,hv,_,r⟩:=D i hi o j x C
   grind
  refine .own q t o false l b cap cs (λi j=>(cs[i*aE t+j]?).getD undef) (hl b rfl) L Y O ⟨U,λh=>by cases h⟩ (λi hi j x C=>?_) (λi hi j x C=>?_)
  ·grind
  ·grind
def Rl.append{t e ty:TypeId}{C:TC}{i:TypeInfo}{z:Value}{rr o g:Nat}{q qn:Bool}{l l2:aa (T C)}{u v:Value}{q':aa Nat}{Bx:Nat}{Wc:bK}(h:Rl w0 N aj ρ σ a w)(hF:w0.F rr=none)(gv:P.underlying t=some (.slice e))(ht:tid C=e)(hi:P.info? e=some i)(hz:i.zero=some z)
  (iL:i.size=aE C) (jW:i.bytes <= 65536) (nj:z.cells.size=aE C) (hf:full C=0) (hd:RV w w0.heap.size aj [rr] (.sl C (o+2) q l) u) (hs:RV w Bx Wc q' (.sl C g qn l2) v) (hlen:l.length+l2.length<1073741824):
  ∃D w' aD,(Builtin.append_ #[t,t] ty #[u,v]).run P w = .ok D w'/\Rl w0 N aD (cg ρ rr (.ep D)) ((σ.drop rr).root rr (.sl (.sl C (o+2) false (l++l2)))) a w'/\nG D=true:=by
 subst ht;obtain⟨xs,zq,Y,Ig,iR⟩:=hd.adn hf (B':=0) (λb _=>Nat.zero_le b);obtain⟨A,c,news,rfl,q6,mc,Ih⟩:=hs.reads hf;have gZ:(l.length+l2.length)*i.bytes <= 140737488355328:=by
  have h1:(l.length+l2.length)*i.bytes <= 1073741824*65536:=Nat.mul_le_mul (by omega) jW;omega
 obtain⟨D,w',dP,O,L,lH⟩:=VA (P:=P) w 0 t ty (tid C) i z (aE C) i.bytes gv hi hz iL rfl nj (oY C) u l.length xs zq _ A l2.length c news q6 mc (by unfold maxLen;omega) gZ (Nat.zero_le _);have Ii:(l++l2).length=l.length+l2.length:=List.length_append;rw[<- Ii]at O;have BR:=iR.append Ih zq.1;have gu:nG D=true:=by rcases O.2 with ⟨rfl,_⟩|⟨_,_,_,rfl,_⟩<;>rfl
 have Z:Below 0 w w':=(Below.refl 0 w).grown L (Nat.zero_le _) (λ_ _=>Nat.zero_le _);have su:js w0 w w':=⟨Z.os,Z.tape,Z.output,Z.size,λk E hL=>L.block k (Nat.lt_of_lt_of_le E h.below.size) (λU=>by
  rcases(h.dw k _ (Y k U.symm)).1 with h1|h1
  ·exact absurd E (Nat.not_lt.2 h1)
  ·exact h1 hL)⟩
 by_cases Ij:D.ownBlock=some w.heap.size
 ·have dI:w.heap.size<w'.heap.size:=by
   rcases O.2 with ⟨rfl,_⟩|⟨b,cap,cs,rfl,_,hh,_⟩
   ·cases Ij
   ·have:b=w.heap.size:=by simpa [Value.ownBlock]using Ij
    grind
  refine⟨D,w',cg aj w.heap.size (some [rr]),dP,h.zn hF su ⟨L.size,λb hb dy=>L.block b hb (λU=>dy (Y b U.symm)),λb hb=>cR _ _ _ (by omega),λb hb=>(h.dw b [] hb).2.2 rfl⟩ (λb k hb E=>?_) (λr hr=>cR _ _ _ hr) (.sl D _ (cv _ _ _) (Wb O BR (λb hb=>?_))),gu⟩
  ·by_cases e:b=w.heap.size
   ·subst e;rw[cv]at E
    grind
   ·rw[cR _ _ _ e]at E;have:=(h.dw b k E).2.1;omega
  ·rw[Ij]at hb;injection hb with hb;subst hb;exact cv _ _ _
 ·have We:D.ownBlock=u.ownBlock:=by
   rcases lH with lH|lH
   ·exact lH
   ·exact absurd lH Ij
  refine⟨D,w',aj,dP,h.zn hF su ⟨L.size,λb hb dy=>L.block b hb (λU=>dy (Y b U.symm)),λ_ _=>rfl,λb hb=>(h.dw b [] hb).2.2 rfl⟩ (λb k hb E=>?_) (λr hr=>cR _ _ _ hr) (.sl D _ (cv _ _ _) (Wb O BR (λb hb=>Y b (by rw[<- We];exact hb)))),gu⟩
  have:=(h.dw b k E).2.1;omega
def Wf{t:TC}{x:V}{l:aa (T t)}(h:x.OI t=some l){q:aa Nat}{u:Value}(C:RV w B aj q x u):∃ g D,RV w B aj q (.sl t g D l) u:=by
 unfold V.OI at h;split at h
 ·grind
 ·injection h with h;subst h;cases C;exact⟨0,false,.eI _ _ _⟩
 ·cases h
def Wg{x:Lf}{k:V -> ah X}(h:pg σ x k=some r):∃ y,(∀ aj ρ a w,Rl w0 N aj ρ σ a w -> ∀ u,dZ w w0.heap.size aj ρ x u -> ∃ q,RV w w0.heap.size aj q y u)/\k y=some r:=by
 cases x with
 |v z=>exact⟨z,λaj ρ a w _ u C=>⟨[],C.2⟩,h⟩
 |dead=>cases h
 | own q=>
  obtain⟨z,D,h⟩:=sn q _ h
  refine⟨z,λaj ρ a w hR u C=>?_,h⟩
  obtain⟨v,E,L⟩:=D.ok hR.root;have O:=C.2
  grind
def ado{y:A}{k:V -> ah X}(h:sq σ y k=some r):∃ z,(∀ aj ρ a w,Rl w0 N aj ρ σ a w -> ∀ u,RA w w0.heap.size aj ρ y u -> ∃ q B' aD,RV w B' aD q z u)/\k z=some r:=by
 unfold sq at h;split at h
 ·obtain⟨z,C,D⟩:=Wg h;exact⟨z,λaj ρ a w hR u E=>let ⟨q,L⟩:=C aj ρ a w hR u E;⟨q,_,_,L⟩,D⟩
 ·obtain⟨z,D,_,C⟩:=ac7 h;exact⟨z,λaj ρ a w hR u E=>⟨[],0,_,C _ _ _ _ _ _ hR u E 0⟩,D⟩
 ·cases h
def apU{t ty:TypeId}{x y:A}{k:S -> ah X}(h:tD P N σ d t x y k=some r):∃ dn,k dn=some r /\ ∀ aj ρ a w,Rl w0 N aj ρ σ a w -> ∀ u v,RA w w0.heap.size aj ρ x u -> RA w w0.heap.size aj ρ y v ->
  ∃w' aD ρ' z,(Builtin.append_ #[t,t] ty #[u,v]).run P w = .ok z w'/\Rl w0 N aD ρ' dn (a.put (some d) z) w':=by
 unfold tD at h;split at h
 ·rename_i e tc pz;obtain⟨gv,ht,i,hi,iL,jW⟩:=zp pz;cases T:(Nat.beq (full tc) 0&&(zeroOf P e).any (λz=>Nat.beq z.cells.size (aE tc)))with
  |false=>grind
  | true=>
   rw[T,au]at h;rw[aU]at T;have hf:=cK T.1;obtain⟨z,hz,U⟩:=(Option.any_eq_true _ _).1 T.2;have U:=cK U;have pE:i.zero=some z:=by unfold zeroOf at hz;simpa [hi]using hz
   obtain⟨yv,OM,C⟩:=ado (w0:=w0) (N:=N) h;clear h;split at C
   ·cases C
   ·rename_i l2 lG;split at C
    ·cases D:bM l2.length with
     |false=>grind
     | true=>
      rw[D,au]at C;have D:l2.length<1073741824:=by simpa [bM]using D
      obtain⟨Y,h3⟩:=pq C
      refine⟨_,h3,λaj ρ a w hR u v O Z=>?_⟩
      have O:u = .slice none 0 0:=by cases O.2;rfl
      subst O;obtain⟨q',_,_,E⟩:=OM aj ρ a w hR v Z;obtain⟨g,qn,E⟩:=Wf lG E;obtain⟨v',w',aD,dP,dJ,gu⟩:=hR.append (ty:=ty) (rr:=d) (o:=0) (q:=false) (l:=[]) (hR.dH d (.inl Y)) gv ht hi pE iL jW U hf (.eI _ _ _) E (by simpa using D);exact⟨w',aD,_,v',dP,dJ.set ⟨gu,by simp[di,cv]⟩ Y⟩
    ·rename_i rr;split at C
     ·rename_i t' o q l hm;split at C
      ·rename_i nL;subst nL;cases D:(Nat.blt d N&&(Nat.blt rr N || Nat.ble 60000 rr)&&bM (l.length+l2.length))with
       |false=>grind
       | true=>
        rw[D,au]at C;rw[aU,aU,eG]at D;have Ik:l.length+l2.length<1073741824:=by simpa [bM]using D.2
        have Y:d<N:=by have:=cZ D.1.1;omega
        have nJ:rr<N \/ 60000 <= rr:=D.1.2.imp (λh=>by have:=cZ h;omega) (λh=>cZ h)
        refine⟨_,C,λaj ρ a w hR u v O Z=>?_⟩
        obtain⟨q',_,_,E⟩:=OM aj ρ a w hR v Z;obtain⟨g,qn,E⟩:=Wf lG E;have eY:=hR.root rr _ hm;generalize L:bh.sl (.sl t' (o+2) q l)=x at eY;cases eY with
        |aB=>cases L
        |mp=>cases L
        |gh=>cases L
        | sl uu y cF hr=>
         injection L with L;subst L;have Ic:uu=u:=by
          have h4:=O.2;simp only[di,cF]at h4;simp_all
         subst Ic;obtain⟨v',w',aD,dP,dJ,gu⟩:=hR.append (ty:=ty) (hR.dH rr nJ) gv ht hi pE iL jW U hf hr E Ik;exact⟨w',aD,_,v',dP,dJ.set ⟨gu,by simp[di,cv]⟩ Y⟩
      ·cases C
     ·cases C
    ·cases C
 ·cases h
def Rl.adp{t:TC}{g p:Nat}{qn:Bool}{l ys:aa (T t)}{news:aa Value}(h:Rl w0 N aj ρ σ a w)(hm:σ.m q=some (.sl (.sl t (g+2) qn l)))(hf:full t=0)(hp:p+ys.length <= l.length)(oe:0<l.length)(iR:xm t ys news)(q7:news.length=ys.length*aE t):
  ∃ b cap,ρ q = .ep (.slice (some ⟨b,0,none⟩) l.length cap)/\l.length <= cap/\(∀ n,n<news.length -> (w.cell? ⟨b,p*aE t+n,none⟩).isSome=true/\w.frozen? ⟨b,p*aE t+n,none⟩=false) /\
   Rl w0 N aj ρ ⟨σ.t,cg σ.m q (some (.sl (.sl t (g+2) qn (splice l p ys))))⟩ a (w.setCells b (p*aE t) news):=by
 have eY:=h.root q _ hm;generalize U:bh.sl (.sl t (g+2) qn l)=x at eY;cases eY with
 |aB=>cases U
 |mp=>cases U
 |gh=>cases U
 | sl v y cF iS=>
  injection U with U;subst U;cases iS with
  |eI=>exact absurd oe (Nat.lt_irrefl 0)
  |fN=>exact absurd oe (Nat.lt_irrefl 0)
  |fW=>exact absurd oe (Nat.lt_irrefl 0)
  |aF _ _ _ _ _ _ _ _ _ ho=>omega
  | own _ _ _ _ _ b cap cs u qd hh hs hn sk hc hr=>
   have BH:(p+ys.length)*aE t <= cap*aE t:=iX _ (by omega);rw[Nat.add_mul]at BH;have lY:p*aE t+news.length <= cs.size:=by rw[q7,hs];exact BH
   have hW:=Oy w b (p*aE t) news;obtain⟨L,gZ,qa⟩:=HN b (tid t) news (p*aE t) w cs hh lY;have tA:∀ n,L[n]?=if n<p*aE t then cs[n]? else if n<p*aE t+news.length then news[n-p*aE t]? else cs[n]?:=by
    intro n;have e2:L[n]?=(splice cs.toList (p*aE t) news)[n]?:=by
     rw[show L[n]?=L.toList[n]? by simp,qa];rfl
    rw[e2,xe _ _ _ (by simpa using lY)];simp
   have HW:L.size=cs.size:=by
    rw[<- lS,qa];have:=tu cs.toList (p*aE t) news (by simpa using lY);simp only[splice]at this;simp_all
   have tE:=oY t;have hC:qV w (w.setCells b (p*aE t) news) aj ρ:=by
    intro k ad v ha E gu;by_cases dy:ad.block=b
    ·obtain⟨D,C,s',q',rfl,BF,apD,vA,_⟩:=BE k ad ha;have o9:ad=⟨b,ad.off,none⟩:=by cases ad;simp_all
     rw[o9,cell_of_row w b _ cs _ _ hh]at E;rw[o9,cell_of_row _ b _ L _ _ gZ,tA];by_cases Y:ad.off<p*aE t
     ·rw[bI Y];exact E
     ·by_cases h2:ad.off<p*aE t+news.length
      ·exfalso;have hk:ad.off=(ad.off / aE t)*aE t+ad.off % aE t:=by rw[Nat.mul_comm];exact(Nat.div_add_mod _ _).symm
       have dI:ad.off<l.length*aE t:=by
        have:(p+ys.length)*aE t <= l.length*aE t:=iX _ hp;rw[Nat.add_mul]at this;omega
       have hi:ad.off / aE t<l.length:=Nat.div_lt_of_lt_mul (by rw[Nat.mul_comm];exact dI);obtain⟨y,hy⟩:=BP t g l[ad.off / aE t] (ad.off % aE t) (Nat.mod_lt _ tE);have h3:=hc _ hi _ y hy;rw[<- hk,E]at h3;injection h3 with h3;have:=(hr _ hi _ y hy).ac5 (zg t g _ hf y (hU hy));rw[<- h3,gu]at this;cases this
      ·rw[bU Y,bU h2];exact E
    ·exact(World.cell?_of_block (hW.block _ dy)).trans E
   have BG:di w aj ρ [q]=some (.slice (some ⟨b,0,none⟩) l.length cap):=by simp only[di,cF]
   refine⟨b,cap,cF,hn,λn qX=>⟨?_,frozen_of_row w b _ cs _ hh⟩,h.wrote hW qd hC ((zi.root q _ _ hm).ok h.root hW qd (List.suffix_refl _) hC BG ?_)⟩
   ·rw[cell_of_row w b _ cs _ _ hh];simp;omega
   ·have hlen:(splice l p ys).length=l.length:=tu l p ys hp;have key:∀ C (h:C<(splice l p ys).length) (D:Nat) x,(enc t g (splice l p ys)[C])[D]?=some x -> ∃ v,L[C*aE t+D]?=some v/\RV (w.setCells b (p*aE t) news) w0.heap.size aj (D :: C :: aE t :: [q]) x v:=by
     intro C h' D x Z;have qW:D<aE t:=by have:=(dV.1 Z).1;rwa [kP]at this
     have O:=bZ h';generalize (splice l p ys)[C]=e at O Z;rw[xe l p ys hp]at O;have vB:=zg t g e hf x (hU Z);have old:l[C]?=some e -> ∃ v,cs[C*aE t+D]?=some v/\RV (w.setCells b (p*aE t) news) w0.heap.size aj (D :: C :: aE t :: [q]) x v:=λhle=>by
      obtain⟨hi,rfl⟩:=dV.1 hle;exact⟨_,hc C hi D x Z,(hr C hi D x Z).tw vB⟩
     by_cases Y:C<p
     ·rw[bI Y]at O;have dI:(C+1)*aE t <= p*aE t:=iX _ Y;rw[iN]at dI;rw[tA,bI];exact old O
     ·rw[bU Y]at O;by_cases h2:C<p+ys.length
      ·rw[bI h2]at O;obtain⟨hi,rfl⟩:=dV.1 O;obtain⟨v,E,_,ki⟩:=iR (C-p) hi g D x Z;have aJE:(C-p)*aE t=C*aE t-p*aE t:=Nat.sub_mul _ _ _;have hle:p*aE t <= C*aE t:=iX _ (by omega);have dI:=(dV.1 E).1;refine⟨v,?_,ki _ _ _ _⟩;rw[tA,bU,bI,<- E];congr 1;omega
      ·rw[bU h2]at O;have o7:(p+ys.length)*aE t <= C*aE t:=iX _ (by omega);rw[Nat.add_mul]at o7;rw[tA,bU,bU (by rw[q7];omega)];exact old O
    rw[<- hlen]
    refine .own [q] t g qn (splice l p ys) b cap L (λC D=>(L[C*aE t+D]?).getD undef) qd gZ (HW.trans hs) (by rw[hlen];exact hn) ⟨sk.1,λh=>by rw[hlen];exact sk.2 h⟩ (λC h D x mb=>?_) (λC h D x mb=>?_)
    ·obtain⟨v,E,_⟩:=key C h D x mb;rw[E];rfl
    ·obtain⟨v,E,hr⟩:=key C h D x mb;rw[E];exact hr
def adq(b i c s:Nat):sliced (some ⟨b,0,none⟩) 0 i c s = .slice (some ⟨b,0,none⟩) i c:=by
 unfold sliced;split
 ·rfl
 ·rw[Option.map_some,Addr.add_lit];simp
def Il{X:Type}(P:Program)(N:Nat)(σ:S)(d:Nat)(t:TypeId)(x y:A)(k:S->ah X):ah X:=
 match x,y with
 | .view [q] s 0 i,.view [E] L j m=>(match vG P t with
  | some (e,C)=>bif Nat.beq E q&&Nat.beq s (aE C)&&Nat.beq L (aE C)&&Nat.beq (full C) 0&&Nat.blt d N then (match σ.m q with
   |some (.sl (.sl D (o+2) O l))=>bif Nat.beq (full D) 0&&Nat.beq (aE D) (aE C)then (if i<=j/\j<=m/\m<=l.length/\0<l.length then k ((σ.root q (.sl (.sl D (o+2) O (splice l i ((l.take m).drop j))))).set d (.view [q] s 0 (i+(m-j))))else none)else none
   |_=>none)else none
  |none=>none)
 |_,_=>none
def apV{t ty:TypeId}{x y:A}{k:S -> ah X}(h:Il P N σ d t x y k=some r):∃ dn,k dn=some r /\ ∀ aj ρ a w,Rl w0 N aj ρ σ a w -> ∀ u v,RA w w0.heap.size aj ρ x u -> RA w w0.heap.size aj ρ y v ->
  ∃w' aD ρ' z,(Builtin.append_ #[t,t] ty #[u,v]).run P w = .ok z w'/\Rl w0 N aD ρ' dn (a.put (some d) z) w':=by
 unfold Il at h;split at h
 ·rename_i q s i q' s' j m;split at h
  ·rename_i e D pz;obtain⟨gv,ht,inf,hi,O,jW⟩:=zp pz;cases hc:(Nat.beq q' q&&Nat.beq s (aE D)&&Nat.beq s' (aE D)&&Nat.beq (full D) 0&&Nat.blt d N)with
   |false=>grind
   | true=>
    rw[hc,au]at h;simp only[aU]at hc;obtain⟨⟨⟨⟨c1,c2⟩,c3⟩,c4⟩,c5⟩:=hc;obtain rfl:=cK c1;obtain rfl:=cK c2;obtain rfl:=cK c3;have hd:d<N:=by have:=cZ c5;omega
    split at h
    ·rename_i T g qn l hm;cases U:(Nat.beq (full T) 0&&Nat.beq (aE T) (aE D))with
     |false=>grind
     | true=>
      rw[U,au]at h;rw[aU]at U;have hf:=cK U.1;have Y:=cK U.2;split at h
      ·rename_i hb;obtain⟨b1,b2,b3,b4⟩:=hb
       refine⟨_,h,λaj ρ a w hR u v hu hv=>?_⟩
       obtain⟨A,n,c,hva,a1,a2,rfl⟩:=hu;obtain⟨A',n',c',Z,a1',a2',rfl⟩:=hv;rw[hva]at Z;injection Z with Z;injection Z with C e2 e3;subst C e2 e3
       -- what is moved
       have eY:=hR.root q' _ hm;generalize E:bh.sl (.sl T (g+2) qn l)=x at eY;cases eY with
       |aB=>cases E
       |mp=>cases E
       |gh=>cases E
       | sl BS y cF iS=>
        injection E with E;subst E;have ON:BS = .slice A n c:=by
         simp only[di,cF]at hva;simp_all
        subst ON;have OO:RV w 0 (λ_=>none) [] (.sl T 0 qn l) (.slice A n c):=iS.gH;have hn:n=l.length:=by cases OO<;>rfl
        obtain⟨hp,EG,BU⟩:=OO.part (a:=j) (h:=m) (by omega) b2 (by omega);obtain⟨A2,c2,news,gu,q6,mc,iR⟩:=hp.reads hf;have hlen:((l.take m).drop j).length=m-j:=by rw[List.length_drop,fT];omega
        obtain⟨b,cap,g9,jA,jD,dJ⟩:=hR.adp hm hf (p:=i) (ys:=(l.take m).drop j) (news:=news) (by rw[hlen];omega) b4 iR (by rw[hlen];exact hlen ▸ q6.1);rw[cF]at g9;injection g9 with g9;injection g9 with C e2 e3;subst C e2 e3;rw[hlen]at gu;have BV:sliced (some ⟨b,0,none⟩) 0 i c (aE D) = .slice (some ⟨b,0,none⟩) i c:=adq b i c _;obtain⟨ad,BS⟩:∃ ad,sliced (some ⟨b,0,none⟩) j m c (aE D) = .slice (some ad) (m-j) (c-j):=by
         unfold sliced;by_cases hcj:c=j
         ·grind
         ·grind
        have Wh:A2=some ad:=by
         grind
        subst Wh;have q7:news.length=(m-j)*inf.size:=by rw[q6.1,hlen,O,Y]
        have dP:=run_append_room_cells (P:=P) w t ty e inf gv hi b 0 i c ad (m-j) (c-j) news q7 (λk u L=>by
         have pF:=(dV.1 L).1;have tE:0<((l.take m).drop j).length:=by
          rcases Nat.eq_zero_or_pos ((l.take m).drop j).length with h0|h0
          ·grind
          ·exact h0
         obtain⟨b',H8,C,_,vH⟩:=q6.2 tE;injection C with C;subst C;rw[Addr.add_lit];exact vH k u L) mc (by omega) (λk L=>by rw[fD,O,<- Y];exact(jD k L).1) (λk L=>by rw[fD,O,<- Y];exact(jD k L).2)
        refine⟨_,aj,ρ,_,by rw[BV,BS];exact dP,?_⟩;rw[fD,O,<- Y];exact dJ.set ⟨some ⟨b,0,none⟩,l.length,c,by simp only[di,cF],Nat.zero_le _,by omega,(adq b _ c _).symm⟩ hd
      ·cases h
    ·cases h
  ·cases h
 ·cases h
def apW{t:TypeId}{x y:A}:cP λX k=>Il (X:=X) P N σ d t x y k:=λX Y k g=>by
 unfold Il
 repeat' first|rfl|refine dz ?_ ?_|split
def Im{X:Type}(P:Program)(σ:S)(t:TypeId)(x:A)(k:S->ah X):ah X:=
 match x with
 | .view [q] s i j=>(match vG P t with
  | some (e,C)=>(match OH P e C with
   | some z=>(match σ.m q with
    |some (.sl (.sl D (o+2) E l))=>if h:C=D then (bif Nat.beq s (aE C)&&Nat.beq (full C) 0 then (if i<=j/\j<=l.length then k (σ.root q (.sl (.sl D (o+2) E (splice l i (List.replicate (j-i) (h ▸ z))))))else none)else none)else none
    |_=>none)
   |none=>none)
  |none=>none)
 |_=>none
def apX{t ty:TypeId}{x:A}{k:S->ah X}(h:Im P σ t x k=some r):∃ dn,k dn=some r/\∀ aj ρ a w,Rl w0 N aj ρ σ a w->∀ u,RA w w0.heap.size aj ρ x u->
  ∃w',(Builtin.clear_ #[t] ty #[u]).run P w = .ok (.tuple #[]) w'/\Rl w0 N aj ρ dn a w':=by
 unfold Im at h;split at h
 ·rename_i q s i j;split at h
  ·rename_i e C pz;obtain⟨gv,ht,inf,hi,iL,jW⟩:=zp pz;split at h
   ·rename_i z U;split at h
    ·rename_i t' g qn l hm;split at h
     ·rename_i nL;subst nL;cases Y:(Nat.beq s (aE C)&&Nat.beq (full C) 0)with
      |false=>rw[Y]at h;cases h
      | true=>
       rw[Y,au]at h;rw[aU]at Y;obtain rfl:=cK Y.1;have hf:=cK Y.2;split at h
       ·rename_i hb
        refine⟨_,h,λaj ρ a w hR u hu=>?_⟩
        obtain⟨A,n,c,Z,a1,a2,rfl⟩:=hu;unfold OH at U;split at U
        ·cases U
        ·rename_i D EE;split at U
         ·cases U
         ·rename_i vs kj;have pE:inf.zero=some D:=by unfold zeroOf at EE;simpa [hi]using EE
          obtain⟨q5,lG⟩:=V9 _ _ kj;have E:=mJ C (full C) vs z U;have nj:D.cells.size=aE C:=by rw[<-kP C (full C) z,<-E.1,q5];simp
          have hzr:∀w:World,(zeroValue e).run P w = .ok D w:=λw=>by simp[zeroValue,typeInfo,hi,pE]
          rcases Nat.eq_zero_or_pos (j-i)with h0|h0
          ·have vA:splice l i (List.replicate (j-i) z)=l:=by rw[h0];simp[splice]
           refine⟨w,?_,?_⟩
           ·unfold sliced;rw[h0];cases (if c=i then A else A.map (·.add (i*aE C)))<;>simp[Builtin.clear_,ia gv]
           ·show Rl w0 N aj ρ (σ.root q (.sl (.sl C (g+2) qn (splice l i (List.replicate (j-i) z))))) a w;rw[vA];have:σ.root q (.sl (.sl C (g+2) qn l))=σ:=by
             unfold S.root;have:cg σ.m q (some (.sl (.sl C (g+2) qn l)))=σ.m:=by
              funext k;by_cases E:k=q
              ·subst E;rw[cv,hm]
              ·rw[cR _ _ _ E]
             rw[this]
            rw[this];exact hR
          ·have pG:(Builtin.zeroCells D.cells (j-i))=madeCells D.cells ((j-i)*D.cells.size):=rfl;have iR:xm C (List.replicate (j-i) z) (Builtin.zeroCells D.cells (j-i)).toList:=by
            intro i' h' o' L x O;rw[List.getElem_replicate]at O;have hj:L<aE C:=by have:=(dV.1 O).1;rwa [kP]at this
            rw[List.length_replicate]at h';have qW:=hj;rw[<-nj]at qW;have jD:(Builtin.zeroCells D.cells (j-i)).toList[i'*aE C+L]?=some D.cells[L]:=by
             rw[pG,Array.getElem?_toList,<-nj];exact adl D.cells _ i' L qW (by
              have:(i'+1)*D.cells.size<=(j-i)*D.cells.size:=iX _ (by omega);rw[iN]at this;omega)
            rw[EF C hf o' (full C)]at O;have Io:L<(enc C (full C) z).length:=(dV.1 O).1;rw[<-E.1]at Io;have hy:=bZ Io;generalize vs[L]=y at hy;obtain⟨v,hv,Wa⟩:=lG L y hy;have T:D.cells[L]=v:=by
             have e1:D.cells.toList[L]?=some D.cells[L]:=by simp[qW]
             rw[e1]at hv;injection hv
            have ki:∀(w':World) (B':Nat) (aD:bK) (q':aa Nat),RV w' B' aD q' x v:=λw' B' aD q'=>(adj Wa _).wk (E.2 L y x hy O)
            exact⟨_,jD,by rw[T];exact(ki w 0 (λ_=>none) []).one,λw' B' aD q'=>by rw[T];exact ki _ _ _ _⟩
           have q7:(Builtin.zeroCells D.cells (j-i)).toList.length=(List.replicate (j-i) z).length*aE C:=by rw[pG,List.length_replicate,lS,size_madeCells,nj]
           obtain⟨b,cap,cF,jA,jD,dJ⟩:=hR.adp hm hf (p:=i) (ys:=List.replicate (j-i) z) (by rw[List.length_replicate];omega) (by omega) iR q7;simp only[di,cF]at Z;injection Z with Z;injection Z with e1 e2 e3;subst e1 e2 e3;refine⟨_,?_,dJ⟩;have gu:sliced (some ⟨b,0,none⟩) i j cap (aE C) = .slice (some ⟨b,i*aE C,none⟩) (j-i) (cap-i):=by
            unfold sliced;rw[bU,Option.map_some,Addr.add_lit,fD]
           have ko:=run_storeCells_cells (P:=P) b (i*aE C) (Builtin.zeroCells D.cells (j-i)).toList 0 w (λk E=>(jD k E).1) (λk E=>(jD k E).2) (λv hv=>by
            obtain⟨k,E⟩:=List.mem_iff_getElem?.1 hv;have pF:=(dV.1 E).1;rw[q7,List.length_replicate]at pF;have tE:=oY C;obtain⟨x,O⟩:=BP C 0 z (k % aE C) (Nat.mod_lt _ tE);have dI:k / aE C<(List.replicate (j-i) z).length:=by rw[List.length_replicate];exact Nat.div_lt_of_lt_mul (by rw[Nat.mul_comm];exact pF)
            obtain⟨v',T,mc,_⟩:=iR (k / aE C) dI 0 (k % aE C) x (by rw[List.getElem_replicate];exact O);rw[Nat.mul_comm,Nat.div_add_mod,E]at T;injection T with T;rw[T];exact mc)
           simp only[Nat.add_zero]at ko;rw[gu];obtain⟨n',qX⟩:∃n',j-i=n'+1:=⟨j-i-1,by omega⟩
           rw[qX]at ko ⊢;simp[Builtin.clear_,ia gv,hzr,ko]
       ·cases h
     ·cases h
    ·cases h
   ·cases h
  ·cases h
 ·cases h
def apY{t:TypeId}{x:A}:cP λX k=>Im (X:=X) P σ t x k:=λX Y k g=>by
 unfold Im
 repeat' first|rfl|refine dz ?_ ?_|split
end
def zu(place:Nat->ah (Nat×Nat))(cells:aa Lf):aa (Nat×A)->ah (aa Lf)
 |[]=>some cells
 | (i,x) :: rest=>match place i,x.zk with
  |some (off,n),some xs=>if xs.length=n/\off+n<=cells.length then (bif xs.all Lf.live then zu place (splice cells off xs) rest else none)else none
  |_,_=>none
def adr(P:Program)(t:TypeId):ah (Nat->ah (Nat×Nat)):=
 match P.underlying t with
 |some (.array _ e)=>(P.info? e).map λC=>λi=>some (i*C.size,C.size)
 |some (.struct fields)=>(fields.toList.mapM (λf=>(P.info? f.type).map λi=>(f.offset,i.size))).map λps=>(ps.toArray[·]?)
 |_=>none
def EH{X:Type}(P:Program)(σ:S)(t:TypeId)(parts:aa (Nat×Operand))(k:A->ah X):ah X:=
 match zeroOf P t,adr P t with
 | some z,some pl=>match zu pl (z.cells.toList.map og) (parts.map λp=>(p.1,aL σ p.2))with
  |some cs=>k (.agg cs)
  |none=>none
 |_,_=>none
def Lf.asV:Lf->ah V
 |.v x=>some x
 |_=>none
def vI:aa Lf->ah (aa V)
 |[]=>some []
 | x :: xs=>match x.asV,vI xs with
  |some y,some ys=>some (y::ys)
  |_,_=>none
def Ip(t:TC)(g:Nat):Nat->aa V->ah (aa (T t))
 |0,[]=>some []
 |0,_=>none
 | n+1,C=>match dec t g (C.take (aE t)),Ip t g n (C.drop (aE t))with
  |some x,some xs=>some (x::xs)
  |_,_=>none
def zx{X:Type}(P:Program)(N:Nat)(σ:S)(d:Nat)(t:TypeId)(len:Nat)(parts:aa (Nat×Operand))(k:S->ah X):ah X:=
 match vG P t with
 | some (e,C)=>match zeroOf P e with
  | some z=>bif Nat.beq (full C) 0&&Nat.beq z.cells.size (aE C)&&Nat.blt (len*aE C) 16777217 then (match zu (λi=>some (i*aE C,aE C)) (List.replicate len (z.cells.toList.map og)).flatten (parts.map λp=>(p.1,aL σ p.2))with
   | some cs=>(match vI cs with
    | some D=>(match Ip C 0 len D with
     |some l=>iB N σ d (.sl (.sl C 2 true l)) (.lf (.own [d])) k
     |none=>none)
    |none=>none)
   |none=>none)else none
  |none=>none
 |none=>none
section
variable {P:Program} {w w':World} {w0:Wd} {B N:Nat} {aj aD:bK} {ρ ρ':Nat->Loc} {σ:S} {a:Act} {X:Type} {d:Nat} {r:X}
def ads(off:Nat):∀ (l:aa Value) (n:Nat) (cs:Array Value),off+n+l.length <= cs.size ->
  ((l.zipIdx n).foldl (λ(cs:Array Value) (p:Value×Nat)=>cs.setIfInBounds (off+p.2) p.1) cs).toList=splice cs.toList (off+n) l
 |[],n,cs,_=>by simp[splice]
 | v :: l,n,cs,h=>by
  simp at h;rw[List.zipIdx_cons,List.foldl_cons,ads off l (n+1) _ (by simp;omega)];have C:off+n<cs.toList.length:=by simp;omega
  simp only[splice,Array.toList_setIfInBounds,List.length_cons];have D:(cs.toList.set (off+n) v).take (off+(n+1))=cs.toList.take (off+n)++[v]:=by
   rw[show off+(n+1)=off+n+1 by omega,List.take_succ_eq_append_getElem (by simpa using C),nq,List.take_set_of_le (dQ _)]
  have E:(cs.toList.set (off+n) v).drop (off+(n+1)+l.length)=cs.toList.drop (off+(n+1)+l.length):=by
   rw[List.drop_set_of_lt (by omega)]
  grind
def eO.splice{cs xs:aa Lf}{D E:Array Value}(h:eO w B aj ρ cs D)(L:eO w B aj ρ xs E){off:Nat}(O:off+xs.length <= cs.length){T:Array Value}(Y:T.toList=Proofs.YtnilicojgkhpnaaGreat.splice D.toList off E.toList):eO w B aj ρ (Proofs.YtnilicojgkhpnaaGreat.splice cs off xs) T:=by
 have Z:off+E.toList.length <= D.toList.length:=by rw[lS,lS,L.1,h.1];exact O
 refine⟨?_,λj x C=>?_⟩
 ·rw[tu _ _ _ O,<- lS,Y,tu _ _ _ Z,lS,h.1]
 ·have e:T[j]?=(Proofs.YtnilicojgkhpnaaGreat.splice D.toList off E.toList)[j]?:=by rw[<- Y,Array.getElem?_toList]
  rw[e,xe _ _ _ Z,lS,L.1];rw[xe _ _ _ O]at C;by_cases U:j<off
  ·simp[U,Array.getElem?_toList]at C ⊢;exact h.2 j x C
  ·by_cases h2:j<off+xs.length
   ·simp[U,h2,Array.getElem?_toList]at C ⊢;exact L.2 _ x C
   ·simp[U,h2,Array.getElem?_toList]at C ⊢;exact h.2 j x C
def OP{place:Nat -> ah (Nat×Nat)}:∀ (parts:aa (Nat×A)) (cells:aa Lf) (C:Array Value) (D:aa (Nat×Value)) (out:aa Lf),zu place cells parts=some out -> eO w B aj ρ cells C -> D.length=parts.length ->
  (∀(j:Nat) p q,parts[j]?=some p -> D[j]?=some q -> p.1=q.1/\RA w B aj ρ p.2 q.2) -> ∃E,Instr.fill place C D=some E/\eO w B aj ρ out E
 | [],cells,C,D,out,h,hR,hl,L=>by
  have:D=[]:=List.eq_nil_of_length_eq_zero hl;subst this;injection h with h;subst h;exact⟨C,rfl,hR⟩
 | (i,x) :: rest,cells,C,D,out,h,hR,hl,L=>by
  cases D with
  |nil=>simp at hl
  | cons v D=>
   obtain⟨i',v⟩:=v;obtain⟨e,O⟩:=L 0 _ _ rfl rfl;simp only at e O;subst e;unfold zu at h;split at h
   ·rename_i off n xs Y Z;split at h
    ·rename_i hb;cases T:xs.all Lf.live with
     |false=>grind
     | true=>
      rw[T,au]at h;obtain⟨U,_⟩:=H9 Z T O;have Wi:v.cells.size=n:=by rw[U.1];exact hb.1
      have lY:¬ (off+v.cells.size > C.size):=by rw[Wi,hR.1];omega
      have apZ:(v.cells.zipIdx.foldl (λ(cs:Array Value) (p:Value×Nat)=>cs.setIfInBounds (off+p.2) p.1) C).toList=Proofs.YtnilicojgkhpnaaGreat.splice C.toList off v.cells.toList:=by
       have:=ads off v.cells.toList 0 C (by rw[lS];omega);rw[<- Array.foldl_toList,Array.toList_zipIdx];exact this
      have vA:=hR.splice U (off:=off) (by rw[hb.1];exact hb.2) apZ;obtain⟨E,vD,dJ⟩:=OP rest _ _ D out h vA (by simpa using hl) (λj p q hp' BF=>L (j+1) p q (by simpa using hp') (by simpa using BF));refine⟨E,?_,dJ⟩;have dy:(v.cells.size≠n || off+v.cells.size > C.size)=false:=by
       grind
      simp only[Instr.fill,Y];rw[bU (by rw[dy];simp)];exact vD
    ·cases h
   ·cases h
def ap0(z:Value):eO w B aj ρ (z.cells.toList.map og) z.cells:=by
 refine⟨by simp,λj x C=>?_⟩
 rw[eR]at C;cases D:z.cells.toList[j]? with
 |none=>simp_all
 | some v=>
  rw[D]at C;injection C with C;subst C;exact⟨v,by simpa using D,OJ v⟩
def ap1{t:TypeId}{parts:Array (Nat×Operand)}{k:A -> ah X}(h:EH P σ t parts.toList k=some r):∃ y,k y=some r /\ ∀ aj ρ a w,Rl w0 N aj ρ σ a w ->
  ∃v,(Instr.build t (parts.map λ(i,x)=>(i,a.eval x))).run P w = .ok v w/\RA w w0.heap.size aj ρ y v:=by
 unfold EH at h;split at h
 ·rename_i z pl E C;split at h
  ·rename_i cs gI
   refine⟨_,h,λaj ρ a w hR=>?_⟩
   obtain⟨U,Y,dJ⟩:=OP (w:=w) (B:=w0.heap.size) (aj:=aj) (ρ:=ρ) _ _ z.cells (parts.toList.map λp=>(p.1,a.eval p.2)) cs gI (ap0 z) (by simp) (λj p q D L=>by
    rw[eR]at D L;cases Z:parts.toList[j]? with
    |none=>rw[Z]at D;cases D
    | some x=>
     rw[Z]at D L;injection D with D;injection L with L;subst D L;exact⟨rfl,hR.aL x.2⟩)
   refine⟨_,run_build (P:=P) w t _ U ?_,U,rfl,dJ⟩;have Iq:(parts.map λ(i,x)=>(i,a.eval x)).toList=parts.toList.map λp=>(p.1,a.eval p.2):=by simp
   rw[Iq];unfold zeroOf at E;unfold Program.built;cases hi:P.info? t with
   |none=>simp[hi]at E
   | some i=>
    have E:i.zero=some z:=by simpa [hi]using E
    unfold adr at C;split at C
    ·rename_i n e O;cases T:P.info? e with
     |none=>simp[T]at C
     | some ie=>
      rw[T]at C;injection C with C;subst C;simp[O,E,T];exact Y
    ·rename_i fields O;cases D:fields.toList.mapM (λf=>(P.info? f.type).map λi=>(f.offset,i.size))with
     |none=>rw[D]at C;cases C
     | some ps=>
      rw[D]at C;injection C with C;subst C;simp only[O,E,D];exact Y
    ·cases C
  ·cases h
 ·cases h
def OQ:∀ (cs:aa Lf) (C:aa V),vI cs=some C->cs=C.map .v
 |[],C,h=>by injection h with h;subst h;rfl
 | x :: xs,C,h=>by
  unfold vI at h;split at h
  next y ys D E=>injection h with h;subst h;rw[OQ xs ys E,List.map_cons];cases x<;>first|(injection D with D;rw[D])|cases D
  ·cases h
def Wj(t:TC)(g:Nat):∀ (n:Nat) (C:aa V) (l:aa (T t)),Ip t g n C=some l -> l.length=n/\C.length=n*aE t /\ ∀ i (hi:i<l.length) (j:Nat) x,(enc t g l[i])[j]?=some x -> ∃ y,C[i*aE t+j]?=some y/\Wk y x
 | 0,[],l,h=>by
  injection h with h;subst h;exact⟨rfl,by simp,λi hi=>by simp at hi⟩
 |0,_::_,l,h=>by cases h
 | n+1,C,l,h=>by
  unfold Ip at h;split at h
  ·rename_i x xs L O;injection h with h;subst h;obtain⟨U,h2,h3⟩:=Wj t g n _ xs O;have D:=mJ t g _ x L;have hlen:(C.take (aE t)).length=aE t:=by rw[D.1,kP]
   have o7:aE t <= C.length:=by rw[fT]at hlen;omega
   refine⟨by simp[U],?_,λi hi j y E=>?_⟩
   ·grind
   ·cases i with
    | zero=>
     have Y:j<aE t:=by have:=(dV.1 E).1;rwa [kP]at this
     have Z:=bZ (by rw[hlen];exact Y);refine⟨_,?_,D.2 j _ y Z E⟩;simp_all
    |succ i =>grind
  ·cases h
def RV.under{k:aa Nat}{x:V}{v:Value}{n:Nat}(h:RV w B aj k x v)(E:1<k.length\/x.aF=true)(L:w.heap.size<=w'.heap.size)(hb:∀ b,b<w.heap.size->aj b≠some [n]->w'.heap[b]?=w.heap[b]?)(hl:∀ b,b<w.heap.size->aD b=aj b):RV w' B aD k x v:=
 h.map (Q:=λk D=>k=D/\1<k.length) L (λb C h=>⟨hb b C (by rw[h];simp),(hl b C).trans h⟩) (λb k D C h e=>by
  obtain⟨rfl,e⟩:=e;exact⟨hb b C (by rw[h];rintro⟨⟩;simp at e),(hl b C).trans h,λ_ _ _=>⟨rfl,by simp⟩⟩) (E.symm.imp_right λh=>⟨rfl,h⟩)
def tF(w:World)(B:Nat)(aj:bK)(n C:Nat)(t:TC)(o:Nat)(l:aa (T t))(D:aa Value):Prop:=
 ∀i (hi:i<l.length) j x,(enc t o l[i])[j]?=some x->∃v,D[i*aE t+j]?=some v/\RV w B aj (j::(C+i)::aE t::[n]) x v
def RV.ap2{n:Nat}{t:TC}{o:Nat}{C:Bool}{l:aa (T t)}{u:Value}(h:RV w B aj [n] (.sl t (o+2) C l) u){B':Nat}(hB:∀ b,aj b=some [n] -> B' <= b):
  ∃xs,w.ownsRow B' (tid t) (aE t) u l.length xs/\(∀b,u.ownBlock=some b -> aj b=some [n])/\(C=true -> u.ownBlock≠none)/\tF w B aj n 0 t o l xs:=by
 cases h with
 |fN=>omega
 |fW=>omega
 |eI=>exact⟨[],⟨by simp,.inl ⟨rfl,rfl⟩⟩,by simp[Value.ownBlock],by simp,λi hi=>by simp at hi⟩
 |aF _ _ _ _ _ _ _ _ _ ho=>omega
 | own _ _ _ _ _ b cap cs us hl D E L O hc hr=>
  refine⟨cs.toList.take _,⟨?_,.inr ⟨b,cap,cs,rfl,hB b hl,D,L,O.1,E,rfl⟩⟩,λU Y=>?_,λ_=>by simp[Value.ownBlock],λi hi j x Z=>?_⟩
  ·simp_all
  ·have:b=U:=by simpa [Value.ownBlock]using Y
   simp_all
  ·have hj:j<aE t:=by have:=(dV.1 Z).1;rwa [kP]at this
   have dI:i*aE t+j<l.length*aE t:=by
    have:(i+1)*aE t <= l.length*aE t:=iX _ hi;rw[iN]at this;omega
   grind
def tF.append{n:Nat}{t:TC}{o:Nat}{l l2:aa (T t)}{xs ys:aa Value}(h:tF w B aj n 0 t o l xs)(E:tF w B aj n l.length t o l2 ys)(hl:xs.length=l.length*aE t):tF w B aj n 0 t o (l++l2) (xs++ys):=by
 intro i hi j x C;by_cases D:i<l.length
 ·rw[List.getElem_append_left D]at C;obtain⟨v,L,r⟩:=h i D j x C
  grind
 ·rw[List.getElem_append_right (by omega)]at C;have O:i-l.length<l2.length:=by rw[List.length_append]at hi;omega
  obtain⟨v,L,r⟩:=E _ O j x C;refine⟨v,?_,?_⟩
  ·have e:i*aE t+j=xs.length+((i-l.length)*aE t+j):=by
    rw[ Nat.sub_mul];have:l.length*aE t <= i*aE t:=iX _ (by omega);omega
   grind
  ·grind
def tF.under{n C:Nat}{t:TC}{o:Nat}{l:aa (T t)}{D:aa Value}(h:tF w B aj n C t o l D)(E:w.heap.size<=w'.heap.size)(hb:∀ b,b<w.heap.size->aj b≠some [n]->w'.heap[b]?=w.heap[b]?)(hl:∀ b,b<w.heap.size->aD b=aj b):tF w' B aD n C t o l D:=
 λi hi j x L=>let ⟨v,O,r⟩:=h i hi j x L;⟨v,O,r.under (.inl (by simp)) E hb hl⟩
def adt{n:Nat}{t:TC}{o:Nat}{l:aa (T t)}{u:Value}{xs:aa Value}{B':Nat}(h:w.ownsRow B' (tid t) (aE t) u l.length xs)(D:tF w B aj n 0 t o l xs)(hl:∀ b,u.ownBlock=some b -> aj b=some [n]):
  RV w B aj [n] (.sl t (o+2) false l) u:=by
 rcases h.2 with ⟨rfl,E⟩|⟨b,cap,cs,rfl,hB,L,O,U,Y,Z⟩
 ·have:=List.eq_nil_of_length_eq_zero E;subst this;exact .eI _ _ _
 ·have qc:∀ i _ j x,(enc t o l[i])[j]?=some x -> ∃ v,cs[i*aE t+j]?=some v/\RV w B aj (j :: i :: aE t :: [n]) x v:=by
   intro i hi j x C;obtain⟨v,hv,r⟩:=D i hi j x C
   grind
  refine .own [n] t o false l b cap cs (λi j=>(cs[i*aE t+j]?).getD undef) (hl b rfl) L Y O ⟨U,λh=>by cases h⟩ (λi hi j x C=>?_) (λi hi j x C=>?_)
  ·grind
  ·grind
def Rl.ap3{t e ty:TypeId}{C:TC}{i:TypeInfo}{z:Value}{rr o m c:Nat}{q:Bool}{l l2:aa (T C)}{u:Value}{ad:ah Addr}{news:aa Value}(h:Rl w0 N aj ρ σ a w)(hF:w0.F rr=none)(gv:P.underlying t=some (.slice e))(ht:tid C=e)(hi:P.info? e=some i)(hz:i.zero=some z)
  (iL:i.size=aE C) (jW:i.bytes <= 65536) (nj:z.cells.size=aE C) (hd:RV w w0.heap.size aj [rr] (.sl C (o+2) q l) u) (q6:Reads w w.heap.size (aE C) ad m news) (mc:∀v∈news,v.oneCell'=true) (hm:m=l2.length)
  (Ih:tF w w0.heap.size aj rr l.length C o l2 news) (hlen:l.length+l2.length<1073741824):
  ∃D w' aD,(Builtin.append_ #[t,t] ty #[u,.slice ad m c]).run P w = .ok D w'/\Rl w0 N aD (cg ρ rr (.ep D)) ((σ.drop rr).root rr (.sl (.sl C (o+2) false (l++l2)))) a w'/\nG D=true:=by
 subst ht hm;obtain⟨xs,zq,OR,Ig,iR⟩:=hd.ap2 (B':=0) (λb _=>Nat.zero_le b);have gZ:(l.length+l2.length)*i.bytes <= 140737488355328:=by
  have h1:(l.length+l2.length)*i.bytes <= 1073741824*65536:=Nat.mul_le_mul (by omega) jW;omega
 obtain⟨D,w',dP,O,L,lH⟩:=VA (P:=P) w 0 t ty (tid C) i z (aE C) i.bytes gv hi hz iL rfl nj (oY C) u l.length xs zq _ ad l2.length c news q6 mc (by unfold maxLen;omega) gZ (Nat.zero_le _);have Ii:(l++l2).length=l.length+l2.length:=List.length_append;rw[<- Ii]at O;have BR:=iR.append Ih zq.1;have gu:nG D=true:=by rcases O.2 with ⟨rfl,_⟩|⟨_,_,_,rfl,_⟩<;>rfl
 have U:Below 0 w w':=(Below.refl 0 w).grown L (Nat.zero_le _) (λ_ _=>Nat.zero_le _);have su:js w0 w w':=⟨U.os,U.tape,U.output,U.size,λk E hL=>L.block k (Nat.lt_of_lt_of_le E h.below.size) (λe'=>by
  rcases(h.dw k _ (OR k e'.symm)).1 with h1|h1
  ·exact absurd E (Nat.not_lt.2 h1)
  ·exact h1 hL)⟩
 have Y:∀b,b<w.heap.size -> aj b≠some [rr] -> w'.heap[b]?=w.heap[b]?:=λb hb dy=>L.block b hb (λe'=>dy (OR b e'.symm))
 by_cases Z:D.ownBlock=some w.heap.size
 ·have dI:w.heap.size<w'.heap.size:=by
   rcases O.2 with ⟨rfl,_⟩|⟨b,cap,cs,rfl,_,hh,_⟩
   ·cases Z
   ·have:b=w.heap.size:=by simpa [Value.ownBlock]using Z
    grind
  have BW:∀b,b<w.heap.size -> cg aj w.heap.size (some [rr]) b=aj b:=λb hb=>cR _ _ _ (by omega)
  refine⟨D,w',cg aj w.heap.size (some [rr]),dP,h.zn hF su ⟨L.size,Y,BW,λb hb=>(h.dw b [] hb).2.2 rfl⟩ (λb k hb E=>?_) (λr hr=>cR _ _ _ hr) (.sl D _ (cv _ _ _) (adt O (BR.under L.size Y BW) (λb hb=>?_))),gu⟩
  ·by_cases e:b=w.heap.size
   ·subst e;rw[cv]at E
    grind
   ·rw[cR _ _ _ e]at E;have:=(h.dw b k E).2.1;omega
  ·rw[Z]at hb;injection hb with hb;subst hb;exact cv _ _ _
 ·have We:D.ownBlock=u.ownBlock:=by
   rcases lH with lH|lH
   ·exact lH
   ·exact absurd lH Z
  refine⟨D,w',aj,dP,h.zn hF su ⟨L.size,Y,λ_ _=>rfl,λb hb=>(h.dw b [] hb).2.2 rfl⟩ (λb k hb E=>?_) (λr hr=>cR _ _ _ hr) (.sl D _ (cv _ _ _) (adt O (BR.under L.size Y (λ_ _=>rfl)) (λb hb=>OR b (by rw[<- We];exact hb)))),gu⟩
  have:=(h.dw b k E).2.1;omega
end
end Go.Proofs.YtnilicojgkhpnaaGreat
