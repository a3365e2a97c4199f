/-
  Running the program over pure contents, and that it follows (part 1). Nothing here is a claim.
-/
import Derived.Test.YtpigmalhjkekiaaGreatAppend
import Derived.Test.YtpigmalhjkekiaaGreatLaws
import Derived.Handy
import Derived.Great.BuildSlice
import Derived.ArgAppend
set_option linter.unusedSimpArgs false
namespace Go.Proofs.YtpigmalhjkekiaaGreat
open Go.RowKit
set_option linter.defProp false
abbrev aa:=List
abbrev aj:=Option
abbrev ah:=Unit
def au:=@cond_true
def dQ:=@Bool.or_eq_true
def aJ:=@Bool.and_eq_true
def cN:=@Nat.eq_of_beq_eq_true
def cz:=@Nat.le_of_ble_eq_true
def gC:=@List.mem_of_getElem?
def ez:=@List.getElem?_map
def iz:=@Array.getElem?_eq_some_iff
def dB:=@Nat.le_refl
def eW:=@Nat.zero_add
def ax:=@cond_false
def bT:=@List.all_eq_true
def bz:=@congrArg
def kT:=@List.any_eq_false
theorem aV.{u}{c:Prop}{h:Decidable c}(k:c:=by omega){α:Sort u}{t e:α}:ite c t e=t:=if_pos k
def eS:=@List.length_map
def ig:=@Array.getD_eq_getD_getElem?
def lG:=@Array.length_toList
theorem aW.{u}{c:Prop}{h:Decidable c}(k:¬c:=by omega){α:Sort u}{t e:α}:ite c t e=e:=if_neg k
def jh:=@List.length_set
def dK:=@List.getElem?_eq_some_iff
def bJ:=@List.getElem?_eq_getElem
def jX:=@Nat.mul_le_mul_right
def ji:=@Nat.succ_mul
def iL:=@Nat.zero_le
def vb:=@List.eq_nil_of_length_eq_zero
def gd:=@Sem.run_bind
def l8:=@Result.andThen_ok
def gN:=@run_underlying
def cR:=@List.getElem_mem
def jj:=@Nat.ble_eq_true_of_le
def iB:=@Option.some.injEq
def nM:=@List.length_append
def jF:=@List.length_take
def kF:=@List.length_replicate
def mb:=@List.length_cons
def qO:=@List.getElem?_eq_none
def cS:=@List.getD_eq_getElem?_getD
def mU:=@Bool.or_eq_false_iff
def fB:=@Bool.not_eq_true'
def gv:=@List.mem_cons
def cJ:=@Bool.true_and
def gJ:=@List.mem_append
def gf:=@List.mem_singleton
theorem aO.{u}{c:Prop}{h:Decidable c}(k:c:=by omega){α:Sort u}{t:c->α}{e:¬c->α}:dite c t e=t k:=dif_pos k
def gi:=@List.mem_range
def lH:=@List.getElem_range
theorem aY{p:Prop}[Decidable p](k:p:=by omega):decide p=true:=decide_eq_true k
def fC:=@decide_eq_true_eq
def bL:=@Bool.not_true
def fN:=@Int.le_refl
def r4:=@Int.tmod_eq_emod_of_nonneg
theorem bh{p:Prop}[Decidable p](k:¬p:=by omega):decide p=false:=decide_eq_false k
def bE:=@Int.toNat_natCast
def dm:=@Int.natCast_zero
def fD:=@Int.eq_ofNat_of_zero_le
def gD:=@Sum.elim_inl
def mV:=@List.take_length
def iS:=@beq_self_eq_true
def iU:=@List.mem_iff_getElem
def qP:=@List.findIdx?_eq_some_iff_getElem
def eo:=@List.length_range
def oA:=@decide_eq_false_iff_not
def eG:=@beq_iff_eq
set_option linter.unusedVariables false
set_option linter.unusedSimpArgs false
structure aH where
 bI:Int
 aE:Int
 rows:Int
 aR:Int
structure aQ where
 aq:Int
 row:Int
 bW:Int
structure qQ where
 order:Int
 hash:Bool
structure aP where
 kind:Int
 aq:Int
 row:Int
 bW:Int
structure cg where
 qR:Int
 rp:Int
 jY:Int
 r5:Int
 oC:Int
 jZ:Int
 r6:Int
 r7:Int
 mW:Int
 wr:Int
 r8:Int
 r9:Int
 vc:Int
 tM:Int
 tN:Int
 xp:Int
 xs:Int
structure ep where
 open_:Bool
 row:Int
structure bM where
 aE:List ep
 aN:Int
structure bO where
 at_:Int
 cmd:aP
structure dR where
 last:List Int
 bf:List Int
structure cB where
 symbols:List Int
 pU:Bool
structure dw where
 cells:List cB
 bu:List Int
 bg:List Int
structure lI where
 bu:Int
 bg:Int
structure cX where
 rows:List Int
 counts:List Int
 fj:Int
structure dL where
 cF:Int
 map:List Int
structure eH where
 aC:List Int
 wait:Int
 dY:Bool
structure aX where
 id:Int
 dn:Int
 line:Int
 write:Bool
 data:Int
 at_:Int
structure dD where
 weight:Int
 fI:Int
structure mX where
 on:Bool
 low:Int
 high:Int
structure iC where
 state:Int
 since:Int
 idle:Int
structure wI where
 down:Int
 sleep:Int
structure cP where
 line:Int
 code:Int
 times:Int
structure tO where
 next:Int
 every:Int
 wait:Int
structure cK where
 eX:Int
 cap:Int
 di:Int
 low:Int
 high:Int
 weights:List Int
 dj:wI
structure mY where
 bX:cK
 next:cK
 waits:Bool
structure fo where
 ak:aH
 bQ:cg
 mapping:qQ
 cF:Int
 interval:Int
 ij:Int
 dS:lI
structure gj where
 id:Int
 at_:Int
 data:Int
 code:Int
structure av where
 config:fo
 box:mY
 now:Int
 aF:bM
 ready:dR
 array:dw
 spare:dL
 az:eH
 bB:List cX
 guard:List Int
 pending:List aQ
 queue:List aX
 shares:List dD
 drain:mX
 aN:iC
 eA:tO
 errors:List cP
 trace:List bO
 bA:List gj
structure jk where
 kind:Int
 request:aX
 n:Int
 J6:Int
 addr:aQ
 eO:cK
structure bx where
 b:List Int
 i:Int
 h:Int
inductive TC where
 |int|u8|bool|str
 |fO
 |Addr
 |ve
 |Command
 |jG
 |ke
 |kU
 |Event
 |oD
 |Cell
 |Array
 |wJ
 |mZ
 |sg
 |m0
 |eK
 |iM
 |tP
 |Power
 |wK
 |iV
 |vf
 |m6
 |sj
 |Config
 |nN
 |eC
 |Act
 |sk
 |sl (t:TC)
 |Fs
 |A0 (g:Nat)
 |A1 (g:Nat)
 |A3 (g:Nat)
 |fnCommand (g:Nat)
deriving DecidableEq
def T:TC->Type
 |.int=>Int
 |.u8=>Int
 |.bool=>Bool
 |.str=>ByteArray
 |.fO=>aH
 |.Addr=>aQ
 |.ve=>qQ
 |.Command=>aP
 |.jG=>cg
 |.ke=>ep
 |.kU=>bM
 |.Event=>bO
 |.oD=>dR
 |.Cell=>cB
 |.Array=>dw
 |.wJ=>lI
 |.mZ=>cX
 |.sg=>dL
 |.m0=>eH
 |.eK=>aX
 |.iM=>dD
 |.tP=>mX
 |.Power=>iC
 |.wK=>wI
 |.iV=>cP
 |.vf=>tO
 |.m6=>cK
 |.sj=>mY
 |.Config=>fo
 |.nN=>gj
 |.eC=>av
 |.Act=>jk
 |.sk=>bx
 |.sl t=>aa (T t)
 |.Fs=>av
 |.A0 _=>Int
 |.A1 _=>aX
 |.A3 _=>aQ
 |.fnCommand _=>aP
def aD:TC->Nat
 |.Fs=>76
 |.A0 _=>3
 |.A1 _=>8
 |.A3 _=>5
 |.fnCommand _=>6
 |.fO=>4
 |.Addr=>3
 |.ve=>2
 |.Command=>4
 |.jG=>17
 |.ke=>2
 |.kU=>2
 |.Event=>5
 |.oD=>2
 |.Cell=>2
 |.Array=>3
 |.wJ=>2
 |.mZ=>3
 |.sg=>2
 |.m0=>3
 |.eK=>6
 |.iM=>2
 |.tP=>3
 |.Power=>3
 |.wK=>2
 |.iV=>3
 |.vf=>3
 |.m6=>8
 |.sj=>17
 |.Config=>28
 |.nN=>4
 |.eC=>75
 |.Act=>20
 |.sk=>3
 |_=>1
def full:TC->Nat
 |.int|.u8|.bool|.str=>0
 |.fO=>0
 |.Addr=>0
 |.ve=>0
 |.Command=>0
 |.jG=>0
 |.ke=>0
 |.kU=>2
 |.Event=>0
 |.oD=>2
 |.Cell=>2
 |.Array=>4
 |.wJ=>0
 |.mZ=>2
 |.sg=>2
 |.m0=>2
 |.eK=>0
 |.iM=>0
 |.tP=>0
 |.Power=>0
 |.wK=>0
 |.iV=>0
 |.vf=>0
 |.m6=>2
 |.sj=>2
 |.Config=>0
 |.nN=>0
 |.eC=>4
 |.Act=>2
 |.sk=>2
 |.sl t=>full t+2
 |.Fs=>4
 |.A0 _=>0
 |.A1 _=>0
 |.A3 _=>0
 |.fnCommand _=>0
def tid:TC->TypeId
 |.int=>3
 |.u8=>5
 |.bool=>4
 |.str=>9
 |.fO=>25
 |.Addr=>82
 |.ve=>29
 |.Command=>174
 |.jG=>27
 |.ke=>132
 |.kU=>47
 |.Event=>176
 |.oD=>49
 |.Cell=>154
 |.Array=>52
 |.wJ=>31
 |.mZ=>115
 |.sg=>54
 |.m0=>56
 |.eK=>78
 |.iM=>157
 |.tP=>62
 |.Power=>64
 |.wK=>36
 |.iV=>92
 |.vf=>66
 |.m6=>38
 |.sj=>44
 |.Config=>33
 |.nN=>90
 |.eC=>71
 |.Act=>86
 |.sk=>140
 |.sl .int=>34
 |.sl .bool=>286
 |.sl .str=>0
 |_=>0
inductive V where
 |int (k:IntKind) (n:Int)
 |bool (b:Bool)
 |str (s:ByteArray)
 |nil
 |sl (t:TC) (o:Nat) (q:Bool) (l:List (T t))
def V.aU:V->aj Int|.int .i64 n=>some n|_=>none
def V.Pe:V->aj Int|.int .u8 n=>some n|_=>none
def V.nO:V->aj Bool|.bool b=>some b|_=>none
def V.Pf:V->aj ByteArray|.str s=>some s|_=>none
def V.fk(t:TC)(o:Nat):V->aj (aa (T t))
 |.sl D C _ l=>bif Nat.beq C o ||(Nat.ble (full t+2) C&&Nat.ble (full t+2) o)then (if h:D=t then some (h ▸ l)else none)else none
 |.nil=>some []
 |_=>none
inductive Wk:V->V->Prop
 |same (x:V):Wk x x
 |nil (t:TC) (o:Nat):Wk .nil (.sl t o false [])
 |q (t:TC) (o:Nat) (l:List (T t)):Wk (.sl t o true l) (.sl t o false l)
 |gr (t:TC) (o o':Nat) (qn:Bool) (l:List (T t)) (h:full t+2<=o) (h':full t+2<=o'):Wk (.sl t o' qn l) (.sl t o false l)
def kV(xs ys:aa V):Prop:=xs.length=ys.length/\∀(j:Nat) (x y:V),xs[j]?=some x->ys[j]?=some y->Wk x y
def kV.nil:kV [] []:=⟨rfl,by simp⟩
def kV.cons{x y:V}{xs ys:aa V}(h:Wk x y)(k:kV xs ys):kV (x :: xs) (y :: ys):=by
 refine⟨by simp[k.1],λj a b C hb=>?_⟩
 cases j with
 |zero=>simp_all
 |succ j=>simp at C hb;exact k.2 j a b C hb
def V.agB{x:V}{n:Int}(h:x.aU=some n):Wk x (.int .i64 n):=by
 unfold V.aU at h;split at h<;>first|(injection h with h;subst h;exact .same _)|cases h
def V.agC{x:V}{n:Int}(h:x.Pe=some n):Wk x (.int .u8 n):=by
 unfold V.Pe at h;split at h<;>first|(injection h with h;subst h;exact .same _)|cases h
def V.agD{x:V}{n:Bool}(h:x.nO=some n):Wk x (.bool n):=by
 unfold V.nO at h;split at h<;>first|(injection h with h;subst h;exact .same _)|cases h
def V.agE{x:V}{n:ByteArray}(h:x.Pf=some n):Wk x (.str n):=by
 unfold V.Pf at h;split at h<;>first|(injection h with h;subst h;exact .same _)|cases h
def V.Ft{x:V}{t:TC}{o:Nat}{l:aa (T t)}(h:x.fk t o=some l):Wk x (.sl t o false l):=by
 unfold V.fk at h;split at h
 ·rename_i E C q I;cases hc:(Nat.beq C o || (Nat.ble (full t+2) C&&Nat.ble (full t+2) o))with
  |false=>simp_all
  | true=>
   rw[hc,au]at h;split at h
   ·rename_i D;subst D;injection h with h;subst h;rw[dQ,aJ]at hc;rcases hc with hc | hc
    ·obtain rfl:=cN hc;cases q
     ·exact .same _
     ·exact .q _ _ _
    ·exact .gr _ _ _ _ _ (cz hc.2) (cz hc.1)
   ·cases h
 ·injection h with h;subst h;exact .nil _ _
 ·cases h
def C3(x:aQ)(o:Nat):aa V:=[.int .i64 x.aq,.int .i64 x.row,.int .i64 x.bW]
def C4(x:aP)(o:Nat):aa V:=[.int .i64 x.kind,.int .i64 x.aq,.int .i64 x.row,.int .i64 x.bW]
def C5(x:aX)(o:Nat):aa V:=[.int .i64 x.id,.int .i64 x.dn,.int .i64 x.line,.bool x.write,.int .i64 x.data,.int .i64 x.at_]
def C6(x:av)(o:Nat):aa V:=[.int .i64 x.config.ak.bI,.int .i64 x.config.ak.aE,.int .i64 x.config.ak.rows,.int .i64 x.config.ak.aR,.int .i64 x.config.bQ.qR,.int .i64 x.config.bQ.rp,.int .i64 x.config.bQ.jY,.int .i64 x.config.bQ.r5,.int .i64 x.config.bQ.oC,.int .i64 x.config.bQ.jZ,.int .i64 x.config.bQ.r6,.int .i64 x.config.bQ.r7,.int .i64 x.config.bQ.mW,.int .i64 x.config.bQ.wr,.int .i64 x.config.bQ.r8,.int .i64 x.config.bQ.r9,.int .i64 x.config.bQ.vc,.int .i64 x.config.bQ.tM,.int .i64 x.config.bQ.tN,.int .i64 x.config.bQ.xp,.int .i64 x.config.bQ.xs,.int .i64 x.config.mapping.order,.bool x.config.mapping.hash,.int .i64 x.config.cF,.int .i64 x.config.interval,.int .i64 x.config.ij,.int .i64 x.config.dS.bu,.int .i64 x.config.dS.bg,.int .i64 x.box.bX.eX,.int .i64 x.box.bX.cap,.int .i64 x.box.bX.di,.int .i64 x.box.bX.low,.int .i64 x.box.bX.high,.sl .int o false x.box.bX.weights,.int .i64 x.box.bX.dj.down,.int .i64 x.box.bX.dj.sleep,.int .i64 x.box.next.eX,.int .i64 x.box.next.cap,.int .i64 x.box.next.di,.int .i64 x.box.next.low,.int .i64 x.box.next.high,.sl .int o false x.box.next.weights,.int .i64 x.box.next.dj.down,.int .i64 x.box.next.dj.sleep,.bool x.box.waits,.int .i64 x.now,.sl .ke o false x.aF.aE,.int .i64 x.aF.aN,.sl .int o false x.ready.last,.sl .int o false x.ready.bf,.sl .Cell o false x.array.cells,.sl .int o false x.array.bu,.sl .int o false x.array.bg,.int .i64 x.spare.cF,.sl .int o false x.spare.map,.sl .int o false x.az.aC,.int .i64 x.az.wait,.bool x.az.dY,.sl .mZ o false x.bB,.sl .int o false x.guard,.sl .Addr o false x.pending,.sl .eK o false x.queue,.sl .iM o false x.shares,.bool x.drain.on,.int .i64 x.drain.low,.int .i64 x.drain.high,.int .i64 x.aN.state,.int .i64 x.aN.since,.int .i64 x.aN.idle,.int .i64 x.eA.next,.int .i64 x.eA.every,.int .i64 x.eA.wait,.sl .iV o false x.errors,.sl .Event o false x.trace,.sl .nN o false x.bA]
def enc:(t:TC)->(o:Nat)->T t->aa V
 |.int,_,x=>[.int .i64 x]
 |.u8,_,x=>[.int .u8 x]
 |.bool,_,x=>[.bool x]
 |.str,_,x=>[.str x]
 |.fO,o,x=>[.int .i64 x.bI,.int .i64 x.aE,.int .i64 x.rows,.int .i64 x.aR]
 |.Addr,o,x=>C3 x o
 |.ve,o,x=>[.int .i64 x.order,.bool x.hash]
 |.Command,o,x=>C4 x o
 |.jG,o,x=>[.int .i64 x.qR,.int .i64 x.rp,.int .i64 x.jY,.int .i64 x.r5,.int .i64 x.oC,.int .i64 x.jZ,.int .i64 x.r6,.int .i64 x.r7,.int .i64 x.mW,.int .i64 x.wr,.int .i64 x.r8,.int .i64 x.r9,.int .i64 x.vc,.int .i64 x.tM,.int .i64 x.tN,.int .i64 x.xp,.int .i64 x.xs]
 |.ke,o,x=>[.bool x.open_,.int .i64 x.row]
 |.kU,o,x=>[.sl .ke o false x.aE,.int .i64 x.aN]
 |.Event,o,x=>[.int .i64 x.at_,.int .i64 x.cmd.kind,.int .i64 x.cmd.aq,.int .i64 x.cmd.row,.int .i64 x.cmd.bW]
 |.oD,o,x=>[.sl .int o false x.last,.sl .int o false x.bf]
 |.Cell,o,x=>[.sl .int o false x.symbols,.bool x.pU]
 |.Array,o,x=>[.sl .Cell o false x.cells,.sl .int o false x.bu,.sl .int o false x.bg]
 |.wJ,o,x=>[.int .i64 x.bu,.int .i64 x.bg]
 |.mZ,o,x=>[.sl .int o false x.rows,.sl .int o false x.counts,.int .i64 x.fj]
 |.sg,o,x=>[.int .i64 x.cF,.sl .int o false x.map]
 |.m0,o,x=>[.sl .int o false x.aC,.int .i64 x.wait,.bool x.dY]
 |.eK,o,x=>C5 x o
 |.iM,o,x=>[.int .i64 x.weight,.int .i64 x.fI]
 |.tP,o,x=>[.bool x.on,.int .i64 x.low,.int .i64 x.high]
 |.Power,o,x=>[.int .i64 x.state,.int .i64 x.since,.int .i64 x.idle]
 |.wK,o,x=>[.int .i64 x.down,.int .i64 x.sleep]
 |.iV,o,x=>[.int .i64 x.line,.int .i64 x.code,.int .i64 x.times]
 |.vf,o,x=>[.int .i64 x.next,.int .i64 x.every,.int .i64 x.wait]
 |.m6,o,x=>[.int .i64 x.eX,.int .i64 x.cap,.int .i64 x.di,.int .i64 x.low,.int .i64 x.high,.sl .int o false x.weights,.int .i64 x.dj.down,.int .i64 x.dj.sleep]
 |.sj,o,x=>[.int .i64 x.bX.eX,.int .i64 x.bX.cap,.int .i64 x.bX.di,.int .i64 x.bX.low,.int .i64 x.bX.high,.sl .int o false x.bX.weights,.int .i64 x.bX.dj.down,.int .i64 x.bX.dj.sleep,.int .i64 x.next.eX,.int .i64 x.next.cap,.int .i64 x.next.di,.int .i64 x.next.low,.int .i64 x.next.high,.sl .int o false x.next.weights,.int .i64 x.next.dj.down,.int .i64 x.next.dj.sleep,.bool x.waits]
 |.Config,o,x=>[.int .i64 x.ak.bI,.int .i64 x.ak.aE,.int .i64 x.ak.rows,.int .i64 x.ak.aR,.int .i64 x.bQ.qR,.int .i64 x.bQ.rp,.int .i64 x.bQ.jY,.int .i64 x.bQ.r5,.int .i64 x.bQ.oC,.int .i64 x.bQ.jZ,.int .i64 x.bQ.r6,.int .i64 x.bQ.r7,.int .i64 x.bQ.mW,.int .i64 x.bQ.wr,.int .i64 x.bQ.r8,.int .i64 x.bQ.r9,.int .i64 x.bQ.vc,.int .i64 x.bQ.tM,.int .i64 x.bQ.tN,.int .i64 x.bQ.xp,.int .i64 x.bQ.xs,.int .i64 x.mapping.order,.bool x.mapping.hash,.int .i64 x.cF,.int .i64 x.interval,.int .i64 x.ij,.int .i64 x.dS.bu,.int .i64 x.dS.bg]
 |.nN,o,x=>[.int .i64 x.id,.int .i64 x.at_,.int .i64 x.data,.int .i64 x.code]
 |.eC,o,x=>C6 x o
 |.Act,o,x=>[.int .i64 x.kind,.int .i64 x.request.id,.int .i64 x.request.dn,.int .i64 x.request.line,.bool x.request.write,.int .i64 x.request.data,.int .i64 x.request.at_,.int .i64 x.n,.int .i64 x.J6,.int .i64 x.addr.aq,.int .i64 x.addr.row,.int .i64 x.addr.bW,.int .i64 x.eO.eX,.int .i64 x.eO.cap,.int .i64 x.eO.di,.int .i64 x.eO.low,.int .i64 x.eO.high,.sl .int o false x.eO.weights,.int .i64 x.eO.dj.down,.int .i64 x.eO.dj.sleep]
 |.sk,o,x=>[.sl .u8 o false x.b,.int .i64 x.i,.int .i64 x.h]
 |.sl t,o,x=>[.sl t o false x]
 |.Fs,o,x=>.bool true::C6 x o
 |.A0 g,o,x=>.bool false::.int .i64 (g:Int)::[.int .i64 x]
 |.A1 g,o,x=>.bool false::.int .i64 (g:Int)::C5 x o
 |.A3 g,o,x=>.bool false::.int .i64 (g:Int)::C3 x o
 |.fnCommand g,o,x=>.bool false::.int .i64 (g:Int)::C4 x o
def dF{α β:Type}(g:V->aj β)(f:β->aa V->aj α):aa V->aj α
 |x::cs=>(g x).bind λy=>f y cs
 |[]=>none
def dE{α:Type}(x:α):aa V->aj α
 |[]=>some x
 |_=>none
def V.bU(b:Bool):V->aj Bool|.bool c=>bif c==b then some c else none|_=>none
def V.C7(n:Int):V->aj Int|.int .i64 m=>if m=n then some m else none|_=>none
def DQ{α:Type}(e:α->aa V)(p:aa V->aa V)(d:aa V->aj α):Prop:=∀cs x,d cs=some x->∃L,e x=p L/\kV cs L
def agF{α:Type}{e:α->aa V}{p:aa V->aa V}{x:α}(h:e x=p []):DQ e p (dE x):=λcs y C=>by
 cases cs with
 |nil=>injection C with C;subst C;exact⟨[],h,.nil⟩
 |cons=>cases C
def bind_some{α β:Type}{a:aj α}{f:α -> aj β}{b:β}(h:a.bind f=some b):∃ x,a=some x/\f x=some b:=by
 cases a with
 |none=>cases h
 |some x=>simp_all
def A4{α β:Type}{e:α->aa V}{p:aa V->aa V}{g:V->aj β}{k:β->V}(hg:∀ {x y},g x=some y->Wk x (k y)){f:β->aa V->aj α}(D:∀ y,DQ e (λL=>p (k y :: L)) (f y)):DQ e p (dF g f):=λcs x C=>by
 cases cs with
 |nil=>cases C
 | cons c cs=>
  obtain⟨y,E,I⟩:=bind_some C;obtain⟨L,O,T⟩:=D y cs x I;exact⟨k y::L,O,.cons (hg E) T⟩
def V.agG{b:Bool}{x:V}{c:Bool}(h:x.bU b=some c):Wk x (.bool b):=by
 unfold V.bU at h;split at h
 next C=>cases C<;>cases b<;>first|exact .same _|cases h
 ·cases h
def V.agH{n:Int}{x:V}{c:Int}(h:x.C7 n=some c):Wk x (.int .i64 n):=by
 unfold V.C7 at h;split at h
 ·split at h
  next hn=>subst hn;exact .same _
  ·cases h
 ·cases h
abbrev Wx (o:Nat):aa V->aj aQ:=dF V.aU λC=>dF V.aU λD=>dF V.aU λE=>dE ⟨C,D,E⟩
abbrev Wy (o:Nat):aa V->aj aP:=dF V.aU λC=>dF V.aU λD=>dF V.aU λE=>dF V.aU λI=>dE ⟨C,D,E,I⟩
abbrev Wz (o:Nat):aa V->aj aX:=dF V.aU λC=>dF V.aU λD=>dF V.aU λE=>dF V.nO λI=>dF V.aU λO=>dF V.aU λT=>dE ⟨C,D,E,I,O,T⟩
abbrev WA (o:Nat):aa V->aj av:=dF V.aU λC=>dF V.aU λD=>dF V.aU λE=>dF V.aU λI=>dF V.aU λO=>dF V.aU λT=>dF V.aU λU=>dF V.aU λY=>dF V.aU λZ=>dF V.aU λx9=>dF V.aU λwL=>dF V.aU λwM=>dF V.aU λwN=>dF V.aU λwO=>dF V.aU λwP=>dF V.aU λwQ=>dF V.aU λwR=>dF V.aU λFu=>dF V.aU λFv=>dF V.aU λFw=>dF V.aU λPg=>dF V.aU λPh=>dF V.nO λPj=>dF V.aU λPm=>dF V.aU λPn=>dF V.aU λPo=>dF V.aU λPp=>dF V.aU λPu=>dF V.aU λx28=>dF V.aU λx29=>dF V.aU λx30=>dF V.aU λx31=>dF V.aU λx32=>dF (V.fk .int o) λx33=>dF V.aU λx34=>dF V.aU λx35=>dF V.aU λx36=>dF V.aU λx37=>dF V.aU λx38=>dF V.aU λx39=>dF V.aU λx40=>dF (V.fk .int o) λx41=>dF V.aU λx42=>dF V.aU λx43=>dF V.nO λx44=>dF V.aU λx45=>dF (V.fk .ke o) λx46=>dF V.aU λx47=>dF (V.fk .int o) λx48=>dF (V.fk .int o) λx49=>dF (V.fk .Cell o) λx50=>dF (V.fk .int o) λx51=>dF (V.fk .int o) λx52=>dF V.aU λx53=>dF (V.fk .int o) λx54=>dF (V.fk .int o) λx55=>dF V.aU λx56=>dF V.nO λx57=>dF (V.fk .mZ o) λx58=>dF (V.fk .int o) λx59=>dF (V.fk .Addr o) λx60=>dF (V.fk .eK o) λx61=>dF (V.fk .iM o) λx62=>dF V.nO λx63=>dF V.aU λx64=>dF V.aU λx65=>dF V.aU λx66=>dF V.aU λx67=>dF V.aU λx68=>dF V.aU λx69=>dF V.aU λx70=>dF V.aU λx71=>dF (V.fk .iV o) λx72=>dF (V.fk .Event o) λx73=>dF (V.fk .nN o) λx74=>dE ⟨⟨⟨C,D,E,I⟩,⟨O,T,U,Y,Z,x9,wL,wM,wN,wO,wP,wQ,wR,Fu,Fv,Fw,Pg⟩,⟨Ph,Pj⟩,Pm,Pn,Po,⟨Pp,Pu⟩⟩,⟨⟨x28,x29,x30,x31,x32,x33,⟨x34,x35⟩⟩,⟨x36,x37,x38,x39,x40,x41,⟨x42,x43⟩⟩,x44⟩,x45,⟨x46,x47⟩,⟨x48,x49⟩,⟨x50,x51,x52⟩,⟨x53,x54⟩,⟨x55,x56,x57⟩,x58,x59,x60,x61,x62,⟨x63,x64,x65⟩,⟨x66,x67,x68⟩,⟨x69,x70,x71⟩,x72,x73,x74⟩
def dec:(t:TC)->(o:Nat)->aa V->aj (T t)
 |.int,_=>dF V.aU dE
 |.u8,_=>dF V.Pe dE
 |.bool,_=>dF V.nO dE
 |.str,_=>dF V.Pf dE
 |.fO,o=>dF V.aU λC=>dF V.aU λD=>dF V.aU λE=>dF V.aU λI=>dE ⟨C,D,E,I⟩
 |.Addr,o=>Wx o
 |.ve,o=>dF V.aU λC=>dF V.nO λD=>dE ⟨C,D⟩
 |.Command,o=>Wy o
 |.jG,o=>dF V.aU λC=>dF V.aU λD=>dF V.aU λE=>dF V.aU λI=>dF V.aU λO=>dF V.aU λU=>dF V.aU λY=>dF V.aU λZ=>dF V.aU λx8=>dF V.aU λx9=>dF V.aU λwL=>dF V.aU λwM=>dF V.aU λwN=>dF V.aU λwO=>dF V.aU λwP=>dF V.aU λwQ=>dF V.aU λwR=>dE ⟨C,D,E,I,O,U,Y,Z,x8,x9,wL,wM,wN,wO,wP,wQ,wR⟩
 |.ke,o=>dF V.nO λC=>dF V.aU λD=>dE ⟨C,D⟩
 |.kU,o=>dF (V.fk .ke o) λC=>dF V.aU λD=>dE ⟨C,D⟩
 |.Event,o=>dF V.aU λC=>dF V.aU λD=>dF V.aU λE=>dF V.aU λI=>dF V.aU λO=>dE ⟨C,⟨D,E,I,O⟩⟩
 |.oD,o=>dF (V.fk .int o) λC=>dF (V.fk .int o) λD=>dE ⟨C,D⟩
 |.Cell,o=>dF (V.fk .int o) λC=>dF V.nO λD=>dE ⟨C,D⟩
 |.Array,o=>dF (V.fk .Cell o) λC=>dF (V.fk .int o) λD=>dF (V.fk .int o) λE=>dE ⟨C,D,E⟩
 |.wJ,o=>dF V.aU λC=>dF V.aU λD=>dE ⟨C,D⟩
 |.mZ,o=>dF (V.fk .int o) λC=>dF (V.fk .int o) λD=>dF V.aU λE=>dE ⟨C,D,E⟩
 |.sg,o=>dF V.aU λC=>dF (V.fk .int o) λD=>dE ⟨C,D⟩
 |.m0,o=>dF (V.fk .int o) λC=>dF V.aU λD=>dF V.nO λE=>dE ⟨C,D,E⟩
 |.eK,o=>Wz o
 |.iM,o=>dF V.aU λC=>dF V.aU λD=>dE ⟨C,D⟩
 |.tP,o=>dF V.nO λC=>dF V.aU λD=>dF V.aU λE=>dE ⟨C,D,E⟩
 |.Power,o=>dF V.aU λC=>dF V.aU λD=>dF V.aU λE=>dE ⟨C,D,E⟩
 |.wK,o=>dF V.aU λC=>dF V.aU λD=>dE ⟨C,D⟩
 |.iV,o=>dF V.aU λC=>dF V.aU λD=>dF V.aU λE=>dE ⟨C,D,E⟩
 |.vf,o=>dF V.aU λC=>dF V.aU λD=>dF V.aU λE=>dE ⟨C,D,E⟩
 |.m6,o=>dF V.aU λC=>dF V.aU λD=>dF V.aU λE=>dF V.aU λI=>dF V.aU λO=>dF (V.fk .int o) λU=>dF V.aU λY=>dF V.aU λZ=>dE ⟨C,D,E,I,O,U,⟨Y,Z⟩⟩
 |.sj,o=>dF V.aU λC=>dF V.aU λD=>dF V.aU λE=>dF V.aU λI=>dF V.aU λO=>dF (V.fk .int o) λU=>dF V.aU λY=>dF V.aU λZ=>dF V.aU λx8=>dF V.aU λx9=>dF V.aU λwL=>dF V.aU λwM=>dF V.aU λwN=>dF (V.fk .int o) λwO=>dF V.aU λwP=>dF V.aU λwQ=>dF V.nO λwR=>dE ⟨⟨C,D,E,I,O,U,⟨Y,Z⟩⟩,⟨x8,x9,wL,wM,wN,wO,⟨wP,wQ⟩⟩,wR⟩
 |.Config,o=>dF V.aU λC=>dF V.aU λD=>dF V.aU λE=>dF V.aU λI=>dF V.aU λO=>dF V.aU λU=>dF V.aU λY=>dF V.aU λZ=>dF V.aU λx8=>dF V.aU λx9=>dF V.aU λwL=>dF V.aU λwM=>dF V.aU λwN=>dF V.aU λwO=>dF V.aU λwP=>dF V.aU λwQ=>dF V.aU λwR=>dF V.aU λFu=>dF V.aU λFv=>dF V.aU λFw=>dF V.aU λPg=>dF V.aU λPh=>dF V.nO λPj=>dF V.aU λPm=>dF V.aU λPn=>dF V.aU λPo=>dF V.aU λPp=>dF V.aU λPu=>dE ⟨⟨C,D,E,I⟩,⟨O,U,Y,Z,x8,x9,wL,wM,wN,wO,wP,wQ,wR,Fu,Fv,Fw,Pg⟩,⟨Ph,Pj⟩,Pm,Pn,Po,⟨Pp,Pu⟩⟩
 |.nN,o=>dF V.aU λC=>dF V.aU λD=>dF V.aU λE=>dF V.aU λI=>dE ⟨C,D,E,I⟩
 |.eC,o=>WA o
 |.Act,o=>dF V.aU λC=>dF V.aU λD=>dF V.aU λE=>dF V.aU λI=>dF V.nO λO=>dF V.aU λU=>dF V.aU λY=>dF V.aU λZ=>dF V.aU λx8=>dF V.aU λx9=>dF V.aU λwL=>dF V.aU λwM=>dF V.aU λwN=>dF V.aU λwO=>dF V.aU λwP=>dF V.aU λwQ=>dF V.aU λwR=>dF (V.fk .int o) λFu=>dF V.aU λFv=>dF V.aU λFw=>dE ⟨C,⟨D,E,I,O,U,Y⟩,Z,x8,⟨x9,wL,wM⟩,⟨wN,wO,wP,wQ,wR,Fu,⟨Fv,Fw⟩⟩⟩
 |.sk,o=>dF (V.fk .u8 o) λC=>dF V.aU λD=>dF V.aU λE=>dE ⟨C,D,E⟩
 |.sl t,o=>dF (V.fk t o) dE
 |.Fs,o=>dF (V.bU true) λ_=>WA o
 |.A0 g,o=>dF (V.bU false) λ_=>dF (V.C7 g) λ_=>dF V.aU dE
 |.A1 g,o=>dF (V.bU false) λ_=>dF (V.C7 g) λ_=>Wz o
 |.A3 g,o=>dF (V.bU false) λ_=>dF (V.C7 g) λ_=>Wx o
 |.fnCommand g,o=>dF (V.bU false) λ_=>dF (V.C7 g) λ_=>Wy o
def WB:TC->Nat->aa V
 |.eC,o=>C6 ⟨⟨⟨0,0,0,0⟩,⟨0,0,0,0,0,0,0,0,0,0,0,0,0,0,0,0,0⟩,⟨0,false⟩,0,0,0,⟨0,0⟩⟩,⟨⟨0,0,0,0,0,[],⟨0,0⟩⟩,⟨0,0,0,0,0,[],⟨0,0⟩⟩,false⟩,0,⟨[],0⟩,⟨[],[]⟩,⟨[],[],[]⟩,⟨0,[]⟩,⟨[],0,false⟩,[],[],[],[],[],⟨false,0,0⟩,⟨0,0,0⟩,⟨0,0,0⟩,[],[],[]⟩ o
 |_,_=>[]
def kG(t:TC)(o:Nat)(x:T t):(enc t o x).length=aD t:=by cases t<;>rfl
def oE(t:TC):0<aD t:=by cases t<;>simp[aD]
def agI(t:TC)(o:Nat):DQ (enc t o) id (dec t o):=by
 cases t<;>dsimp only[dec]<;>(repeat' first|exact agF rfl|refine A4 V.agB λ_=>?_|refine A4 V.agD λ_=>?_|refine A4 V.Ft λ_=>?_|refine A4 V.agE λ_=>?_|refine A4 V.agC λ_=>?_|refine A4 V.agG λ_=>?_|refine A4 V.agH λ_=>?_)
def lJ(t:TC)(o:Nat)(cs:aa V)(x:T t)(h:dec t o cs=some x):kV cs (enc t o x):=by
 obtain⟨L,C,D⟩:=agI t o cs x h;rw[C];exact D
def V.low(n:Nat):V->Bool
 |.sl t _ _ _=>Nat.ble (full t+2) n
 |_=>true
def J7(t:TC)(o:Nat)(x:T t):∀ y∈enc t o x,y.low (full t)=true:=by
 cases t<;>simp[enc,V.low,full,C3,C4,C5,C6]
def V.plain:V->Bool
 |.int _ _|.bool _|.str _=>true
 |_=>false
def yO(t:TC)(o:Nat)(x:T t)(h:full t=0):∀ y∈enc t o x,y.plain=true:=by
 cases t<;>first|(simp[full]at h;done)|simp[enc,V.plain,C3,C4,C5]
def V.kf:V->Bool
 |.nil=>false
 |_=>true
def Pv(t:TC)(o:Nat)(x:T t):∀ y∈enc t o x,y.kf=true:=by
 cases t<;>simp[enc,V.kf,C3,C4,C5,C6]
def tcs:aa TC:=[.int,.u8,.bool,.str,.sl .int,.sl .bool,.sl .str,.fO,.Addr,.ve,.Command,.jG,.ke,.kU,.Event,.oD,.Cell,.Array,.wJ,.mZ,.sg,.m0,.eK,.iM,.tP,.Power,.wK,.iV,.vf,.m6,.sj,.Config,.nN,.eC,.Act,.sk]
def WC(e:TypeId):aj TC:=tcs.find? λt=>Nat.beq (tid t) e
def agJ{e:TypeId}{t:TC}(h:WC e=some t):tid t=e:=cN (List.find?_some (p:=λt=>Nat.beq (tid t) e) h)
def V.gr(o:Nat):V->Bool
 |.sl _ C _ _=>C==o
 |_=>true
def yP(t:TC)(o:Nat)(x:T t):∀ y∈enc t o x,y.gr o=true:=by
 cases t<;>simp[enc,V.gr,C3,C4,C5,C6]
def V.aG:V->Bool
 |.sl _ o _ _=>decide (o<2)
 |_=>true
def V.gn:V->V
 |.sl t _ q l=>.sl t 0 q l
 |x=>x
def agK(t:TC)(o:Nat)(x y:T t):(enc t o x).map (λv=>(v.plain,v.aG))=(enc t o y).map (λv=>(v.plain,v.aG)):=by cases t<;>rfl
def V.agL(x:V):x.gn.aG=true:=by cases x<;>simp[V.gn,V.aG]
def pW(t:TC)(o:Nat)(x:T t)(C:o<2)(j:Nat)(y:V)(h:(enc t o x)[j]?=some y):y.aG=true:=by
 have:=yP t o x y (gC h);cases y<;>simp_all [V.gr,V.aG]
def WD(t:TC)(o:Nat)(x:T t):enc t 0 x=(enc t o x).map V.gn:=by cases t<;>rfl
def wU(t:TC)(o:Nat)(x:T t)(j:Nat)(y:V)(h:(enc t 0 x)[j]?=some y):∃ z,(enc t o x)[j]?=some z/\y=z.gn:=by
 rw[WD t o x,ez]at h
 grind
def inner:Nat->Nat
 |0=>0
 |1=>1
 |n+2=>n
abbrev bk:=Nat->aj (aa Nat)
inductive RV (w:World) (B:Nat) (af:bk):List Nat->V->Value->Prop
 |int (q:List Nat) (k:IntKind) (n:Int):RV w B af q (.int k n) (.int k n)
 |bool (q:List Nat) (b:Bool):RV w B af q (.bool b) (.bool b)
 |str (q:List Nat) (s:ByteArray):RV w B af q (.str s) (.string s)
 |nil (q:List Nat):RV w B af q .nil (.slice none 0 0)
 |eD (q:List Nat) (t:TC) (o:Nat):RV w B af q (.sl t o false []) (.slice none 0 0)
 |fF (q:List Nat) (t:TC) (o:Nat) (A:Addr) (c:Nat) (ho:o<2):RV w B af q (.sl t o false []) (.slice (some A) 0 c)
 |fP (q:List Nat) (t:TC) (o:Nat) (A:Addr) (c:Nat) (ho:o<2):RV w B af q (.sl t o true []) (.slice (some A) 0 c)
 | aG (q:List Nat) (t:TC) (o:Nat) (qn:Bool) (l:List (T t)) (b off cap:Nat) (u:Nat->Nat->Value) (ho:o<2) (hl:af b=none) (hb:b<w.heap.size) (h1:o=1->B<=b) (lK:l.length<=cap)
   (hc:∀i (h:i<l.length) j x,(enc t o l[i])[j]?=some x->w.cell? ⟨b,off+(i*aD t+j),none⟩=some (u i j))
   (hr:∀i (h:i<l.length) j x,(enc t o l[i])[j]?=some x->RV w B af [] x (u i j)):RV w B af q (.sl t o qn l) (.slice (some ⟨b,off,none⟩) l.length cap)
 | own (q:List Nat) (t:TC) (o:Nat) (qn:Bool) (l:List (T t)) (b cap:Nat) (cs:Array Value) (u:Nat->Nat->Value) (hl:af b=some q) (hh:w.heap[b]?=some (.cells cs (tid t) (0,0)))
   (hs:cs.size=cap*aD t) (hn:l.length<=cap) (hm:cap<=maxLen/\(qn=true->cap=l.length))
   (hc:∀i (h:i<l.length) j x,(enc t o l[i])[j]?=some x->cs[i*aD t+j]?=some (u i j))
   (hr:∀i (h:i<l.length) j x,(enc t o l[i])[j]?=some x->RV w B af (j::i::aD t::q) x (u i j)):RV w B af q (.sl t (o+2) qn l) (.slice (some ⟨b,0,none⟩) l.length cap)
section
variable {w w':World} {B:Nat} {af aA:bk}
def V.Fx(n:Nat):V->V
 |.sl t _ q l=>.sl t n q l
 |x=>x
def agM(t:TC)(o n:Nat)(x:T t):enc t n x=(enc t o x).map (V.Fx n):=by cases t<;>rfl
def V.fu(n:Nat):V->Prop
 |.sl t o _ _=>full t+2<=o/\full t+2<=n
 |_=>True
def RV.Fx{q:aa Nat}{x:V}{v:Value}(h:RV w B af q x v):∀ n,x.fu n -> RV w B af q (x.Fx n) v:=by
 induction h with
 |int=>exact λ_ _=>.int _ _ _
 |bool=>exact λ_ _=>.bool _ _
 |str=>exact λ_ _=>.str _ _
 |nil=>exact λ_ _=>.nil _
 |eD=>exact λ_ _=>.eD _ _ _
 |fF q t o A c E=>exact λn hn=>by have:=hn.1;omega
 |fP q t o A c E=>exact λn hn=>by have:=hn.1;omega
 |aG q t o I l b off cap u E hl hb O lK T U Y=>exact λn hn=>by have:=hn.1;omega
 | own q t o I l b cap cs u hl hh Z hn hm T U Y=>
  intro n hf;obtain⟨O,h2⟩:=hf;obtain⟨m,rfl⟩:∃m,n=m+2:=⟨n-2,by omega⟩
  have key:∀ (i:Nat) (h:i<l.length) (j:Nat) (x:V),(enc t m l[i])[j]?=some x -> ∃ y:V,(enc t o l[i])[j]?=some y/\y.Fx m=x/\y.fu m:=by
   intro i h j x C;rw[agM t o m l[i],ez]at C;cases D:(enc t o l[i])[j]? with
   |none=>simp_all
   | some y=>
    rw[D]at C;injection C with C;refine⟨y,rfl,C,?_⟩;have g1:=yP t o l[i] y (gC D);have g2:=J7 t o l[i] y (gC D);cases y with
    | sl t' o' q' l'=>
     have e:o'=o:=by simpa [V.gr]using g1
     have:=cz (show Nat.ble _ _=true from g2);exact⟨by omega,by omega⟩
    |_=>trivial
  refine .own _ _ _ _ _ _ _ cs u hl hh Z hn hm (λi h j x C=>?_) (λi h j x C=>?_)
  ·grind
  ·grind
def RV.wk{q:aa Nat}{x y:V}{v:Value}(h:RV w B af q x v)(k:Wk x y):RV w B af q y v:=by
 cases k with
 |same=>exact h
 |nil t o=>cases h;exact .eD _ _ _
 | gr t o o' I l O Z=>
  have h:=h.Fx o ⟨Z,O⟩;cases h with
  |eD=>exact .eD _ _ _
  |fF q t o A c C=>grind
  |fP q t o A c C=>grind
  |aG q t o I l b off cap u C hl hb O Y D E=>grind
  |own q t o I l b cap cs u hl hh T hn U D E=>exact .own _ _ _ _ _ _ _ cs u hl hh T hn ⟨U.1,λh=>by cases h⟩ D E
 | q t o l=>
  cases h with
  |fP q t o A c C=>exact .fF _ _ _ _ _ C
  |aG q t o I l b off cap u C hl hb O Y D E=>exact .aG _ _ _ _ _ _ _ _ u C hl hb O Y D E
  |own q t o I l b cap cs u hl hh T hn U D E=>exact .own _ _ _ _ _ _ _ cs u hl hh T hn ⟨U.1,λh=>by cases h⟩ D E
def RV.map{Q:aa Nat->aa Nat->Prop}(Y:w.heap.size<=w'.heap.size)(Z:∀ b,b<w.heap.size->af b=none->w'.heap[b]?=w.heap[b]?/\aA b=none)
  (h1:∀b q C,b<w.heap.size->af b=some q->Q q C->w'.heap[b]?=w.heap[b]?/\aA b=some C/\∀j i s,Q (j::i::s::q) (j::i::s::C)) {q C:aa Nat} {x:V} {v:Value} (h:RV w B af q x v) (hq:x.aG=true\/Q q C):RV w' B aA C x v:=by
 induction h generalizing C with
 |int=>exact .int _ _ _
 |bool=>exact .bool _ _
 |str=>exact .str _ _
 |nil=>exact .nil _
 |eD=>exact .eD _ _ _
 |fF _ _ _ _ _ D=>exact .fF _ _ _ _ _ D
 |fP _ _ _ _ _ D=>exact .fP _ _ _ _ _ D
 | aG q t o qn l b off cap u D hl hb WE lK I hr O=>
  obtain⟨T,U⟩:=Z b hb hl;exact .aG _ _ _ _ _ _ _ _ u D U (Nat.lt_of_lt_of_le hb Y) WE lK (λi h j x E=>(World.cell?_of_block (a:=⟨b,_,none⟩) T).trans (I i h j x E)) (λi h j x E=>O i h j x E (.inl (pW t o l[i] D j x E)))
 | own q t o qn l b cap cs u hl hh hs hn hm I hr O=>
  obtain⟨T,U,e3⟩:=h1 b q C (iz.1 hh).1 hl (hq.resolve_left (by simp[V.aG]));exact .own _ _ _ _ _ _ _ cs u U (T.trans hh) hs hn hm I (λi h j x E=>O i h j x E (.inr (e3 _ _ _)))
def RV.WG{q C:aa Nat}{x:V}{v:Value}(h:RV w B af q x v)(D:x.aG=true)(hl:∀ b,af b=none->aA b=none):RV w B aA C x v:=
 h.map (Q:=λ_ _=>False) (dB _) (λb _ h=>⟨rfl,hl b h⟩) (λ_ _ _ _ _ h=>h.elim) (.inl D)
def RV.J8{q:aa Nat}{x:V}{v:Value}(h:RV w B af q x v)(C:x.aG=true)(hl:∀b,af b=none->aA b=none):RV w B aA q x v:=h.WG C hl
def RV.key{q C:aa Nat}{x:V}{v:Value}(h:RV w B af q x v)(D:x.aG=true):RV w B af C x v:=h.WG D λ_ h=>h
def mc:Value->Bool
 |.slice ..=>true
 |_=>false
def RV.Pw{q:aa Nat}{x:V}{u:Value}(h:RV w B af q x u)(C:x.aG=false):mc u=true:=by
 cases h<;>first|rfl|cases C
def RV.one{q:aa Nat}{x:V}{u:Value}(h:RV w B af q x u):u.oneCell'=true:=by
 cases h<;>rfl
def RV.gU{q:aa Nat}{x:V}{v:Value}(h:RV w B af q x v)(D:w.heap.size<=w'.heap.size)(C:∀ b,b<w.heap.size->w'.heap[b]?=w.heap[b]?/\aA b=af b):RV w' B aA q x v:=
 h.map (Q:=Eq) D (λb hb hl=>⟨(C b hb).1,(C b hb).2.trans hl⟩) (λb q E hb hl e=>by subst e;exact⟨(C b hb).1,(C b hb).2.trans hl,λ_ _ _=>rfl⟩) (.inr rfl)
def RV.apart{q kt:aa Nat}{x:V}{v:Value}{bt:Nat}(h:RV w B af q x v)(C:af bt=some kt)(hq:¬ q <:+ kt\/x.aG=true)(I:w.heap.size<=w'.heap.size)(D:∀ b,b≠bt->w'.heap[b]?=w.heap[b]?):RV w' B af q x v:=
 h.map (Q:=λq E=>q=E/\¬ q <:+ kt) I (λb _ hl=>⟨D b (by rintro rfl;rw[hl]at C;cases C),hl⟩) (λb q E _ hl e=>by
  obtain⟨rfl,e⟩:=e;exact⟨D b (by rintro rfl;rw[hl]at C;injection C with C;subst C;exact e (List.suffix_refl _)),hl,λj i s=>⟨rfl,λO=>e (List.IsSuffix.trans ⟨[j,i,s],rfl⟩ O)⟩⟩) (hq.symm.imp_right λh=>⟨rfl,h⟩)
def RV.gn{q E:aa Nat}{x:V}{v:Value}(h:RV w B af q x v){B':Nat}:RV w B' (λ_=>none) E x.gn v:=by
 induction h generalizing E with
 |int=>exact .int _ _ _
 |bool=>exact .bool _ _
 |str=>exact .str _ _
 |nil=>exact .nil _
 |eD=>exact .eD _ _ _
 |fF=>exact .fF _ _ _ _ _ (by first|assumption|omega)
 |fP=>exact .fP _ _ _ _ _ (by first|assumption|omega)
 | aG q t o O l b off cap u Z hl hb h1 T I U Y=>
  refine .aG _ _ _ _ _ _ _ _ u (by omega) rfl hb (by omega) T (λi h j x C=>?_) (λi h j x C=>?_)
  ·obtain⟨y,D,_⟩:=wU t o l[i] j x C;simp_all
  ·obtain⟨y,D,rfl⟩:=wU t o l[i] j x C;simp_all
 | own q t o O l b cap cs u hl hh hs hn hm I U Y=>
  refine .aG _ _ _ _ _ _ _ _ u (by omega) rfl (iz.1 hh).1 (by omega) hn (λi h j x C=>?_) (λi h j x C=>?_)
  ·obtain⟨y,D,_⟩:=wU t o l[i] j x C;have:=I i h j y D;rw[eW,cell_of_row w b _ cs _ _ hh];exact this
  ·obtain⟨y,D,rfl⟩:=wU t o l[i] j x C;simp_all
end
set_option linter.unusedVariables false
inductive Lf where
 |v (x:V)
 |own (k:List Nat)
 |dead
inductive A where
 |undef
 |skip
 |lf (x:Lf)
 |agg (cs:List Lf)
 |eY (xs:List (Bool×List Lf))
 |ptr (k:List Nat)
 |aL (r j:Nat)
 |iW (cs:List V)
 |m7 (f:Nat) (cs:List V)
 |pk (r n:Nat)
 |view (k:List Nat) (s i j:Nat)
 |fn (f:Nat) (cap:List (Nat×Nat))
inductive aS where
 |aB (cs:List Lf)
 |sl (y:V)
 |mp (l:List (Int×Bool))
 |gh (xs:List A)
structure S where
 t:Nat->A
 m:Nat->Option aS
inductive Loc where
 |aB (b off:Nat)
 |dG (v:Value)
 |bC (us:List Value)
def addrAt(w:World)(af:bk)(ρ:Nat->Loc):aa Nat->aj Addr
 | j :: i :: s :: [r]=>match ρ r with
  |.dG (.slice (some ⟨b,0,none⟩) _ _)=>if af b=some [r]then some ⟨b,i*s+j,none⟩else none
  |_=>none
 | j :: i :: s :: q=>match (addrAt w af ρ q).bind w.cell? with
  |some (.slice (some ⟨b,0,none⟩) _ _)=>if af b=some q then some ⟨b,i*s+j,none⟩else none
  |_=>none
 |_=>none
def cQ(w:World)(af:bk)(ρ:Nat->Loc):aa Nat->aj Value
 | [r]=>match ρ r with
  |.dG v=>some v
  |_=>none
 |q=>(addrAt w af ρ q).bind w.cell?
def dM(w:World)(B:Nat)(af:bk)(ρ:Nat->Loc):Lf->Value->Prop
 |.v x,u=>x.aG=true/\RV w B af [] x u
 |.own k,u=>mc u=true/\cQ w af ρ k=some u
 |.dead,_=>True
def eI(w:World)(B:Nat)(af:bk)(ρ:Nat->Loc)(cs:aa Lf)(us:Array Value):Prop:=
 us.size=cs.length/\∀(j:Nat) x,cs[j]?=some x->∃u,us[j]?=some u/\dM w B af ρ x u
def RP(w:World)(B:Nat)(af:bk)(ρ:Nat->Loc)(p:Bool×aa Lf)(u:Value):Prop:=
 match p with
 |(true,cs)=>∃us,u = .agg us/\eI w B af ρ cs us
 |(false,cs)=>eI w B af ρ cs #[u]
def qS:Nat:=4294967296
def J9(b n:Nat):Value:=bif Nat.beq n qS then .map (some b)else .slice (some ⟨b,0,none⟩) n n
def Px{b n:Nat}(h:n<qS):J9 b n = .slice (some ⟨b,0,none⟩) n n:=by
 unfold J9;cases hb:Nat.beq n qS with
 |true=>simp_all
 |false=>rfl
def Py(b:Nat):J9 b qS = .map (some b):=rfl
def RF(w:World)(B:Nat)(af:bk)(cs:aa V)(u:Value):Prop:=
 ∃b off,u = .pointer (some ⟨b,off,none⟩)/\b<w.heap.size/\af b=none/\∀(j:Nat) x,cs[j]?=some x->x.aG=true/\∃v,w.cell? ⟨b,off+j,none⟩=some v/\RV w B af [] x v
def RA(w:World)(B:Nat)(af:bk)(ρ:Nat->Loc):A->Value->Prop
 |.undef,_=>True
 |.skip,u=>u=Go.undef
 |.lf x,u=>dM w B af ρ x u
 |.agg cs,u=>RP w B af ρ (true,cs) u
 |.eY xs,u=>∃us:Array Value,u = .tuple us/\us.size=xs.length/\∀(j:Nat) p,xs[j]?=some p->∃v,us[j]?=some v/\RP w B af ρ p v
 |.ptr k,u=>∃ad,u = .pointer (some ad)/\addrAt w af ρ k=some ad
 |.aL r j,u=>∃b off,ρ r = .aB b off/\u = .pointer (some ⟨b,off+j,none⟩)
 |.iW cs,u=>RF w B af cs u
 |.m7 f cs,u=>∃pv,u = .func (.func f) #[] #[pv]/\RF w B af cs pv
 |.pk r n,u=>∃b,ρ r = .aB b 0/\u=J9 b n
 |.view k s i j,u=>∃A n c,cQ w af ρ k=some (.slice A n c)/\i<=j/\j<=n/\u=sliced A i j c s
 |.fn f cap,u=>∃C:Array Value,u = .func (.func f) #[] C/\C.size=cap.length/\∀(j:Nat) p,cap[j]?=some p->∃b off,ρ p.1 = .aB b off/\C[j]?=some (.pointer (some ⟨b,off+p.2,none⟩))
inductive dW (w:World) (B:Nat) (af:bk) (ρ:Nat->Loc) (r:Nat):aS->Prop
 | aB (b off:Nat) (cells:Array Value) (e:TypeId) (cs:List Lf) (us:Nat->Value) (cm:ρ r = .aB b off) (hl:af b=some [r]) (hh:w.heap[b]?=some (.cells cells e (0,0))) (hs:off+cs.length<=cells.size)
   (hc:∀(j:Nat) x,cs[j]?=some x->cells[off+j]?=some (us j)/\dM w B af ρ x (us j)):dW w B af ρ r (.aB cs)
 |sl (v:Value) (y:V) (cm:ρ r = .dG v) (hr:RV w B af [r] y v):dW w B af ρ r (.sl y)
 |mp (b clock:Nat) (es:Array MapEntry) (l:List (Int×Bool)) (cm:ρ r = .aB b 0) (hl:af b=some [r]) (hh:w.heap[b]?=some (.map es clock)) (he:es.toList.map (λe=>(e.key,e.val))=l.map λp=>(.int .i64 p.1,.bool p.2)):dW w B af ρ r (.mp l)
 |gh (us:List Value) (xs:List A) (cm:ρ r = .bC us) (hx:∀(j:Nat) x,xs[j]?=some x->RA w B af ρ x (us.getD j undef)):dW w B af ρ r (.gh xs)
def Qw(_:World):Prop:=True
structure agN (n:Nat) (L:bk) (w w':World):Prop where
 os:w'.os=w.os
 tape:w'.tape=w.tape
 output:w'.output=w.output
 size:w.heap.size<=w'.heap.size
 block:∀k,k<n->L k=none->w'.heap[k]?=w.heap[k]?
def Hd(w:World)(L:bk):Prop:=∀w',agN w.heap.size L w w'->Qw w'
def agO(w:World)(L:bk):Hd w L:=λ_ _=>trivial
structure Wd where
 w:World
 L:bk
 F:Nat->Option Loc
 held:Hd w L
 low:∀r,r<20000->F r=none
def Wd.heap(d:Wd):Array Obj:=d.w.heap
def Wd.of(w:World)(h:Hd w λ_=>none):Wd:=⟨w,λ_=>none,λ_=>none,h,λ_ _=>rfl⟩
structure iX (d:Wd) (w w':World):Prop where
 os:w'.os=w.os
 tape:w'.tape=w.tape
 output:w'.output=w.output
 size:w.heap.size<=w'.heap.size
 block:∀k,k<d.heap.size->d.L k=none->w'.heap[k]?=w.heap[k]?
def iX.trans{d:Wd}{a b c:World}(h:iX d a b)(k:iX d b c):iX d a c:=
 ⟨k.os.trans h.os,k.tape.trans h.tape,k.output.trans h.output,Nat.le_trans h.size k.size,λi hi hl=>(k.block i hi hl).trans (h.block i hi hl)⟩
def Wd.on(d:Wd){w:World}(h:iX d d.w w){L:bk}(D:∀ b k,L b=some k->d.heap.size<=b\/d.L b≠none):Hd w L:=λw' hb=>
 d.held w' ⟨hb.os.trans h.os,hb.tape.trans h.tape,hb.output.trans h.output,Nat.le_trans h.size hb.size,λk C hl=>by
  have e:L k=none:=by
   cases e:L k with
   |none=>rfl
   | some q=>
    rcases D k q e with h1|h1
    ·exact absurd C (Nat.not_lt.2 h1)
    ·exact absurd hl h1
  exact(hb.block k (Nat.lt_of_lt_of_le C h.size) e).trans (h.block k C hl)⟩
def iX.of{d:Wd}{a b:World}{B:Nat}(h:Below B a b)(hB:d.heap.size<=B):iX d a b:=
 ⟨h.os,h.tape,h.output,h.size,λi hi _=>h.block i (Nat.lt_of_lt_of_le hi hB)⟩
structure Rl (w0:Wd) (N:Nat) (af:bk) (ρ:Nat->Loc) (σ:S) (a:Act) (w:World):Prop where
 below:iX w0 w0.w w
 cV:∀b k,af b=some k->(w0.heap.size<=b\/w0.L b≠none)/\b<w.heap.size/\k≠[]
 root:∀r x,σ.m r=some x->dW w w0.heap.size af ρ r x
 tmp:∀k,RA w w0.heap.size af ρ (σ.t k) (a.tmps.getD k undef)
 size:a.tmps.size=N
 defers:a.defers=[]
 fix:∀r l,w0.F r=some l->ρ r=l
 cL:∀r,(r<N\/60000<=r)->w0.F r=none
def R(w0:Wd)(N:Nat)(σ:S)(a:Act)(w:World):Prop:=∃af ρ,Rl w0 N af ρ σ a w
/-! Reading along a key. -/
inductive wV (m:Nat->Option aS):List Nat->V->Prop
 |root (r:Nat) (y:V) (h:m r=some (.sl y)):wV m [r] y
 |elem (j i:Nat) (q:List Nat) (t:TC) (o:Nat) (qn:Bool) (l:List (T t)) (y:V) (h:wV m q (.sl t (o+2) qn l)) (hi:i<l.length) (hy:(enc t o l[i])[j]?=some y):wV m (j::i::aD t::q) y
section
variable {w w':World} {w0:Wd} {B N:Nat} {af aA:bk} {ρ ρ':Nat->Loc} {m:Nat->aj aS} {σ:S} {a:Act}
def A5{q:aa Nat}(j i s:Nat){b n c:Nat}(h:cQ w af ρ q=some (.slice (some ⟨b,0,none⟩) n c))(hl:af b=some q):addrAt w af ρ (j :: i :: s :: q)=some ⟨b,i*s+j,none⟩:=by
 match q,h,hl with
 | [r],h,hl=>
  simp[cQ]at h;simp[addrAt]
  grind
 | x :: y :: q,h,hl=>
  simp[cQ]at h;simp[addrAt,h,hl,if_true]
def Ka{j i s:Nat}{q:aa Nat}:cQ w af ρ (j::i::s::q)=(addrAt w af ρ (j::i::s::q)).bind w.cell?:=rfl
def wV.ok{k:aa Nat}{y:V}(h:wV m k y)(D:∀ r x,m r=some x -> dW w B af ρ r x):∃ u,cQ w af ρ k=some u/\RV w B af k y u:=by
 induction h with
 | root r y h=>
  cases D _ _ h with
  |sl v y E C=>exact⟨v,by simp[cQ,E],C⟩
 | elem j i q t o U l y h hi I O=>
  obtain⟨u,T,C⟩:=O;cases C with
  |eD=>simp at hi
  |fF=>simp at hi
  |fP=>simp at hi
  |aG _ _ _ _ _ _ _ _ _ Y=>omega
  | own _ _ _ _ _ b cap cs us hl hh Z hn D hc C=>
   refine⟨us i j,?_,C i hi j y I⟩;rw[Ka,A5 j i _ T hl];show w.cell? _=_;rw[cell_of_row w b _ cs _ _ hh];simp_all
def A6:∀ (k:aa Nat) (ad:Addr),addrAt w af ρ k=some ad -> ∃ j i s q,k=j :: i :: s :: q/\af ad.block=some q/\ad.off=i*s+j/\ad.spot=none/\(∀ r,q=[r] -> ∃ v,ρ r = .dG v)
 |[],_,h=>by simp[addrAt]at h
 | [j,i,s,r],ad,h=>by
  simp only[addrAt]at h
  grind
 | j :: i :: s :: x :: y :: q,ad,h=>by
  simp only[addrAt]at h
  grind
/-! What is forgotten: keys of leaves,of addresses,roots. -/
structure m8 where
 l:List Nat->Bool
 p:List Nat->Bool
 r:Nat->Bool
def Lf.cq(f:aa Nat->Bool):Lf->Lf
 |.own k=>bif f k then .dead else .own k
 |x=>x
def A.cq(K:m8):A->A
 |.lf x=>.lf (x.cq K.l)
 |.agg cs=>.agg (cs.map (Lf.cq K.l))
 |.eY xs=>.eY (xs.map λp=>(p.1,p.2.map (Lf.cq K.l)))
 |.ptr k=>bif K.p k then .undef else .ptr k
 |.aL r j=>bif K.r r then .undef else .aL r j
 |.pk r n=>bif K.r r then .undef else .pk r n
 |.view k s i j=>bif K.p k then .undef else .view k s i j
 |.fn f cap=>bif cap.any (λp=>K.r p.1)then .undef else .fn f cap
 |x=>x
def aS.cq(K:m8):aS->aS
 |.aB cs=>.aB (cs.map (Lf.cq K.l))
 |.gh xs=>.gh (xs.map (A.cq K))
 |x=>x
/-! What names nothing that is forgotten. -/
def Lf.fr(f:aa Nat->Bool):Lf->Bool
 |.own k=>!f k
 |_=>true
def A.fr(K:m8):A->Bool
 |.lf x=>x.fr K.l
 |.agg cs=>cs.all (Lf.fr K.l)
 |.eY xs=>xs.all λq=>q.2.all (Lf.fr K.l)
 |.ptr k=>!K.p k
 |.aL r _=>!K.r r
 |.pk r _=>!K.r r
 |.view k _ _ _=>!K.p k
 |.fn _ cap=>cap.all λq=>!K.r q.1
 |_=>true
def Lf.oF{f:aa Nat->Bool}{x:Lf}(h:x.fr f=true):x.cq f=x:=by
 cases x with
 |own k=>simp only[Lf.cq,show f k=false by simpa [Lf.fr]using h,ax]
 |_=>rfl
def qT.oF{f:aa Nat->Bool}{cs:aa Lf}(h:cs.all (Lf.fr f)=true):cs.map (Lf.cq f)=cs:=
 (List.map_congr_left λx C=>Lf.oF (bT.1 h x C)).trans (List.map_id cs)
def A.oF{K:m8}{x:A}(h:x.fr K=true):x.cq K=x:=by
 cases x with
 |lf x=>exact bz A.lf (Lf.oF h)
 |agg cs=>exact bz A.agg (qT.oF h)
 |eY xs=>exact bz A.eY ((List.map_congr_left λq hq=>by rw[qT.oF (bT.1 h q hq)];rfl).trans (List.map_id xs))
 |ptr k=>simp only[A.cq,show K.p k=false by simpa [A.fr]using h,ax]
 |view k=>simp only[A.cq,show K.p k=false by simpa [A.fr]using h,ax]
 |aL r=>simp only[A.cq,show K.r r=false by simpa [A.fr]using h,ax]
 |pk r=>simp only[A.cq,show K.r r=false by simpa [A.fr]using h,ax]
 |fn f cap=>simp only[A.cq,show (cap.any λp=>K.r p.1)=false from kT.2 λp hp=>by simpa using bT.1 h p hp,ax]
 |_=>rfl
def Lf.sn{f g:aa Nat->Bool}(hl:∀ k,f k=true->g k=true){x:Lf}(h:x.fr g=true):x.fr f=true:=by
 cases x with
 | own k=>
  have h:(!g k)=true:=h;show (!f k)=true;cases C:f k with
  |false=>rfl
  |true=>rw[hl k C]at h;cases h
 |_=>rfl
def A.sn{K J:m8}(hl:∀ k,K.l k=true->J.l k=true)(hp:∀ k,K.p k=true->J.p k=true)(E:∀ r,K.r r=true->J.r r=true){x:A}(h:x.fr J=true):x.fr K=true:=by
 have C:∀r,(!J.r r)=true->(!K.r r)=true:=λr h=>Lf.sn (x:=.own []) (f:=λ_=>K.r r) (λ_=>E r) h
 cases x with
 |lf x=>exact Lf.sn hl h
 |agg cs=>exact bT.2 λc D=>Lf.sn hl (bT.1 h c D)
 |eY xs=>exact bT.2 λq hq=>bT.2 λc D=>Lf.sn hl (bT.1 (bT.1 h q hq) c D)
 |ptr k=>exact Lf.sn (x:=.own k) hp h
 |view k=>exact Lf.sn (x:=.own k) hp h
 |aL r=>exact C r h
 |pk r=>exact C r h
 |fn f cap=>exact bT.2 λq hq=>C _ (bT.1 h q hq)
 |_=>rfl
def Lf.oG(x:Lf)(f g:aa Nat->Bool):(x.cq f).cq g=(x.cq g).cq f:=by
 cases x with
 |own k=>cases C:f k<;>cases hg:g k<;>simp[Lf.cq,C,hg]
 |_=>rfl
def qT.oG(cs:aa Lf)(f g:aa Nat->Bool):(cs.map (Lf.cq f)).map (Lf.cq g)=(cs.map (Lf.cq g)).map (Lf.cq f):=by
 rw[List.map_map,List.map_map];exact List.map_congr_left λx _=>Lf.oG x f g
def A.oG(x:A)(K J:m8):(x.cq K).cq J=(x.cq J).cq K:=by
 cases x with
 |lf x=>exact bz A.lf (Lf.oG x _ _)
 |agg cs=>exact bz A.agg (qT.oG cs _ _)
 | eY xs=>
  refine bz A.eY ?_;rw[List.map_map,List.map_map];exact List.map_congr_left λq _=>bz (Prod.mk q.1) (qT.oG q.2 _ _)
 |ptr k=>cases C:K.p k<;>cases hg:J.p k<;>simp[A.cq,C,hg]
 |view k=>cases C:K.p k<;>cases hg:J.p k<;>simp[A.cq,C,hg]
 |aL r=>cases C:K.r r<;>cases hg:J.r r<;>simp[A.cq,C,hg]
 |pk r=>cases C:K.r r<;>cases hg:J.r r<;>simp[A.cq,C,hg]
 |fn f cap=>cases C:(cap.any λp=>K.r p.1)<;>cases hg:(cap.any λp=>J.r p.1)<;>simp only[A.cq,C,hg,au,ax]
 |_=>rfl
def aS.oG(x:aS)(K J:m8):(x.cq K).cq J=(x.cq J).cq K:=by
 cases x with
 |aB cs=>exact bz aS.aB (qT.oG cs _ _)
 | gh xs=>
  refine bz aS.gh ?_;rw[List.map_map,List.map_map];exact List.map_congr_left λx _=>A.oG x K J
 |_=>rfl
def cG(d:Nat)(k:aa Nat):Bool:=k.getLast?==some d
def wW(d:Nat):m8:=⟨cG d,cG d,λr=>Nat.beq r d⟩
def Lf.drop(d:Nat):Lf->Lf:=Lf.cq (cG d)
def A.drop(d:Nat):A->A:=A.cq (wW d)
def aS.drop(d:Nat):aS->aS:=aS.cq (wW d)
def iN(c:Nat->Bool)(k:aa Nat):Bool:=match k.getLast? with
 |some r=>c r
 |none=>false
structure Tr (w w':World) (af aA:bk) (ρ ρ':Nat->Loc) (t:List Nat->Bool) (c:Nat->Bool):Prop where
 size:w.heap.size<=w'.heap.size
 no:∀b,b<w.heap.size->af b=none->w'.heap[b]?=w.heap[b]?/\aA b=none
 so:∀b k,af b=some k->t k=false->w'.heap[b]?=w.heap[b]?/\aA b=some k
 eZ:∀r,c r=false->ρ' r=ρ r
 up:∀j i s x q,t (j::i::s::x::q)=t (x::q)
 ne:∀b,af b=some []->∀k,t k=false
structure m8.OK (K:m8) (t:List Nat->Bool) (c:Nat->Bool):Prop where
 l:∀k,K.l k=false->(k.length=1\/t k=false)/\iN c k=false
 p:∀k,K.p k=false->t k=false/\iN c k=false
 r:∀r,K.r r=false->c r=false
section
variable {t:aa Nat->Bool} {c:Nat->Bool} {K:m8}
def RV.tr(T:Tr w w' af aA ρ ρ' t c){q:aa Nat}{x:V}{v:Value}(h:RV w B af q x v)(hq:x.aG=true\/t q=false):RV w' B aA q x v:=
 h.map (Q:=λq C=>q=C/\t q=false) T.size T.no (λb q C _ hl e=>by
  obtain⟨rfl,e⟩:=e;exact⟨(T.so b q hl e).1,(T.so b q hl e).2,λj i s=>⟨rfl,by
   cases q with
   |nil=>exact T.ne b hl _
   |cons x q=>rw[T.up];exact e⟩⟩) (hq.imp_right λh=>⟨rfl,h⟩)
def Kb(j i s x:Nat)(q:aa Nat):iN c (j::i::s::x::q)=iN c (x::q):=by simp[iN,List.getLast?_cons_cons]
def Pz(T:Tr w w' af aA ρ ρ' t c):∀ (k:aa Nat) (ad:Addr),t k=false->iN c k=false->addrAt w af ρ k=some ad->addrAt w' aA ρ' k=some ad
 |[],_,_,_,h=>by simp[addrAt]at h
 |[_],_,_,_,h=>by simp[addrAt]at h
 |[_,_],_,_,_,h=>by simp[addrAt]at h
 |[_,_,_],_,_,_,h=>by simp[addrAt]at h
 | [j,i,s,r],_,C,D,h=>by
  rw[T.up]at C;rw[Kb]at D;simp only[addrAt]at h ⊢;rw[T.eZ r D];split at h
  ·split at h
   next hl=>rw[aV (T.so _ _ hl C).2];exact h
   ·cases h
  ·cases h
 | j :: i :: s :: x :: y :: q,ad,C,D,h=>by
  rw[T.up]at C;rw[Kb]at D;simp only[addrAt]at h ⊢;cases E:addrAt w af ρ (x::y::q)with
  |none=>rw[E]at h;cases h
  | some U=>
   rw[Pz T _ _ C D E];rw[E]at h;cases I:w.cell? U with
   |none=>simp[I]at h
   | some v=>
    obtain⟨Z,i',s',O,hk,Y,_,_⟩:=A6 _ _ E;have sq:t O=false:=by
     cases O with
     |nil=>exact T.ne _ Y _
     |cons z O=>rw[<-T.up Z i' s',<-hk];exact C
    have e:w'.cell? U=some v:=(World.cell?_of_block (T.so _ _ Y sq).1).trans I;simp only[Option.bind_some,I]at h;simp only[Option.bind_some,e];split at h
    ·split at h
     next hl=>rw[aV (T.so _ _ hl C).2];exact h
     ·cases h
    ·cases h
def PB(T:Tr w w' af aA ρ ρ' t c)(k:aa Nat)(u:Value)(C:k.length=1\/t k=false)(D:iN c k=false)(h:cQ w af ρ k=some u):cQ w' aA ρ' k=some u:=by
 match k,C,D,h with
 |[],_,_,h=>simp[cQ,addrAt]at h
 | [r],_,D,h=>
  simp only[cQ]at h ⊢;rw[T.eZ r D];exact h
 | x :: y :: q,C,D,h=>
  have C:t (x::y::q)=false:=C.resolve_left (by simp);simp only[cQ]at h ⊢;cases E:addrAt w af ρ (x::y::q)with
  |none=>rw[E]at h;cases h
  | some ad=>
   rw[Pz T _ _ C D E];rw[E]at h;have h:w.cell? ad=some u:=h;obtain⟨U,Y,Z,I,hk,O,_,_⟩:=A6 _ _ E;have sq:t I=false:=by
    cases I with
    |nil=>exact T.ne _ O _
    |cons z I=>rw[<-T.up U Y Z,<-hk];exact C
   exact(World.cell?_of_block (T.so _ _ O sq).1).trans h
def dM.tr(T:Tr w w' af aA ρ ρ' t c)(C:K.OK t c){x:Lf}{u:Value}(h:dM w B af ρ x u):dM w' B aA ρ' (x.cq K.l) u:=by
 cases x with
 |v x=>exact⟨h.1,h.2.tr T (.inl h.1)⟩
 |dead=>trivial
 | own k=>
  show dM w' B aA ρ' (bif K.l k then .dead else .own k) u;cases hl:K.l k with
  |true=>trivial
  |false=>exact⟨h.1,PB T k u (C.l k hl).1 (C.l k hl).2 h.2⟩
def eI.tr(T:Tr w w' af aA ρ ρ' t c)(D:K.OK t c){cs:aa Lf}{us:Array Value}(h:eI w B af ρ cs us):eI w' B aA ρ' (cs.map (Lf.cq K.l)) us:=by
 refine⟨by rw[eS];exact h.1,λj x C=>?_⟩
 rw[ez]at C;obtain⟨y,E,rfl⟩:=Option.map_eq_some_iff.1 C;obtain⟨u,I,r⟩:=h.2 j y E;exact⟨u,I,r.tr T D⟩
def RP.tr(T:Tr w w' af aA ρ ρ' t c)(C:K.OK t c){p:Bool×aa Lf}{u:Value}(h:RP w B af ρ p u):RP w' B aA ρ' (p.1,p.2.map (Lf.cq K.l)) u:=by
 obtain⟨b,cs⟩:=p;cases b with
 |true=>obtain⟨us,e,h⟩:=h;exact⟨us,e,h.tr T C⟩
 |false=>exact eI.tr T C h
def RF.tr(T:Tr w w' af aA ρ ρ' t c){cs:aa V}{u:Value}(h:RF w B af cs u):RF w' B aA cs u:=by
 obtain⟨b,off,e,hb,hl,h⟩:=h;obtain⟨D,E⟩:=T.no b hb hl
 refine⟨b,off,e,Nat.lt_of_lt_of_le hb T.size,E,λj x I=>?_⟩
 obtain⟨C,v,hv,O⟩:=h j x I;exact⟨C,v,(World.cell?_of_block (a:=⟨b,_,none⟩) D).trans hv,O.tr T (.inl C)⟩
def RA.tr(T:Tr w w' af aA ρ ρ' t c)(C:K.OK t c){x:A}{u:Value}(h:RA w B af ρ x u):RA w' B aA ρ' (x.cq K) u:=by
 cases x with
 |undef=>trivial
 |skip=>exact h
 |lf x=>exact dM.tr T C h
 |agg cs=>exact RP.tr T C (p:=(true,cs)) h
 | eY xs=>
  obtain⟨us,e,D,h⟩:=h
  refine⟨us,e,by rw[eS];exact D,λj p hp=>?_⟩
  rw[ez]at hp;obtain⟨y,E,rfl⟩:=Option.map_eq_some_iff.1 hp;obtain⟨v,hv,r⟩:=h j y E;exact⟨v,hv,r.tr T C⟩
 | ptr k=>
  simp only[A.cq];cases hl:K.p k with
  |true=>trivial
  |false=>obtain⟨ad,e,h⟩:=h;exact⟨ad,e,Pz T k ad (C.p k hl).1 (C.p k hl).2 h⟩
 | view k s i j=>
  simp only[A.cq];cases hl:K.p k with
  |true=>trivial
  |false=>obtain⟨A,n,c,h,g⟩:=h;exact⟨A,n,c,PB T k _ (.inr (C.p k hl).1) (C.p k hl).2 h,g⟩
 | pk r n=>
  simp only[A.cq];cases hl:K.r r with
  |true=>trivial
  |false=>obtain⟨b,e,h⟩:=h;exact⟨b,(T.eZ r (C.r r hl)).trans e,h⟩
 | aL r j=>
  simp only[A.cq];cases hl:K.r r with
  |true=>trivial
  |false=>obtain⟨b,off,e,h⟩:=h;exact⟨b,off,(T.eZ r (C.r r hl)).trans e,h⟩
 |iW cs=>exact RF.tr T h
 |m7 f cs=>obtain⟨pv,e,h⟩:=h;exact⟨pv,e,h.tr T⟩
 | fn f cap=>
  simp only[A.cq];cases hl:cap.any (λp=>K.r p.1)with
  |true=>trivial
  | false=>
   obtain⟨I,e,D,h⟩:=h
   refine⟨I,e,D,λj p hp=>?_⟩
   obtain⟨b,off,O,U⟩:=h j p hp;exact⟨b,off,(T.eZ _ (C.r _ (by simpa using kT.1 hl p (gC hp)))).trans O,U⟩
def dW.tr(T:Tr w w' af aA ρ ρ' t c)(U:K.OK t c){r:Nat}{x:aS}(h:dW w B af ρ r x)(D:t [r]=false)(E:c r=false):dW w' B aA ρ' r (x.cq K):=by
 cases h with
 | aB b off cells e cs us C hl hh hs Y=>
  refine .aB b off cells e _ us ((T.eZ r E).trans C) (T.so b _ hl D).2 ((T.so b _ hl D).1.trans hh) (by rw[eS];exact hs) (λj x I=>?_)
  rw[ez]at I;obtain⟨y,O,rfl⟩:=Option.map_eq_some_iff.1 I;exact⟨(Y j y O).1,(Y j y O).2.tr T U⟩
 |sl v y C hr=>exact .sl v y ((T.eZ r E).trans C) (hr.tr T (.inr D))
 |mp b clock es l C hl hh he=>exact .mp b clock es l ((T.eZ r E).trans C) (T.so b _ hl D).2 ((T.so b _ hl D).1.trans hh) he
 | gh us xs C I=>
  refine .gh us _ ((T.eZ r E).trans C) (λj x Z=>?_)
  rw[ez]at Z;obtain⟨y,O,rfl⟩:=Option.map_eq_some_iff.1 Z;exact(I j y O).tr T U
end
/-! Nothing is forgotten where old memory stays. -/
def Kc:m8:=⟨λ_=>false,λ_=>false,λ_=>false⟩
def A.Fy(x:A):x.cq Kc=x:=by
 have h:∀cs:aa Lf,cs.all (Lf.fr Kc.l)=true:=λcs=>bT.2 λc _=>by cases c<;>rfl
 refine A.oF ?_;cases x with
 |lf x=>cases x<;>rfl
 |agg cs=>exact h cs
 |eY xs=>exact bT.2 λq _=>h q.2
 |fn f cap=>exact bT.2 λ_ _=>rfl
 |_=>rfl
def aS.Fy(x:aS):x.cq Kc=x:=by
 cases x with
 |aB cs=>exact bz aS.aB (A.agg.inj (A.Fy (.agg cs)))
 |gh xs=>exact bz aS.gh ((List.map_congr_left λx _=>A.Fy x).trans (List.map_id xs))
 |_=>rfl
def PC(k:aa Nat):iN (λ_=>false) k=false:=by unfold iN;split<;>rfl
def WH:Kc.OK (λ_=>false) (λ_=>false):=⟨λk _=>⟨.inr rfl,PC k⟩,λk _=>⟨rfl,PC k⟩,λ_ _=>rfl⟩
def Tr.gU(D:w.heap.size<=w'.heap.size)(C:∀ b,b<w.heap.size->w'.heap[b]?=w.heap[b]?/\aA b=af b)(hg:∀ b k,af b=some k->b<w.heap.size):Tr w w' af aA ρ ρ (λ_=>false) (λ_=>false):=
 ⟨D,λb hb hl=>⟨(C b hb).1,(C b hb).2.trans hl⟩,λb k hl _=>⟨(C b (hg b k hl)).1,(C b (hg b k hl)).2.trans hl⟩,λ_ _=>rfl,λ_ _ _ _ _=>rfl,λ_ _ _=>rfl⟩
def RA.gU{x:A}{u:Value}(h:RA w B af ρ x u)(C:w.heap.size<=w'.heap.size)(D:∀ b,b<w.heap.size->w'.heap[b]?=w.heap[b]?/\aA b=af b)(hg:∀ b k,af b=some k->b<w.heap.size):RA w' B aA ρ x u:=by
 have:=h.tr (.gU C D hg) WH
 rwa [A.Fy]at this
def dM.gU{x:Lf}{u:Value}(h:dM w B af ρ x u)(C:w.heap.size<=w'.heap.size)(D:∀b,b<w.heap.size->w'.heap[b]?=w.heap[b]?/\aA b=af b)(hg:∀b k,af b=some k->b<w.heap.size):dM w' B aA ρ x u:=RA.gU (x:=.lf x) h C D hg
def eI.gU{cs:aa Lf}{us:Array Value}(h:eI w B af ρ cs us)(C:w.heap.size<=w'.heap.size)(D:∀ b,b<w.heap.size->w'.heap[b]?=w.heap[b]?/\aA b=af b)(hg:∀ b k,af b=some k->b<w.heap.size):eI w' B aA ρ cs us:=
 ⟨h.1,λj x E=>let ⟨u,hu,r⟩:=h.2 j x E;⟨u,hu,r.gU C D hg⟩⟩
def dW.gU{r:Nat}{x:aS}(h:dW w B af ρ r x)(C:w.heap.size<=w'.heap.size)(D:∀ b,b<w.heap.size->w'.heap[b]?=w.heap[b]?/\aA b=af b)(hg:∀ b k,af b=some k->b<w.heap.size):dW w' B aA ρ r x:=by
 have:=h.tr (.gU C D hg) WH rfl rfl
 rwa [aS.Fy]at this
/-! A root's name is given anew. -/
def vg{d:Nat}{t:aa Nat->Bool}{c:Nat->Bool}(E:∀ k,cG d k=false->t k=false)(I:∀ r,r≠d->c r=false):(wW d).OK t c:=by
 have h:∀ k,cG d k=false->iN c k=false:=λk C=>by
  unfold iN;split
  next r D=>exact I r (by rintro rfl;simp[cG,D]at C)
  ·rfl
 exact⟨λk C=>⟨.inr (E k C),h k C⟩,λk C=>⟨E k C,h k C⟩,λr D=>I r (by rintro rfl;simp[wW]at D)⟩
def oH{d r:Nat}(h:r≠d):Nat.beq r d=false:=Bool.eq_false_iff.2 λe=>h (cN e)
def Tr.Fz{d:Nat}(C:∀ r,r≠d->ρ' r=ρ r):Tr w w af af ρ ρ' (λ_=>false) (λr=>Nat.beq r d):=
 ⟨dB _,λ_ _ h=>⟨rfl,h⟩,λ_ _ h _=>⟨rfl,h⟩,λr D=>C r (by rintro rfl;simp at D),λ_ _ _ _ _=>rfl,λ_ _ _=>rfl⟩
def RP.eZ{d:Nat}(C:∀r,r≠d->ρ' r=ρ r){p:Bool×aa Lf}{u:Value}(h:RP w B af ρ p u):RP w B af ρ' (p.1,p.2.map (Lf.drop d)) u:=h.tr (.Fz C) (vg (λ_ _=>rfl) λ_=>oH)
def RA.eZ{d:Nat}(C:∀r,r≠d->ρ' r=ρ r){x:A}{u:Value}(h:RA w B af ρ x u):RA w B af ρ' (x.drop d) u:=h.tr (.Fz C) (vg (λ_ _=>rfl) λ_=>oH)
def eI.eZ{d:Nat}(C:∀r,r≠d->ρ' r=ρ r){cs:aa Lf}{us:Array Value}(h:eI w B af ρ cs us):eI w B af ρ' (cs.map (Lf.drop d)) us:=h.tr (.Fz C) (vg (λ_ _=>rfl) λ_=>oH)
def dM.eZ{d:Nat}(C:∀r,r≠d->ρ' r=ρ r){x:Lf}{u:Value}(h:dM w B af ρ x u):dM w B af ρ' (x.drop d) u:=h.tr (.Fz C) (vg (λ_ _=>rfl) λ_=>oH)
def dW.eZ{d r:Nat}(C:∀r,r≠d->ρ' r=ρ r)(D:r≠d){x:aS}(h:dW w B af ρ r x):dW w B af ρ' r (x.drop d):=h.tr (.Fz C) (vg (λ_ _=>rfl) λ_=>oH) rfl (oH D)
def bG{α:Type}(f:Nat->α)(d:Nat)(x:α):Nat->α:=λk=>bif Nat.beq k d then x else f k
def bK{α:Type}(f:Nat->α)(d:Nat)(x:α):bG f d x d=x:=by simp[bG]
def cr{α:Type}(f:Nat -> α)(d:Nat)(x:α){k:Nat}(h:k≠d):bG f d x k=f k:=by
 have:Nat.beq k d=false:=by
  cases hb:Nat.beq k d with
  |false=>rfl
  |true=>simp_all
 simp[bG,this,ax]
def S.set(σ:S)(d:Nat)(x:A):S:={ σ with t:=bG σ.t d x }
def S.drop(σ:S)(d:Nat):S:=⟨λk=>(σ.t k).drop d,λr=>bif Nat.beq r d then none else (σ.m r).map (aS.drop d)⟩
def S.root(σ:S)(d:Nat)(x:aS):S:={ σ with m:=bG σ.m d (some x) }
def Rl.set{x:A}{v:Value}{d:Nat}(h:Rl w0 N af ρ σ a w)(D:RA w w0.heap.size af ρ x v)(hd:d<N):Rl w0 N af ρ (σ.set d x) (a.put (some d) v) w:=by
 refine⟨h.below,h.cV,h.root,λk=>?_,?_,h.defers,h.fix,h.cL⟩
 ·show RA w _ af ρ (bG σ.t d x k) ((a.tmps.setIfInBounds d v).getD k undef);by_cases C:k=d
  ·subst C;rw[bK,ig,Array.getElem?_setIfInBounds_self];have:k<a.tmps.size:=by rw[h.size];exact hd
   simp_all
  ·rw[cr _ _ _ C,ig,Array.getElem?_setIfInBounds_ne (Ne.symm C),<- ig];exact h.tmp k
 ·show (a.tmps.setIfInBounds d v).size=N;rw[Array.size_setIfInBounds];exact h.size
def Rl.grow(h:Rl w0 N af ρ σ a w)(hb:Below w.heap.size w w')(hl:∀ b,b<w.heap.size -> aA b=af b)(hg:∀ b k,w.heap.size <= b -> aA b=some k -> b<w'.heap.size/\k≠[]):Rl w0 N aA ρ σ a w':=by
 have D:∀b,b<w.heap.size -> w'.heap[b]?=w.heap[b]?/\aA b=af b:=λb E=>⟨hb.block b E,hl b E⟩
 refine⟨h.below.trans (.of hb h.below.size),λb k C=>?_,λr x I=>(h.root r x I).gU hb.size D (λb k hb=>(h.cV b k hb).2.1),λk=>(h.tmp k).gU hb.size D (λb k hb=>(h.cV b k hb).2.1),h.size,h.defers,h.fix,h.cL⟩
 rcases Nat.lt_or_ge b _ with O|oI
 ·rw[hl b O]at C;have:=h.cV b k C
  grind
 ·have:=hg b k oI C;exact⟨.inl (Nat.le_trans h.below.size oI),this.1,this.2⟩
def Rl.new{d:Nat}{x:aS}(h:Rl w0 N af ρ σ a w)(l:Loc)(O:dW w w0.heap.size af (bG ρ d l) d x)(hF:w0.F d=none):Rl w0 N af (bG ρ d l) ((σ.drop d).root d x) a w:=by
 have E:∀r,r≠d -> bG ρ d l r=ρ r:=λr D=>cr _ _ _ D
 refine⟨h.below,h.cV,λr y C=>?_,λk=>(h.tmp k).eZ E,h.size,h.defers,λr I D=>(E r (by rintro rfl;rw[hF]at D;cases D)).trans (h.fix r I D),h.cL⟩
 by_cases D:r=d
 ·subst D;have e:(bG (σ.drop r).m r _) r=some x:=bK _ _ _;have C:(bG (σ.drop r).m r _) r=some y:=C;simp_all
 ·have C:(bG (σ.drop d).m d _) r=some y:=C;rw[cr _ _ _ D]at C;have hb:Nat.beq r d=false:=by
   cases hb:Nat.beq r d with
   |false=>rfl
   |true=>simp_all
  simp only[S.drop,hb,ax]at C;cases hm:σ.m r with
  |none=>simp_all
  | some z=>
   rw[hm]at C;injection C with C;subst C;exact(h.root r z hm).eZ E D
end
def splice{α:Type}(l:aa α)(j:Nat)(xs:aa α):aa α:=l.take j++xs++l.drop (j+xs.length)
def tQ{α:Type}(l:aa α)(j:Nat)(xs:aa α)(h:j+xs.length<=l.length):(splice l j xs).length=l.length:=by
 simp[splice];omega
def wX{α:Type}(l:aa α)(j:Nat)(xs:aa α)(h:j+xs.length <= l.length)(n:Nat):
  (splice l j xs)[n]?=if n<j then l[n]? else if n<j+xs.length then xs[n-j]? else l[n]?:=by
 unfold splice
 grind
structure vh (w w':World) (bt:Nat):Prop where
 size:w'.heap.size=w.heap.size
 os:w'.os=w.os
 tape:w'.tape=w.tape
 output:w'.output=w.output
 block:∀k,k≠bt->w'.heap[k]?=w.heap[k]?
def Kd(w:World)(b o:Nat)(l:aa Value):vh w (w.setCells b o l) b:=by
 have g:=Ww b l o w;have s:=Wv b l o w
 refine⟨s,g.os,g.tape,g.output,λk C=>?_⟩
 rcases Nat.lt_or_ge k _ with D|oI
 ·exact g.block k D (by intro e;injection e with e;exact C e)
 ·simp_all
section
variable {w w':World} {w0:Wd} {B N:Nat} {af:bk} {ρ:Nat->Loc} {m m':Nat->aj aS} {σ:S} {a:Act} {bt:Nat} {kt:aa Nat}
def qU(w w':World)(af:bk)(ρ:Nat->Loc):Prop:=∀k ad v,addrAt w af ρ k=some ad->w.cell? ad=some v->mc v=true->w'.cell? ad=some v
def PD(D:qU w w' af ρ):∀ (k:aa Nat) (ad:Addr),addrAt w af ρ k=some ad -> addrAt w' af ρ k=some ad
 |[],_,h=>h
 |[_],_,h=>h
 |[_,_],_,h=>h
 |[j,i,s,r],_,h=>by simp only[addrAt]at h ⊢;exact h
 | j :: i :: s :: x :: y :: q,ad,h=>by
  simp only[addrAt]at h ⊢;cases C:addrAt w af ρ (x::y::q)with
  |none=>simp_all
  | some I=>
   rw[PD D _ _ C];rw[C]at h;cases E:w.cell? I with
   |none=>simp_all
   | some v=>
    simp only[Option.bind_some,E]at h;have hv:mc v=true:=by
     split at h
     next e=>injection e with e;subst e;rfl
     ·cases h
    simp only[Option.bind_some,D _ _ _ C E hv];exact h
def WI(D:qU w w' af ρ)(k:aa Nat)(u:Value)(E:mc u=true)(h:cQ w af ρ k=some u):cQ w' af ρ k=some u:=by
 match k,h with
 |[r],h=>exact h
 | x :: y :: q,h=>
  simp[cQ]at h ⊢;cases C:addrAt w af ρ _ with
  |none=>rw[C]at h;cases h
  | some ad=>
   rw[PD D _ _ C];rw[C]at h;exact D _ _ _ C h E
def dM.wrote{x:Lf}{u:Value}(h:dM w B af ρ x u)(hw:vh w w' bt)(hl:af bt=some kt)(C:qU w w' af ρ):dM w' B af ρ x u:=by
 cases x with
 |v x=>exact⟨h.1,h.2.apart hl (.inr h.1) (Nat.le_of_eq hw.size.symm) hw.block⟩
 |own k=>exact⟨h.1,WI C k u h.1 h.2⟩
 |dead=>trivial
def eI.wrote{cs:aa Lf}{us:Array Value}(h:eI w B af ρ cs us)(hw:vh w w' bt)(hl:af bt=some kt)(C:qU w w' af ρ):eI w' B af ρ cs us:=
 ⟨h.1,λj x D=>let ⟨u,hu,r⟩:=h.2 j x D;⟨u,hu,r.wrote hw hl C⟩⟩
def RP.wrote{p:Bool×aa Lf}{u:Value}(h:RP w B af ρ p u)(hw:vh w w' bt)(hl:af bt=some kt)(C:qU w w' af ρ):RP w' B af ρ p u:=by
 obtain⟨b,cs⟩:=p;cases b with
 |true=>obtain⟨us,e,h⟩:=h;exact⟨us,e,h.wrote hw hl C⟩
 |false=>exact eI.wrote h hw hl C
def RF.wrote{cs:aa V}{u:Value}(h:RF w B af cs u)(hw:vh w w' bt)(hl:af bt=some kt):RF w' B af cs u:=by
 obtain⟨b,off,e,hb,C,h⟩:=h;have E:b≠bt:=by rintro rfl;rw[hl]at C;cases C
 refine⟨b,off,e,by rw[hw.size];exact hb,C,λj x I=>?_⟩
 obtain⟨D,v,hv,O⟩:=h j x I;exact⟨D,v,(World.cell?_of_block (hw.block b E)).trans hv,O.apart hl (.inr D) (Nat.le_of_eq hw.size.symm) hw.block⟩
def RA.wrote{x:A}{u:Value}(h:RA w B af ρ x u)(hw:vh w w' bt)(hl:af bt=some kt)(C:qU w w' af ρ):RA w' B af ρ x u:=by
 cases x with
 |undef=>trivial
 |skip=>exact h
 |lf x=>exact dM.wrote h hw hl C
 |agg cs=>exact RP.wrote (p:=(true,cs)) h hw hl C
 |eY xs=>obtain⟨us,e,D,h⟩:=h;exact⟨us,e,D,λj p hp=>let ⟨v,hv,r⟩:=h j p hp;⟨v,hv,r.wrote hw hl C⟩⟩
 |ptr k=>obtain⟨ad,e,h⟩:=h;exact⟨ad,e,PD C _ _ h⟩
 |view k s i j=>obtain⟨A,n,c,h,g⟩:=h;exact⟨A,n,c,WI C k _ rfl h,g⟩
 |pk r n=>exact h
 |aL r j=>exact h
 |iW cs=>exact RF.wrote h hw hl
 |m7 f cs=>obtain⟨pv,e,h⟩:=h;exact⟨pv,e,h.wrote hw hl⟩
 |fn f cap=>exact h
def dW.wrote{r:Nat}{x:aS}(h:dW w B af ρ r x)(hw:vh w w' bt)(hl:af bt=some kt)(T:qU w w' af ρ)(I:¬ [r] <:+ kt):dW w' B af ρ r x:=by
 cases h with
 | aB b off cells e cs us D C hh Y U=>
  have O:b≠bt:=by rintro rfl;rw[hl]at C;injection C with C;subst C;exact I (List.suffix_refl _)
  exact .aB b off cells e cs us D C ((hw.block b O).trans hh) Y (λj x E=>⟨(U j x E).1,(U j x E).2.wrote hw hl T⟩)
 |sl v y D Z=>exact .sl v y D (Z.apart hl (.inl I) (Nat.le_of_eq hw.size.symm) hw.block)
 | mp b c es l D C hh he=>
  have O:b≠bt:=by rintro rfl;rw[hl]at C;injection C with C;subst C;exact I (List.suffix_refl _)
  exact .mp b c es l D C ((hw.block b O).trans hh) he
 |gh us xs D E=>exact .gh us xs D λj x hj=>(E j x hj).wrote hw hl T
def Rl.wrote(h:Rl w0 N af ρ σ a w)(hw:vh w w' bt)(hl:af bt=some kt)(E:qU w w' af ρ)(I:∀ r x,m' r=some x -> dW w' w0.heap.size af ρ r x):Rl w0 N af ρ ⟨σ.t,m'⟩ a w':=by
 have hb:=(h.cV bt kt hl).1;have O:∀ k,k<w0.heap.size -> w0.L k=none -> k≠bt:=by
  grind
 refine⟨⟨hw.os.trans h.below.os,hw.tape.trans h.below.tape,hw.output.trans h.below.output,by rw[hw.size];exact h.below.size,λk C D=>(hw.block k (O k C D)).trans (h.below.block k C D)⟩,λb k T=>?_,I,λk=>(h.tmp k).wrote hw hl E,h.size,h.defers,h.fix,h.cL⟩
 rw[hw.size];exact h.cV b k T
def WJ{r C:Nat}(h:C≠r):¬ [C] <:+ [r]:=by
 intro D;have:=D.eq_of_length rfl;simp_all
def Rl.FA{r j:Nat}{cs xs:aa Lf}{us:Array Value}(h:Rl w0 N af ρ σ a w)(hm:σ.m r=some (.aB cs))(hx:eI w w0.heap.size af ρ xs us)(hj:j+xs.length <= cs.length):
  ∃b off,ρ r = .aB b off/\w.there b (off+j) us.size/\Rl w0 N af ρ ⟨σ.t,bG σ.m r (some (.aB (splice cs j xs)))⟩ a (w.setCells b (off+j) us.toList):=by
 have T:=h.root r _ hm;generalize D:aS.aB cs=x at T;cases T with
 |sl=>cases D
 |mp=>cases D
 |gh=>cases D
 | aB b off cells e eV u cm hl hh hs hc=>
  injection D with D;subst D;have hlen:us.size=xs.length:=hx.1;have me:off+j+us.toList.length <= cells.size:=by rw[lG,hlen];omega
  have E:=Kd w b (off+j) us.toList;obtain⟨U,gV,nP⟩:=Fq b e us.toList (off+j) w cells hh me;have O:qU w (w.setCells b (off+j) us.toList) af ρ:=by
   intro k ad v ha hv fq;obtain⟨j',i',s',q,rfl,hq,_,_,hh'⟩:=A6 k ad ha;have bY:ad.block≠b:=by
    intro e
    grind
   exact(World.cell?_of_block (E.block _ bY)).trans hv
  refine⟨b,off,cm,λn hn=>⟨?_,frozen_of_row w b _ cells e hh⟩,h.wrote E hl O λr' y I=>?_⟩
  ·rw[cell_of_row w b _ cells e _ hh];simp;omega
  ·by_cases Y:r'=r
   ·subst Y;rw[bK]at I;injection I with I;subst I
    refine .aB b off U e _ (λn=>if n<j then u n else if n<j+xs.length then us.getD (n-j) undef else u n) cm hl gV ?_ λn x C=>?_
    ·rw[tQ _ _ _ hj,<- lG,nP]
     grind
    ·have e2:U[off+n]?=(splice cells.toList (off+j) us.toList)[off+n]?:=by
      rw[show U[off+n]?=U.toList[off+n]? by simp,nP];rfl
     rw[e2,wX _ _ _ (by simpa using me)];rw[wX _ _ _ hj]at C;by_cases Z:n<j
     ·rw[aV];simp only[Z]at C ⊢;refine⟨?_,(hc n x C).2.wrote E hl O⟩;simp_all
     ·by_cases h2:n<j+xs.length
      ·rw[aW,aV (by rw[lG,hlen];omega)];simp only[Z,h2,if_true,if_false]at C ⊢;obtain⟨v,hv,T⟩:=hx.2 (n-j) x C;have hg:us.getD (n-j) undef=v:=by rw[ig,hv];rfl
       rw[hg];refine⟨?_,T.wrote E hl O⟩
       grind
      ·rw[aW,aW (by rw[lG];omega)];simp only[Z,h2]at C ⊢;refine⟨?_,(hc n x C).2.wrote E hl O⟩
       grind
   ·rw[cr _ _ _ Y]at I;exact(h.root r' y I).wrote E hl O (WJ Y)
inductive yQ (m:Nat->Option aS):List Nat->V->(Nat->Option aS)->Prop
 |root (r:Nat) (y0 y:V) (h:m r=some (.sl y0)):yQ m [r] y (bG m r (some (.sl y)))
 | elem (j i:Nat) (q:List Nat) (t:TC) (o:Nat) (qn:Bool) (l:List (T t)) (y:V) (e:T t) (m':Nat->Option aS) (h:wV m q (.sl t (o+2) qn l)) (hi:i<l.length) (hj:j<aD t)
   (hd:dec t o (splice (enc t o l[i]) j [y])=some e) (hp:yQ m q (.sl t (o+2) qn (l.set i e)) m'):yQ m (j::i::aD t::q) y m'
def PE{α:Type}{a b c:aa α}(D:a <:+ c)(hb:b <:+ c)(h:a.length=b.length):a=b:=by
 obtain⟨x,E⟩:=D;obtain⟨y,C⟩:=hb;rw[<-E]at C;exact((List.append_inj' C h.symm).2).symm
def RV.Kg{q:aa Nat}{t:TC}{o:Nat}{Y:Bool}{l:aa (T t)}{i j:Nat}{xs:aa V}{e:T t}{b cap:Nat}{cs eV:Array Value}{u us:Nat -> Nat -> Value}
  (hl:af b=some q) (hh:w'.heap[b]?=some (.cells eV (tid t) (0,0))) (hs:eV.size=cap*aD t) (hn:l.length <= cap) (hm:cap <= maxLen/\(Y=true -> cap=l.length)) (hi:i<l.length) (hj:j+xs.length <= aD t)
  (hd:dec t o (splice (enc t o l[i]) j xs)=some e)
  (hc:∀D (h:D<l.length) (C:Nat) x,(enc t o l[D])[C]?=some x -> ¬ (D=i/\j <= C/\C<j+xs.length) -> eV[D*aD t+C]?=some (u D C)/\RV w' B af (C::D::aD t::q) x (u D C))
  (hx:∀(n:Nat) x,xs[n]?=some x -> eV[i*aD t+(j+n)]?=some (us i (j+n))/\RV w' B af ((j+n)::i::aD t::q) x (us i (j+n))):
  RV w' B af q (.sl t (o+2) Y (l.set i e)) (.slice (some ⟨b,0,none⟩) l.length cap):=by
 have hlen:(l.set i e).length=l.length:=jh;have key:∀ D (h:D<(l.set i e).length) (C:Nat) x,(enc t o (l.set i e)[D])[C]?=some x ->
   ∃v,eV[D*aD t+C]?=some v/\RV w' B af (C::D::aD t::q) x v:=by
  intro D h C x I;rw[List.getElem_set]at I;by_cases hii:i=D
  ·subst hii;rw[aV rfl]at I;have hk:=lJ t o _ e hd;have sr:C<(enc t o e).length:=(dK.1 I).1;rw[<- hk.1]at sr;have E:=bJ sr;generalize (splice (enc t o l[i]) j xs)[C]=y at E;have hw:=hk.2 C y x E I;rw[wX _ _ _ (by rw[kG];exact hj)]at E;by_cases Z:C<j
   ·rw[aV Z]at E;obtain⟨O,U⟩:=hc i hi C y E (by omega);exact⟨_,O,U.wk hw⟩
   ·by_cases h2:C<j+xs.length
    ·rw[aW Z,aV h2]at E;obtain⟨O,U⟩:=hx _ y E;rw[show j+(C-j)=C by omega]at O U;exact⟨_,O,U.wk hw⟩
    ·rw[aW Z,aW h2]at E;obtain⟨O,U⟩:=hc i hi C y E (by omega);exact⟨_,O,U.wk hw⟩
  ·grind
 rw[<- hlen]
 refine .own q t o Y (l.set i e) b cap eV (λD C=>(eV[D*aD t+C]?).getD undef) hl hh hs (by rw[hlen];exact hn) ⟨hm.1,λh=>by rw[hlen];exact hm.2 h⟩ (λD h C x I=>?_) (λD h C x I=>?_)
 ·grind
 ·obtain⟨v,hv,hr⟩:=key D h C x I;simp_all
def WK{r:Nat}{q:aa Nat}(h:[r] <:+ q){C:Nat}(D:[C] <:+ q):C=r:=by
 have:=PE D h rfl;injection this
def yQ.ok{q:aa Nat}{y:V}(h:yQ m q y m')(U:∀ r x,m r=some x -> dW w B af ρ r x)(hw:vh w w' bt)(hl:af bt=some kt)(hq:q <:+ kt)(hC:qU w w' af ρ){hv:Value}(D:cQ w af ρ q=some hv)(Y:RV w' B af q y hv):
  ∀r x,m' r=some x -> dW w' B af ρ r x:=by
 induction h generalizing hv with
 | root r y0 y h=>
  intro O x C;by_cases I:O=r
  ·subst I;rw[bK]at C;injection C with C;subst C;simp only[cQ]at D;cases Z:ρ O with
   |aB b off=>grind
   |bC us=>grind
   | dG v=>
    rw[Z]at D;injection D with D;subst D;exact .sl v y Z Y
  ·rw[cr _ _ _ I]at C;exact(U O x C).wrote hw hl hC (λT=>I (WK hq T))
 | elem j i q t o qn l y e m' h hi hj hd hp ih=>
  obtain⟨A7,A8,fJ⟩:=h.ok U;have hqk:q <:+ kt:=List.IsSuffix.trans ⟨[j,i,aD t],rfl⟩ hq;cases fJ with
  |eD=>simp at hi
  |fF=>simp at hi
  |fP=>simp at hi
  |aG _ _ _ _ _ _ _ _ _ ho=>omega
  | own _ _ _ _ _ b cap cs us E hh T hn su hc I=>
   have bY:b≠bt:=by
    rintro rfl;rw[hl]at E;injection E with E;subst E;have:=hq.length_le
    grind
   have hz:=Nat.le_of_eq hw.size.symm
   refine ih hqk A8 (RV.Kg (us:=λ_ _=>hv) (u:=us) (cs:=cs) (xs:=[y]) E ((hw.block b bY).trans hh) T hn su hi (show j+1 <= aD t from hj) hd (λi' h' j' x C Kh=>⟨hc i' h' j' x C,(I i' h' j' x C).apart hl (.inl λoJ=>Kh ?_) hz hw.block⟩) (λn x C=>?_))
   ·have:=PE oJ hq rfl
    grind
   ·cases n with
    |succ n=>simp at C
    | zero=>
     simp at C;subst C;refine⟨?_,Y⟩;rw[Ka,A5 j i _ A8 E]at D;have D:w.cell? ⟨b,i*aD t+j,none⟩=some hv:=D;rw[cell_of_row w b _ cs _ _ hh]at D;exact D
def RV.WL{q:aa Nat}{x:V}{v:Value}(h:RV w B af q x v)(C:x.plain=true):mc v=false:=by
 cases h<;>first|rfl|cases C
def RV.tR{q C:aa Nat}{x:V}{v:Value}{B':Nat}{aA:bk}(h:RV w B af q x v)(D:x.plain=true):RV w' B' aA C x v:=by
 cases h<;>first|exact .int _ _ _|exact .bool _ _|exact .str _ _|cases D
def Rl.agP{j i:Nat}{q:aa Nat}{t:TC}{o:Nat}{qn:Bool}{l:aa (T t)}{xs:aa V}{us:Array Value}{e:T t}(h:Rl w0 N af ρ σ a w)(hg:wV σ.m q (.sl t (o+2) qn l))(hi:i<l.length)(hj:j+xs.length <= aD t)
  (hd:dec t o (splice (enc t o l[i]) j xs)=some e) (hold:∀(n:Nat) x,n<xs.length -> (enc t o l[i])[j+n]?=some x -> x.plain=true) (hxp:∀x∈xs,x.plain=true) (kH:us.size=xs.length) (hx:∀(n:Nat) x,xs[n]?=some x -> ∃u,us[n]?=some u/\RV w w0.heap.size af [] x u)
  (hp:yQ σ.m q (.sl t (o+2) qn (l.set i e)) m'):
  ∃b,addrAt w af ρ (j::i::aD t::q)=some ⟨b,i*aD t+j,none⟩/\w.there b (i*aD t+j) us.size/\Rl w0 N af ρ ⟨σ.t,m'⟩ a (w.setCells b (i*aD t+j) us.toList):=by
 obtain⟨A7,A8,fJ⟩:=hg.ok h.root;cases fJ with
 |eD=>simp at hi
 |fF=>simp at hi
 |fP=>simp at hi
 |aG _ _ _ _ _ _ _ _ _ ho=>omega
 | own _ _ _ _ _ b cap cs u O hh hs hn su hc hr=>
  have wY:i*aD t+aD t <= cap*aD t:=by
   have:(i+1)*aD t <= cap*aD t:=jX _ (by omega);rw[ji]at this;exact this
  have me:i*aD t+j+us.toList.length <= cs.size:=by rw[lG,kH,hs];omega
  have U:=Kd w b (i*aD t+j) us.toList;obtain⟨I,gV,nP⟩:=Fq b (tid t) us.toList (i*aD t+j) w cs hh me;have tT:∀ n,I[n]?=if n<i*aD t+j then cs[n]? else if n<i*aD t+j+xs.length then us[n-(i*aD t+j)]? else cs[n]?:=by
   intro n;have e2:I[n]?=(splice cs.toList (i*aD t+j) us.toList)[n]?:=by
    rw[show I[n]?=I.toList[n]? by simp,nP];rfl
   rw[e2,wX _ _ _ (by simpa using me),lG,kH];simp
  have FB:I.size=cs.size:=by
   rw[<- lG,nP];have:=tQ cs.toList _ us.toList (by simpa using me)
   grind
  have hC:qU w (w.setCells b (i*aD t+j) us.toList) af ρ:=by
   intro k ad v ha hv fq;by_cases bY:ad.block=b
   ·obtain⟨E,C,s',q',rfl,sq,agQ,vi,_⟩:=A6 k ad ha;have sv:ad=⟨b,ad.off,none⟩:=by cases ad;simp_all
    rw[sv,cell_of_row w b _ cs _ _ hh]at hv;rw[sv,cell_of_row _ b _ I _ _ gV,tT];by_cases h1:ad.off<i*aD t+j
    ·rw[aV h1];exact hv
    ·by_cases h2:ad.off<i*aD t+j+xs.length
     ·exfalso;have FC:ad.off-(i*aD t+j)<xs.length:=by omega
      have wZ:j+(ad.off-(i*aD t+j))<(enc t o l[i]).length:=by rw[kG];omega
      have Z:=bJ wZ;generalize (enc t o l[i])[j+(ad.off-(i*aD t+j))]=y at Z;have yR:=hold _ y FC Z;have Y:=hc i hi _ y Z;rw[show i*aD t+(j+(ad.off-(i*aD t+j)))=ad.off by omega]at Y;rw[hv]at Y;injection Y with Y;have:=(hr i hi _ y Z).WL yR;rw[<- Y,fq]at this;cases this
     ·rw[aW h1,aW h2];exact hv
   ·exact(World.cell?_of_block (U.block _ bY)).trans hv
  refine⟨b,A5 j i (aD t) A8 O,λn qV=>⟨?_,frozen_of_row w b _ cs _ hh⟩,h.wrote U O hC (hp.ok h.root U O (List.suffix_refl _) hC A8 ?_)⟩
  ·rw[cell_of_row w b _ cs _ _ hh];simp;omega
  ·refine RV.Kg (u:=u) (us:=λ_ n=>us.getD (n-j) undef) (cs:=cs) (xs:=xs) O gV (FB.trans hs) hn su hi hj hd (λC h' E x D Kh=>?_) (λn x D=>?_)
   ·have sr:E<aD t:=by have:=(dK.1 D).1;rwa [kG]at this
    refine⟨?_,(hr C h' E x D).apart O (.inl λoJ=>?_) (Nat.le_of_eq U.size.symm) U.block⟩
    ·rw[tT];have A9:¬ (¬ C*aD t+E<i*aD t+j/\C*aD t+E<i*aD t+j+xs.length):=by
      rintro⟨h1,h2⟩;rcases Nat.lt_trichotomy C i with dI|heq|C8
      ·have:(C+1)*aD t <= i*aD t:=jX _ dI;rw[ji]at this;omega
      ·subst heq
       grind
      ·have:(i+1)*aD t <= C*aD t:=jX _ C8;rw[ji]at this;omega
     split
     ·exact hc C h' E x D
     ·rw[aW];exact hc C h' E x D
    ·have:=oJ.length_le;simp at this;omega
   ·obtain⟨v,hv,pX⟩:=hx n x D;have qV:n<xs.length:=(dK.1 D).1;have C9:us.getD (j+n-j) undef=v:=by rw[show j+n-j=n by omega,ig,hv];rfl
    rw[C9,tT,aW,aV];refine⟨?_,pX.tR (hxp x (gC D))⟩;rw[show i*aD t+(j+n)-(i*aD t+j)=n by omega];exact hv
end
def PF:Value->A
 |.bool b=>.lf (.v (.bool b))
 |.int k n=>.lf (.v (.int k n))
 |.string s=>.lf (.v (.str s))
 |.slice none 0 0=>.lf (.v .nil)
 |_=>.undef
def aK(σ:S):Operand->A
 |.tmp t=>σ.t t
 |.const v=>PF v
 |.func f=>.fn f []
 |.global _=>.undef
def gW{X:Type}(N:Nat)(σ:S)(C:aj Tmp)(x:A)(k:S->aj X):aj X:=
 match C with
 |none=>k σ
 |some d=>bif Nat.blt d N then k (σ.set d x)else none
def kW(P:Program)(w0:Wd)(N:Nat)(o:Oper)(σ D:S):Prop:=
 ∀a w K Q,R w0 N σ a w->(∀C w',R w0 N D C w'->K C w')->o.wp P a w K Q
section
variable {P:Program} {w:World} {w0:Wd} {B N:Nat} {af:bk} {ρ:Nat->Loc} {σ:S} {a:Act} {X:Type} {r:X} {k:S->aj X} {o:Oper}
def agR(v:Value):RA w B af ρ (PF v) v:=by
 unfold PF;split
 ·exact⟨rfl,.bool _ _⟩
 ·exact⟨rfl,.int _ _ _⟩
 ·exact⟨rfl,.str _ _⟩
 ·exact⟨rfl,.nil _⟩
 ·trivial
def Rl.aK(h:Rl w0 N af ρ σ a w)(x:Operand):RA w w0.heap.size af ρ (aK σ x) (a.eval x):=by
 cases x with
 |tmp t=>exact h.tmp t
 |const v=>exact agR v
 |func f=>exact⟨#[],rfl,rfl,by simp⟩
 |global g=>trivial
def kW.val{x:A}(C:gW N σ o.dst x k=some r)(h:∀ af ρ a w,Rl w0 N af ρ σ a w -> ∃ v,(execOp a.eval o).run P w = .ok (.value v) w/\RA w w0.heap.size af ρ x v):∃ I,k I=some r/\kW P w0 N o σ I:=by
 unfold gW at C;split at C
 ·rename_i hd
  refine⟨σ,C,λa w K Q D E=>?_⟩
  obtain⟨af,ρ,hl⟩:=D;obtain⟨v,hv,O⟩:=h af ρ a w hl;unfold Oper.wp;rw[hv,Oper.upon_value,hd];exact E _ _ ⟨af,ρ,hl⟩
 ·rename_i d hd;cases hN:Nat.blt d N with
  |false=>simp_all
  | true=>
   rw[hN]at C
   refine⟨_,C,λa w K Q D E=>?_⟩
   obtain⟨af,ρ,hl⟩:=D;obtain⟨v,hv,O⟩:=h af ρ a w hl;unfold Oper.wp;rw[hv,Oper.upon_value,hd];exact E _ _ ⟨af,ρ,hl.set O (by have:=cz hN;omega)⟩
/-! What does the same whatever comes behind. -/
def mg{α:Type}(f:(X:Type)->(α->aj X)->aj X)(y:α):Prop:=∀(X:Type) (k:α->aj X),f X k=k y
def mg.at_{α:Type}{f:(X:Type)->(α->aj X)->aj X}{y:α}(h:mg f y){X:Type}(k:α->aj X):f X k=k y:=h X k
def cw{α:Type}(f:(X:Type)->(α->aj X)->aj X):Prop:=∀(X Y:Type) (k:α->aj X) (g:X->aj Y),(f X k).bind g=f Y λy=>(k y).bind g
def cw.lM{α:Type}{f:(X:Type)->(α->aj X)->aj X}(n:cw f){X:Type}{k:α->aj X}{r:X}(h:f X k=some r):∃ y,k y=some r/\mg f y:=by
 have e:∀(Y:Type) (k:α->aj Y),f Y k=(f α some).bind k:=λY k=>(n α Y some k).symm
 rw[e]at h;cases C:f α some with
 |none=>rw[C]at h;cases h
 |some y=>rw[C]at h;exact⟨y,h,λX k=>by rw[e,C];rfl⟩
def cw.comp{α β:Type}{f:(X:Type)->(α->aj X)->aj X}{b:(X:Type)->(β->aj X)->α->aj X}(n:cw f)(m:∀y,cw λX k=>b X k y):cw λX k=>f X (b X k):=λX Y k g=>(n X Y _ g).trans (bz _ (funext λy=>m y X Y k g))
def c9{X Y:Type}{b:Bool}{x y:aj X}{C D:aj Y}{g:X->aj Y}(E:x.bind g=C)(I:y.bind g=D):(bif b then x else y).bind g=bif b then C else D:=by
 cases b
 ·exact I
 ·exact E
/-! Contents of leaves. -/
def iY{X:Type}(m:Nat->aj aS):aa Nat->(V->aj X)->aj X
 | [r],k=>match m r with
  |some (.sl y)=>k y
  |_=>none
 | j :: i :: s :: q,k=>iY m q λy=>match y with
  |.sl t (o+2) _ l=>if s=aD t then (if h:i<l.length then (match (enc t o l[i])[j]? with|some z=>k z|none=>none)else none)else none
  |_=>none
 |_,_=>none
def sx{m:Nat -> aj aS}:∀ (q:aa Nat) (k:V -> aj X),iY m q k=some r -> ∃ y,wV m q y/\k y=some r
 |[],_,h=>by simp[iY]at h
 | [x],k,h=>by
  simp only[iY]at h;split at h
  next y D=>exact⟨y,.root x y D,h⟩
  ·cases h
 | j :: i :: s :: q,k,h=>by
  obtain⟨y,D,C⟩:=sx q _ h;clear h;split at C
  ·split at C
   ·rename_i E;subst E;split at C
    ·rename_i hi;split at C
     next z I=>exact⟨z,.elem j i q _ _ _ _ z D hi I,C⟩
     ·cases C
    ·cases C
   ·cases C
  ·cases C
def oK{X:Type}(σ:S)(x:Lf)(k:V->aj X):aj X:=
 match x with
 |.v y=>k y
 |.own q=>iY σ.m q k
 |.dead=>none
def RV.part{q:aa Nat}{tc:TC}{g:Nat}{O:Bool}{xs:aa (T tc)}{A:aj Addr}{n c a h:Nat}(E:RV w B af q (.sl tc g O xs) (.slice A n c))(hg:g<2)(h1:a <= h)(C:h <= xs.length):RV w B af q (.sl tc g false ((xs.take h).drop a)) (sliced A a h c (aD tc))/\n=xs.length/\xs.length <= c:=by
 have hlen:((xs.take h).drop a).length=h-a:=by simp;omega
 cases E with
 | eD=>
  have:a=0:=by simp at C;omega
  have:h=0:=by simpa using C
  subst_vars
  exact⟨.eD _ _ _,rfl,dB _⟩
 | fF=>
  have:h=0:=by simpa using C
  subst this;have:a=0:=by omega
  subst this;exact⟨by unfold sliced;split<;>exact .fF _ _ _ _ _ hg,rfl,iL _⟩
 | fP=>
  have:h=0:=by simpa using C
  subst this;have:a=0:=by omega
  subst this;exact⟨by unfold sliced;split<;>exact .fF _ _ _ _ _ hg,rfl,iL _⟩
 |own=>omega
 | aG _ _ _ _ _ b off cap u U hl hb hB Y Z E=>
  refine⟨?_,rfl,Y⟩;by_cases he:a=h
  ·subst he;have e0:=vb (by rw[hlen];omega);rw[e0];unfold sliced;rw[Nat.sub_self];split<;>exact .fF _ _ _ _ _ hg
  ·unfold sliced;rw[aW,<- hlen];have J4:(some (⟨b,off,none⟩:Addr)).map (·.add (a*aD tc))=some ⟨b,off+a*aD tc,none⟩:=by
    simp;unfold Addr.add;simp_all
   rw[J4];have I:∀ i (hi:i<((xs.take h).drop a).length),((xs.take h).drop a)[i]=xs[a+i]'(by omega):=by
    intro i hi;simp_all
   refine .aG _ _ _ _ _ b (off+a*aD tc) (c-a) (λi j=>u (a+i) j) U hl hb hB (by omega) (λi hi j x D=>?_) (λi hi j x D=>?_)
   ·rw[I]at D;have:=Z _ _ j x D
    grind
   ·rw[I i]at D
    grind
def WM(s i j:Nat):V->aj V
 |.sl t _ _ l=>bif Nat.beq s (aD t)then some (.sl t 0 false ((l.take j).drop i))else none
 |_=>none
def vj{X:Type}(σ:S)(q:aa Nat)(s i j:Nat)(k:V->aj X):aj X:=
 iY σ.m q λy=>match WM s i j y with
  |some z=>k z
  |none=>none
def sy{X:Type}(σ:S)(y:A)(k:V->aj X):aj X:=
 match y with
 |.lf l=>oK σ l k
 |.view q s i j=>vj σ q s i j k
 |_=>none
def WN{q:aa Nat}{s i j:Nat}{k:V -> aj X}(h:vj σ q s i j k=some r):∃ z,k z=some r/\z.aG=true /\ ∀ w0 N af ρ a w,Rl w0 N af ρ σ a w -> ∀ u,RA w w0.heap.size af ρ (.view q s i j) u -> ∀ B',RV w B' (λ_=>none) [] z u:=by
 obtain⟨y,T,E⟩:=sx q _ h;clear h;split at E
 ·rename_i z C;unfold WM at C;split at C
  ·rename_i t g U l;cases I:Nat.beq s (aD t)with
   |false=>simp_all
   | true=>
    rw[I,au]at C;obtain rfl:=cN I;injection C with C;subst C
    refine⟨_,E,rfl,λw0 N af ρ a w Y u Z B'=>?_⟩
    obtain⟨A,n,c,hv,h1,h3,rfl⟩:=Z;obtain⟨v,D,hr⟩:=T.ok Y.root;rw[hv]at D;injection D with D;subst D;have O:RV w B' (λ_=>none) [] (.sl t 0 U l) (.slice A n c):=hr.gn;have hn:n=l.length:=by cases O<;>rfl
    exact(O.part (by omega) h1 (by omega)).1
  ·cases C
 ·cases E
def vK{X:Type}(x:A)(k:V->aj X):aj X:=
 match x with
 |.lf (.v y)=>k y
 |_=>none
def PG{x:A}{k:V -> aj X}(h:vK x k=some r):∃ y,x = .lf (.v y)/\k y=some r:=by
 unfold vK at h
 grind
def RV.gK{q:aa Nat}{k:IntKind}{n:Int}{u:Value}(h:RV w B af q (.int k n) u):u = .int k n:=by cases h;rfl
def RV.yS{q:aa Nat}{n:Bool}{u:Value}(h:RV w B af q (.bool n) u):u = .bool n:=by cases h;rfl
def RV.w7{q:aa Nat}{n:ByteArray}{u:Value}(h:RV w B af q (.str n) u):u = .string n:=by cases h;rfl
/-! Arithmetic and comparison. -/
def bV(n:Nat):Bool:=decide (n<1073741824)
def FD{X:Type}(P:Program)(ty:TypeId)(op:BinOp)(x y:V)(k:V->aj X):aj X:=
 match x,y with
 | .int C a,.int D b=>match op with
  |.shl=>if b<0 then none else k (.int C (C.wrap (a*2 ^ (min b.toNat C.bits))))
  |.shr=>if b<0 then none else k (.int C (a.fdiv (2 ^ (min b.toNat C.bits))))
  | op=>if C=D then (match op with
   |.add=>k (.int C (C.wrap (a+b)))
   |.sub=>k (.int C (C.wrap (a-b)))
   |.mul=>k (.int C (C.wrap (a*b)))
   |.quo=>if b=0 then none else k (.int C (C.wrap (a.tdiv b)))
   |.rem=>if b=0 then none else k (.int C (a.tmod b))
   |.and=>k (.int C (bits .and C a b))
   |.or=>k (.int C (bits .or C a b))
   |.xor=>k (.int C (bits .xor C a b))
   |.andNot=>k (.int C (bits .andNot C a b))
   |.eql=>k (.bool (a==b))
   |.neq=>k (.bool (a != b))
   |.lss=>k (.bool (decide (a<b)))
   |.leq=>k (.bool (decide (a<=b)))
   |.gtr=>k (.bool (decide (a > b)))
   |.geq=>k (.bool (decide (a >= b)))
   |_=>none)else none
 | .bool a,.bool b=>match P.underlying ty with
  | some .bool=>(match op with
   |.eql=>k (.bool (a==b))
   |.neq=>k (.bool (!(a==b)))
   |_=>none)
  |_=>none
 | .str a,.str b=>match op with
  |.add=>bif bV (a.size+b.size)then k (.str (a++b))else none
  |.eql=>k (.bool (a.toList==b.toList))
  |.neq=>k (.bool (!(a.toList==b.toList)))
  |_=>none
 |_,_=>none
def agS{ty:TypeId}{O:BinOp}{x y:V}{k:V -> aj X}(h:FD P ty O x y k=some r):∃ z,k z=some r/\z.plain=true /\ ∀ (w:World) (B:Nat) (af:bk) (D E:Operand) (q I:aa Nat) (u v:Value),RV w B af q x u -> RV w B af I y v ->
  ∃t,(do eqGuard O ty D E u v;binOp O ty u v:Sem Value).run P w = .ok t w/\RV w B af [] z t:=by
 unfold FD at h;split at h
 ·rename_i kx a ky b;split at h
  ·split at h
   ·cases h
   ·rename_i hb
    refine⟨_,h,rfl,λw B af D E q I u v C hv=>?_⟩
    obtain rfl:=C.gK;obtain rfl:=hv.gK;exact⟨_,by simp[eqGuard,binOp,Op.shift,hb],.int _ _ _⟩
  ·split at h
   ·cases h
   ·rename_i hb
    refine⟨_,h,rfl,λw B af D E q I u v C hv=>?_⟩
    obtain rfl:=C.gK;obtain rfl:=hv.gK;exact⟨_,by simp[eqGuard,binOp,Op.shift,hb],.int _ _ _⟩
  ·rename_i Y Z;split at h
   ·rename_i hk;subst hk;cases O
    case shl=>exact absurd rfl Y
    case shr=>exact absurd rfl Z
    case quo=>
     by_cases hb:b=0
     ·simp only[hb,if_true]at h;cases h
     ·simp[hb]at h
      refine⟨_,h,rfl,λw B af D E q I u v C hv=>?_⟩
      obtain rfl:=C.gK;obtain rfl:=hv.gK;exact⟨_,by simp[eqGuard,binOp,Op.intDiv,hb],.int _ _ _⟩
    case rem=>
     by_cases hb:b=0
     ·simp only[hb,if_true]at h;cases h
     ·simp[hb]at h
      refine⟨_,h,rfl,λw B af D E q I u v C hv=>?_⟩
      obtain rfl:=C.gK;obtain rfl:=hv.gK;exact⟨_,by simp[eqGuard,binOp,Op.intDiv,hb],.int _ _ _⟩
    all_goals first
     | (refine⟨_,h,rfl,λw B af D E q I u v C hv=>?_⟩
        obtain rfl:=C.gK;obtain rfl:=hv.gK
        first
         |(refine⟨_,?_,.int _ _ _⟩;simp[eqGuard,binOp,Op.intArith];done)
         |(refine⟨_,?_,.int _ _ _⟩;simp[eqGuard,binOp,intBits_and,intBits_or,intBits_xor,intBits_andNot];done)
         |(refine⟨_,?_,.bool _ _⟩;simp[eqGuard,binOp,Op.intCmp];done))
     |cases h
   ·cases h
 ·rename_i a b;split at h
  ·rename_i U;split at h
   ·refine⟨_,h,rfl,λw B af D E q I u v C hv=>?_⟩
    obtain rfl:=C.yS;obtain rfl:=hv.yS;have e:binOp .eql ty (.bool a) (.bool b)=(do pure (.bool (<- Op.equal ty (.bool a) (.bool b)))):=rfl;have g:eqGuard .eql ty D E (.bool a) (.bool b)=pure ():=rfl;exact⟨_,by rw[e,g,gd,Sem.run_pure,l8,gd,run_equal_bool _ _ _ _ U];rfl,.bool _ _⟩
   ·refine⟨_,h,rfl,λw B af D E q I u v C hv=>?_⟩
    obtain rfl:=C.yS;obtain rfl:=hv.yS;have e:binOp .neq ty (.bool a) (.bool b)=(do pure (.bool (!(<- Op.equal ty (.bool a) (.bool b))))):=rfl;have g:eqGuard .neq ty D E (.bool a) (.bool b)=pure ():=rfl;exact⟨_,by rw[e,g,gd,Sem.run_pure,l8,gd,run_equal_bool _ _ _ _ U];rfl,.bool _ _⟩
   ·cases h
  ·cases h
 ·rename_i a b;split at h
  ·cases T:bV (a.size+b.size)with
   |false=>rw[T]at h;cases h
   | true=>
    rw[T]at h
    refine⟨_,h,rfl,λw B af D E q I u v C hv=>?_⟩
    obtain rfl:=C.w7;obtain rfl:=hv.w7;have hL':a.size+b.size<1073741824:=by simpa [bV]using T
    refine⟨_,?_,.str _ _⟩;have h9:IntKind.i64.max=9223372036854775807:=rfl;simp only[eqGuard,binOp,Op.stringOp,h9];simp;omega
  ·refine⟨_,h,rfl,λw B af D E q I u v C hv=>?_⟩
   obtain rfl:=C.w7;obtain rfl:=hv.w7;exact⟨_,by simp[eqGuard,binOp,Op.stringOp],.bool _ _⟩
  ·refine⟨_,h,rfl,λw B af D E q I u v C hv=>?_⟩
   obtain rfl:=C.w7;obtain rfl:=hv.w7;exact⟨_,by simp[eqGuard,binOp,Op.stringOp],.bool _ _⟩
  ·cases h
 ·cases h
def FE{X:Type}(D:UnOp)(x:V)(k:V->aj X):aj X:=
 match D,x with
 |.not,.bool b=>k (.bool (!b))
 |.neg,.int C n=>k (.int C (C.wrap (0-n)))
 |_,_=>none
def agT{D:UnOp}{x:V}{k:V->aj X}(h:FE D x k=some r):∃ z,k z=some r/\z.plain=true/\∀ (w:World) (B:Nat) (af:bk) (q:aa Nat) (u:Value),RV w B af q x u->∃ t,(Op.unary D u).run P w = .ok t w/\RV w B af [] z t:=by
 unfold FE at h;split at h
 ·refine⟨_,h,rfl,λw B af q u C=>?_⟩
  obtain rfl:=C.yS;exact⟨_,by simp[Op.unary],.bool _ _⟩
 ·refine⟨_,h,rfl,λw B af q u C=>?_⟩
  obtain rfl:=C.gK;exact⟨_,by simp[Op.unary,Op.intArith],.int _ _ _⟩
 ·cases h
def V.FF{x:V}(h:x.plain=true):x.aG=true:=by cases x<;>first|rfl|cases h
end
def jl(P:Program)(t:TypeId):aj Nat:=(P.info? t).map (·.size)
def Da(P:Program)(t:TypeId):aj Bool:=
 match P.underlying t with
 |some (.struct _)|some (.array _ _)=>some true
 |some _=>some false
 |none=>none
def pZ(P:Program)(t:TypeId):aj TypeId:=
 match P.underlying t with
 |some (.slice e)=>some e
 |_=>none
def FG(P:Program)(s:TypeId)(f:Nat):aj Field:=
 match P.underlying s with
 |some (.struct C)=>C[f]?
 |_=>none
def w8{X:Type}(P:Program)(t:TypeId)(cs:aa Lf)(k:A->aj X):aj X:=
 match jl P t with
 | some n=>if cs.length=n then (match Da P t with
  |some true=>k (.agg cs)
  | some false=>(match cs with
   |[y]=>k (.lf y)
   |_=>none)
  |none=>none)else none
 |none=>none
def leaves(key:Nat->aa Nat):Nat->aa V->aa Lf
 |_,[]=>[]
 |j,z::C=>(bif z.aG then .v z else .own (key j))::leaves key (j+1) C
def nQ{X:Type}(P:Program)(σ:S)(t:TypeId)(x:A)(k:A->aj X):aj X:=
 match jl P t with
 |none=>none
 | some n=>match x with
  | .aL r j=>(match σ.m r with
   |some (.aB cs)=>w8 P t ((cs.drop j).take n) k
   |_=>none)
  |.iW cs=>w8 P t ((cs.take n).map .v) k
  | .ptr (j :: i :: s :: q)=>iY σ.m q λy=>(match y with
   |.sl C (o+2) _ l=>if s=aD C then (if h:i<l.length then w8 P t (leaves (λD=>D::i::s::q) j (((enc C o l[i]).drop j).take n)) k else none)else none
   |_=>none)
  |_=>none
section
variable {P:Program} {w:World} {w0:Wd} {B N:Nat} {af:bk} {ρ:Nat->Loc} {σ:S} {a:Act} {X:Type} {r:X} {o:Oper}
def WO(key:Nat -> aa Nat):∀ (j:Nat) (C:aa V) (n:Nat),(leaves key j C)[n]?=(C[n]?).map λz=>bif z.aG then .v z else .own (key (j+n))
 |_,[],n=>by simp[leaves]
 |j,z::C,0=>by simp[leaves]
 | j,z :: C,n+1=>by
  simp[leaves,List.getElem?_cons_succ,WO]
  grind
def PI{t:TypeId}{cs:aa Lf}{k:A -> aj X}(h:w8 P t cs k=some r):∃ x,k x=some r /\ ∀ (w:World) (B:Nat) (af:bk) (ρ:Nat -> Loc) (b o:Nat) (D:aa Value),eI w B af ρ cs D.toArray -> w.rangeAt b o D ->
  ∃v,(Instr.loadAt t (.pointer (some ⟨b,o,none⟩))).run P w = .ok v w/\RA w B af ρ x v:=by
 unfold w8 at h;split at h
 ·rename_i n hn;split at h
  ·rename_i hlen;split at h
   ·rename_i C
    refine⟨_,h,λw B af ρ b o D hl I=>?_⟩
    have O:D.length=n:=by have:=hl.1;simpa [hlen]using this
    unfold Da at C;split at C
    next Y E=>exact⟨_,run_loadAt_mid w b o t D _ I E rfl (by rw[O];exact hn),_,rfl,hl⟩
    next c e E=>exact⟨_,run_loadAt_mid w b o t D _ I E rfl (by rw[O];exact hn),_,rfl,hl⟩
    ·cases C
    ·cases C
   ·rename_i C;split at h
    ·rename_i y
     refine⟨_,h,λw B af ρ b o D hl I=>?_⟩
     have O:D.length=1:=by have:=hl.1;simpa using this
     obtain⟨v,rfl⟩:=List.length_eq_one_iff.1 O;have hv:w.cell? ⟨b,o,none⟩=some v:=I 0 v rfl;obtain⟨u,E,T⟩:=hl.2 0 y rfl;have:v=u:=by simpa using E
     subst this;refine⟨v,?_,T⟩;unfold Da at C;split at C
     ·cases C
     ·cases C
     ·rename_i d Z ha E;have U:(isAgg t).run P w = .ok false w:=by
       unfold isAgg;rw[gd,gN E];simp_all
      simp[Instr.loadAt,Instr.sureAddr,loadVar,gd,U,load,Sem.run,hv]
     ·cases C
    ·cases h
   ·cases h
  ·cases h
 ·cases h
def Ki{α:Type}(l:aa α)(j n i:Nat)(x:α)(h:((l.drop j).take n)[i]?=some x):i<n/\l[j+i]?=some x:=by grind
def WQ{t:TypeId}{x:A}{k:A -> aj X}(h:nQ P σ t x k=some r):∃ y,k y=some r /\ ∀ af ρ a w,Rl w0 N af ρ σ a w -> ∀ u,RA w w0.heap.size af ρ x u ->
  ∃v,(Instr.loadAt t u).run P w = .ok v w/\RA w w0.heap.size af ρ y v:=by
 unfold nQ at h;split at h
 ·cases h
 ·rename_i n hn;split at h
  ·rename_i r' j;split at h
   ·rename_i cs lN;obtain⟨y,U,Y⟩:=PI h
    refine⟨y,U,λaf ρ a w hR u Z=>?_⟩
    obtain⟨b,off,cm,rfl⟩:=Z;have I:=hR.root r' _ lN;generalize T:aS.aB cs=x at I;cases I with
    |sl=>cases T
    |mp=>cases T
    |gh=>cases T
    | aB b' Ba cells e eV us kI hl hh hs hc=>
     injection T with T;subst T;rw[cm]at kI;injection kI with e1 e2;subst e1 e2
     refine Y w _ af ρ b (off+j) (((cs.drop j).take n).mapIdx λi _=>us (j+i)) ⟨by simp,λi x C=>?_⟩ (λi v hv=>?_)
     ·obtain⟨hi,lO⟩:=Ki _ _ _ _ _ C;simp_all
     ·rw[List.getElem?_mapIdx]at hv;cases C:((cs.drop j).take n)[i]? with
      |none=>rw[C]at hv;cases hv
      | some x=>
       rw[C]at hv;injection hv with hv;subst hv;obtain⟨hi,lO⟩:=Ki _ _ _ _ _ C;rw[cell_of_row w b _ cells _ _ hh,Nat.add_assoc];simp_all
   ·cases h
  ·rename_i cs;obtain⟨y,U,Y⟩:=PI h
   refine⟨y,U,λaf ρ a w hR u Z=>?_⟩
   obtain⟨b,off,rfl,hb,hl,hc⟩:=Z;have sA:∀ (i:Nat) (x:Lf),((cs.take n).map Lf.v)[i]?=some x -> ∃ z v,x = .v z/\z.aG=true/\w.cell? ⟨b,off+i,none⟩=some v/\RV w w0.heap.size af [] z v:=by
    intro i x C;rw[ez]at C;cases E:(cs.take n)[i]? with
    |none=>rw[E]at C;cases C
    | some z=>
     rw[E]at C;injection C with C;rw[List.getElem?_take]at E;split at E
     ·obtain⟨sB,v,hv,I⟩:=hc i z E
      grind
     ·cases E
   refine Y w _ af ρ b off (((cs.take n).map Lf.v).mapIdx λi _=>(w.cell? ⟨b,off+i,none⟩).getD undef) ⟨by simp,λi x C=>?_⟩ (λi v hv=>?_)
   ·obtain⟨z,v,rfl,sB,hv,I⟩:=sA i x C;refine⟨v,?_,sB,I⟩;simp_all
   ·rw[List.getElem?_mapIdx]at hv;cases C:((cs.take n).map Lf.v)[i]? with
    |none=>rw[C]at hv;cases hv
    |some x =>grind
  ·rename_i j i s q;obtain⟨y0,hg,O⟩:=sx _ _ h;clear h;split at O
   ·rename_i D o' qn l;split at O
    ·rename_i hs;subst hs;split at O
     ·rename_i hi;obtain⟨y,U,Y⟩:=PI O
      refine⟨y,U,λaf ρ a w hR u Z=>?_⟩
      obtain⟨ad,rfl,sv⟩:=Z;obtain⟨hv,kX,kY⟩:=hg.ok hR.root;cases kY with
      |eD=>simp at hi
      |fF=>simp at hi
      |fP=>simp at hi
      |aG _ _ _ _ _ _ _ _ _ ho=>omega
      | own _ _ _ _ _ b cap cs us nR hh hs hn su hc I=>
       rw[A5 j i (aD D) kX nR]at sv;injection sv with sv;subst sv;have sA:∀ (m:Nat) (x:Lf),(leaves (λj'=>j' :: i :: aD D :: q) j (((enc D o' l[i]).drop j).take n))[m]?=some x -> cs[i*aD D+(j+m)]?=some (us i (j+m))/\dM w w0.heap.size af ρ x (us i (j+m)):=by
        intro m x C;rw[WO]at C;cases E:(((enc D o' l[i]).drop j).take n)[m]? with
        |none=>rw[E]at C;cases C
        | some z=>
         rw[E]at C;injection C with C;have C:(bif z.aG then Lf.v z else Lf.own ((j+m)::i::aD D::q))=x:=C;obtain⟨_,Db⟩:=Ki _ _ _ _ _ E;have h3:=hc i hi _ z Db;have h4:=I i hi _ z Db;refine⟨h3,?_⟩;cases Dc:z.aG with
         | true=>
          rw[Dc]at C;subst C;exact⟨Dc,h4.key Dc⟩
         | false=>
          rw[Dc]at C;have C:Lf.own ((j+m)::i::aD D::q)=x:=C;subst C;refine⟨?_,?_⟩
          ·exact h4.Pw Dc
          ·rw[Ka,A5 _ i _ kX nR];show w.cell? _=_;rw[cell_of_row w b _ cs _ _ hh];exact h3
       refine Y w _ af ρ b (i*aD D+j) ((leaves (λj'=>j'::i::aD D::q) j (((enc D o' l[i]).drop j).take n)).mapIdx λm _=>us i (j+m)) ⟨by simp,λm x C=>?_⟩ (λm v hv=>?_)
       ·simp[*]
       ·rw[List.getElem?_mapIdx]at hv;cases C:(leaves (λj'=>j' :: i :: aD D :: q) j (((enc D o' l[i]).drop j).take n))[m]? with
        |none=>rw[C]at hv;cases hv
        | some x=>
         rw[C]at hv;injection hv with hv;subst hv;rw[cell_of_row w b _ cs _ _ hh,Nat.add_assoc];simp_all
     ·cases O
    ·cases O
   ·cases O
  ·cases h
end
def A.yT:A->aj (aa Lf)
 |.lf x=>some [x]
 |.agg xs=>some xs
 |_=>none
def Lf.live:Lf->Bool
 |.dead=>false
 |_=>true
def Lf.pl:Lf->aj V
 |.v x=>bif x.plain then some x else none
 |_=>none
def qW:aa Lf->aj (aa V)
 |[]=>some []
 | x :: xs=>match x.pl,qW xs with
  |some y,some ys=>some (y::ys)
  |_,_=>none
def xd{X:Type}(m:Nat->aj aS):aa Nat->V->((Nat->aj aS)->aj X)->aj X
 | [r],y,k=>match m r with
  |some (.sl _)=>k (bG m r (some (.sl y)))
  |_=>none
 | j :: i :: s :: q,y,k=>iY m q λz=>match z with
  | .sl t (o+2) C l=>if s=aD t then (if h:i<l.length then (if j<aD t then (match dec t o (splice (enc t o l[i]) j [y])with
   |some e=>xd m q (.sl t (o+2) C (l.set i e)) k
   |none=>none)else none)else none)else none
  |_=>none
 |_,_,_=>none
def p6{X:Type}(P:Program)(σ:S)(t:TypeId)(x y:A)(k:S->aj X):aj X:=
 match jl P t,y.yT with
 | some n,some xs=>if xs.length=n then (match x with
  | .aL r j=>(match σ.m r with
   |some (.aB cs)=>if j+n<=cs.length then (bif xs.all Lf.live then k ⟨σ.t,bG σ.m r (some (.aB (splice cs j xs)))⟩else none)else none
   |_=>none)
  | .ptr (j :: i :: s :: q)=>(match qW xs with
   |none=>none
   | some D=>iY σ.m q λy=>(match y with
    | .sl C (o+2) E l=>if s=aD C then (if h:i<l.length then (if j+D.length<=aD C then (bif (((enc C o l[i]).drop j).take D.length).all V.plain then (match dec C o (splice (enc C o l[i]) j D)with
     |some e=>xd σ.m q (.sl C (o+2) E (l.set i e)) λm=>k ⟨σ.t,m⟩
     |none=>none)else none)else none)else none)else none
    |_=>none))
  |_=>none)else none
 |_,_=>none
section
variable {P:Program} {w:World} {w0:Wd} {B N:Nat} {af:bk} {ρ:Nat->Loc} {σ:S} {a:Act} {X:Type} {r:X} {o:Oper}
def WR{m:Nat -> aj aS}:∀ (q:aa Nat) (y:V) (k:(Nat -> aj aS) -> aj X),xd m q y k=some r -> ∃ m',yQ m q y m'/\k m'=some r
 |[],_,_,h=>by simp[xd]at h
 | [x],y,k,h=>by
  simp only[xd]at h;split at h
  next D E=>exact⟨_,.root x D y E,h⟩
  ·cases h
 | j :: i :: s :: q,y,k,h=>by
  simp only[xd]at h;obtain⟨z,I,C⟩:=sx q _ h;clear h;split at C
  ·split at C
   ·rename_i O;subst O;split at C
    ·rename_i hi;split at C
     ·rename_i T;split at C
      next e U=>obtain⟨m',Y,Z⟩:=WR q _ k C;exact⟨m',.elem j i q _ _ _ _ y e m' I hi T U Y,Z⟩
      ·cases C
     ·cases C
    ·cases C
   ·cases C
  ·cases C
def Kj:∀ (xs:aa Lf) (C:aa V),qW xs=some C -> xs=C.map .v /\ ∀ v∈C,v.plain=true
 | [],C,h=>by
  simp[qW]at h;subst h;exact⟨rfl,by simp⟩
 | x :: xs,C,h=>by
  unfold qW at h;split at h
  ·rename_i y ys D E;injection h with h;subst h;obtain⟨I,O⟩:=Kj xs ys E;have:x = .v y/\y.plain=true:=by
    cases x with
    | v z=>
     unfold Lf.pl at D
     grind
    |own q=>cases D
    |dead=>cases D
   simp_all
  ·cases h
def agU{u:Value}(h:u.oneCell'=true):u.cells = #[u]:=by cases u<;>first|rfl|cases h
def dM.one{x:Lf}{u:Value}(h:dM w B af ρ x u)(hd:x.live=true):u.oneCell'=true:=by
 cases x with
 |v z=>exact h.2.one
 | own k=>
  have:=h.1;cases u<;>first|rfl|cases this
 |dead=>cases hd
def FH{y:A}{xs:aa Lf}(h:y.yT=some xs)(hd:xs.all Lf.live=true){u:Value}(C:RA w B af ρ y u):eI w B af ρ xs u.cells/\u.cells.all (·.oneCell')=true:=by
 have key:∀ us:Array Value,eI w B af ρ xs us -> us.all (·.oneCell')=true:=by
  intro us D;rw[Array.all_eq_true];intro i hi;have E:=bJ (by rw[<- D.1];exact hi);obtain⟨v,hv,I⟩:=D.2 i _ E;have:us[i]=v:=by rw[Array.getElem?_eq_getElem hi]at hv;injection hv
  rw[this];exact I.one (bT.1 hd _ (cR _))
 cases y with
 | lf x=>
  injection h with h;subst h;have C:dM w B af ρ x u:=C;have O:=C.one (by simpa using hd);have:eI w B af ρ [x] u.cells:=by
   rw[agU O]
   refine⟨rfl,λj y T=>?_⟩
   grind
  simp_all
 | agg U=>
  injection h with h;subst h;obtain⟨us,rfl,h⟩:=C;exact⟨h,key _ h⟩
 |_=>cases h
def PJ(w:World)(b o:Nat)(ty:TypeId)(v:Value)(D:w.there b o v.cells.size)(hi:(P.info? ty).map (·.size)=some v.cells.size)(E:v.cells.all (·.oneCell')=true):
  (Instr.storeAt ty (.pointer (some ⟨b,o,none⟩)) v).run P w = .ok () (w.setCells b o v.cells.toList):=by
 have:=run_storeCells_cells (P:=P) b o v.cells.toList 0 w (λj C=>by simpa using (D j (by simpa using C)).1) (λj C=>by simpa using (D j (by simpa using C)).2)
  (λv hv=>(Array.all_eq_true_iff_forall_mem.1 E) v (by simpa using hv))
 cases hq:P.info? ty with
 |none=>simp_all
 | some i=>
  have I:v.cells.size=i.size:=by simp[hq]at hi;omega
  simp[Instr.storeAt,Instr.sureAddr,storeVar,sizeOf,typeInfo,hq,I,this]
def WS{t:TypeId}{x y:A}{k:S -> aj X}(h:p6 P σ t x y k=some r):∃ c8,k c8=some r /\ ∀ af ρ a w,Rl w0 N af ρ σ a w -> ∀ u v,RA w w0.heap.size af ρ x u -> RA w w0.heap.size af ρ y v ->
  ∃w',(Instr.storeAt t u v).run P w = .ok () w'/\Rl w0 N af ρ c8 a w':=by
 unfold p6 at h;split at h
 ·rename_i n xs hn oL;split at h
  ·rename_i hlen;split at h
   ·rename_i r' j;split at h
    ·rename_i cs lN;split at h
     ·rename_i T;cases E:xs.all Lf.live with
      |false=>grind
      | true=>
       rw[E]at h
       refine⟨_,h,λaf ρ a w U u v Y hv=>?_⟩
       obtain⟨b,off,cm,rfl⟩:=Y;obtain⟨hl,Z⟩:=FH oL E hv;obtain⟨b',Ba,kI,FI,dU⟩:=U.FA lN hl (by rw[hlen];exact T);rw[cm]at kI;injection kI with e1 e2;subst e1 e2;exact⟨_,PJ w b (off+j) t v FI (by rw[hl.1,hlen];exact hn) Z,dU⟩
     ·cases h
    ·cases h
   ·rename_i j i s q;split at h
    ·cases h
    ·rename_i D lP;obtain⟨y0,hg,C⟩:=sx _ _ h;clear h;split at C
     ·rename_i t' o' qn l;split at C
      ·rename_i hs;subst hs;split at C
       ·rename_i hi;split at C
        ·rename_i T;cases hold:(((enc t' o' l[i]).drop j).take D.length).all V.plain with
         |false=>grind
         | true=>
          rw[hold,au]at C;split at C
          ·rename_i e he;obtain⟨m',sC,h3⟩:=WR q _ _ C
           refine⟨_,h3,λaf ρ a w U u v Y hv=>?_⟩
           obtain⟨ad,rfl,sv⟩:=Y;obtain⟨I,Kk⟩:=Kj xs D lP;have E:xs.all Lf.live=true:=by rw[I];simp[Lf.live]
           obtain⟨hl,Z⟩:=FH oL E hv;have Bb:D.length=n:=by rw[<- hlen,I,eS]
           have q1:∀ (n':Nat) x,n'<D.length -> (enc t' o' l[i])[j+n']?=some x -> x.plain=true:=by
            intro n' x qV hx;refine bT.1 hold x (gC (i:=n') ?_);simp_all
           have q2:∀ (n':Nat) x,D[n']?=some x -> ∃ O,v.cells[n']?=some O/\RV w w0.heap.size af [] x O:=by
            intro n' x hx;obtain⟨O,vk,fJ⟩:=hl.2 n' (.v x) (by rw[I,ez,hx];rfl);exact⟨O,vk,fJ.2⟩
           obtain⟨b,hb,FI,dU⟩:=U.agP (xs:=D) (us:=v.cells) hg hi T he q1 Kk (by rw[hl.1,I,eS]) q2 sC;rw[sv]at hb;injection hb with hb;subst hb;exact⟨_,PJ w b _ t v FI (by rw[hl.1,hlen];exact hn) Z,dU⟩
          ·cases C
        ·cases C
       ·cases C
      ·cases C
     ·cases C
   ·cases h
  ·cases h
 ·cases h
end
def Dd{X:Type}(P:Program)(s:TypeId)(x:A)(f:Nat)(k:A->aj X):aj X:=
 match FG P s f with
 |none=>none
 | some C=>match jl P C.type with
  | some (_+1)=>(match x with
   |.aL r j=>k (.aL r (j+C.offset))
   |.iW cs=>k (.iW (cs.drop C.offset))
   |.ptr (j::i::s::q)=>k (.ptr ((j+C.offset)::i::s::q))
   |_=>none)
  |_=>none
def yU{X:Type}(P:Program)(σ:S)(t:TypeId)(x i:A)(k:A->aj X):aj X:=
 match pZ P t with
 |none=>none
 | some e=>match jl P e,i with
  | some n,.lf (.v (.int _ iv))=>(match x with
   |.lf (.v (.sl C g _ l))=>if n=aD C then (bif Nat.blt g 2 then (if h:0<=iv/\iv.toNat<l.length then k (.iW (enc C g (l[iv.toNat]'h.2)))else none)else none)else none
   | .lf (.own q)=>iY σ.m q λy=>(match y with
    |.sl C g _ l=>if n=aD C then (if h:0<=iv/\iv.toNat<l.length then (bif Nat.blt g 2 then k (.iW (enc C g (l[iv.toNat]'h.2)))else k (.ptr (0::iv.toNat::aD C::q)))else none)else none
    |_=>none)
   |_=>none)
  |_,_=>none
def Bc{X:Type}(P:Program)(σ:S)(t:TypeId)(x:A)(k:A->aj X):aj X:=
 match x with
 | .lf y=>oK σ y λz=>(match z with
  |.sl _ _ _ l=>(match P.underlying t with|some (.slice _)=>k (.lf (.v (.int .i64 (l.length:Int))))|_=>none)
  |.nil=>(match P.underlying t with|some (.slice _)=>k (.lf (.v (.int .i64 0)))|_=>none)
  |.str s=>(match P.underlying t with|some .string=>k (.lf (.v (.int .i64 (s.size:Int))))|_=>none)
  |_=>none)
 |.view _ _ i j=>(match P.underlying t with|some (.slice _)=>k (.lf (.v (.int .i64 ((j-i:Nat):Int))))|_=>none)
 |_=>none
def yV:Bool×aa Lf->aj A
 |(true,cs)=>some (.agg cs)
 |(false,[y])=>some (.lf y)
 |_=>none
def Bd{X:Type}(x:A)(i:Nat)(k:A->aj X):aj X:=
 match x with
 | .eY xs=>match (xs[i]?).bind yV with
  |some y=>k y
  |none=>none
 |_=>none
section
variable {P:Program} {w:World} {w0:Wd} {B N:Nat} {af:bk} {ρ:Nat->Loc} {σ:S} {a:Act} {X:Type} {r:X} {o:Oper} {w':World} {aA:bk} {ρ':Nat->Loc} {d:Nat}
def agV(n:Nat){j i s:Nat}{q:aa Nat}{ad:Addr}(h:addrAt w af ρ (j :: i :: s :: q)=some ad):addrAt w af ρ ((j+n) :: i :: s :: q)=some ⟨ad.block,ad.off+n,none⟩:=by
 match q,h with
 | [r],h=>
  simp[addrAt]at h ⊢;split at h
  ·grind
  ·cases h
 | x :: y :: q,h=>
  simp[addrAt]at h ⊢;split at h
  ·grind
  ·cases h
def PL(w:World)(s:TypeId)(f:Nat)(C:Field)(n b off:Nat)(D:FG P s f=some C)(E:jl P C.type=some (n+1)):
  (Instr.fieldAt s (.pointer (some ⟨b,off,none⟩)) f).run P w = .ok (.pointer (some ⟨b,off+C.offset,none⟩)) w:=by
 unfold FG at D;split at D
 ·rename_i O I;unfold jl at E;cases hq:P.info? C.type with
  |none=>simp_all
  | some i=>
   have hi:i.size=n+1:=by simpa [hq]using E
   simp[Instr.fieldAt,gN I,D,Instr.sureAddr,fieldPlace,sizeOf,typeInfo,hq,hi,Addr.add_mid]
 ·cases D
def agW{s:TypeId}{x:A}{f:Nat}{k:A -> aj X}(h:Dd P s x f k=some r):∃ y,k y=some r /\ ∀ (w:World) (B:Nat) (af:bk) (ρ:Nat -> Loc) (u:Value),RA w B af ρ x u ->
  ∃v,(Instr.fieldAt s u f).run P w = .ok v w/\RA w B af ρ y v:=by
 unfold Dd at h;split at h
 ·cases h
 ·rename_i D E;split at h
  ·rename_i n hn;split at h
   ·rename_i Y j
    refine⟨_,h,λw B af ρ u C=>?_⟩
    obtain⟨b,off,T,rfl⟩:=C;exact⟨_,PL w s f D n b _ E hn,b,off,T,by rw[Nat.add_assoc]⟩
   ·rename_i cs
    refine⟨_,h,λw B af ρ u C=>?_⟩
    obtain⟨b,off,rfl,hb,hl,Z⟩:=C
    refine⟨_,PL w s f D n b _ E hn,b,_,rfl,hb,hl,λj x hx=>?_⟩
    grind
   ·rename_i j i s' q
    refine⟨_,h,λw B af ρ u C=>?_⟩
    obtain⟨ad,rfl,I⟩:=C;have U:=agV D.offset I;obtain⟨_,_,_,_,_,_,_,O,_⟩:=A6 _ _ I;obtain⟨b,off,sp⟩:=ad;simp only at O;subst O;exact⟨_,PL w s f D n b off E hn,_,rfl,U⟩
   ·cases h
  ·cases h
def PN(w:World)(t e:TypeId)(n b off len cap:Nat)(E:IntKind)(iv:Int)(C:pZ P t=some e)(D:jl P e=some n)(I:0 <= iv)(Y:iv.toNat<len):
  (Instr.indexAt t (.slice (some ⟨b,off,none⟩) len cap) (.int E iv)).run P w = .ok (.pointer (some ⟨b,off+iv.toNat*n,none⟩)) w:=by
 unfold pZ at C;split at C
 ·rename_i O T;injection C with C;subst C;unfold jl at D;cases hq:P.info? O with
  |none=>simp_all
  | some i=>
   have hi:i.size=n:=by simpa [hq]using D
   have U:iv<len:=by omega
   simp[Instr.indexAt,gN T,asIntOf,I,U,sizeOf,typeInfo,hq,hi,Addr.add_mid]
 ·cases C
def agX{t:TypeId}{x i:A}{k:A -> aj X}(h:yU P σ t x i k=some r):∃ y,k y=some r /\ ∀ af ρ a w,Rl w0 N af ρ σ a w -> ∀ u v,RA w w0.heap.size af ρ x u -> RA w w0.heap.size af ρ i v ->
  ∃p,(Instr.indexAt t u v).run P w = .ok p w/\RA w w0.heap.size af ρ y p:=by
 unfold yU at h;split at h
 ·cases h
 ·rename_i e Y;split at h
  ·rename_i n Z iv hn;split at h
   ·rename_i t' g qn l;split at h
    ·rename_i Be;subst Be;cases hg:Nat.blt g 2 with
     |false=>grind
     | true=>
      rw[hg,au]at h;split at h
      ·rename_i hb
       refine⟨_,h,λaf ρ a w T u v D hv=>?_⟩
       obtain rfl:=hv.2.gK;have Bf:g<2:=by have:=cz hg;omega
       cases D.2 with
       |eD=>simp at hb
       |fF=>simp at hb
       |fP=>simp at hb
       |own=>grind
       | aG _ _ _ _ _ b off cap us ho hl Bg h1 lK hc U=>
        refine⟨_,PN w t e _ b off _ cap Z iv Y hn hb.1 hb.2,b,_,rfl,Bg,hl,λj x E=>⟨pW t' g _ Bf j x E,us _ j,?_,U _ hb.2 j x E⟩⟩
        grind
      ·cases h
    ·cases h
   ·rename_i q;obtain⟨y0,hg,C⟩:=sx _ _ h;clear h;split at C
    ·rename_i t' I qn l;split at C
     ·rename_i Be;subst Be;split at C
      ·rename_i hb;cases O:Nat.blt I 2 with
       | true=>
        rw[O,au]at C;have WT:I<2:=cz O
        refine⟨_,C,λaf ρ a w T u v D hv=>?_⟩
        obtain rfl:=hv.2.gK;obtain⟨A7,kX,kY⟩:=hg.ok T.root;have:A7=u:=by
         have h3:=D.2;simp_all
        subst this;cases kY with
        |eD=>simp at hb
        |fF=>simp at hb
        |fP=>simp at hb
        |own=>grind
        | aG _ _ _ _ _ b off cap us ho hl Bg h1 lK hc U=>
         refine⟨_,PN w t e _ b off _ cap Z iv Y hn hb.1 hb.2,b,_,rfl,Bg,hl,λj x E=>⟨pW t' I _ WT j x E,us _ j,?_,U _ hb.2 j x E⟩⟩
         grind
       | false=>
        rw[O,ax]at C;have WT:¬ I<2:=λdI=>by have h9:Nat.blt I 2=true:=jj dI;rw[h9]at O;cases O
        refine⟨_,C,λaf ρ a w T u v D hv=>?_⟩
        obtain rfl:=hv.2.gK;obtain⟨A7,kX,kY⟩:=hg.ok T.root;have:A7=u:=by
         have h3:=D.2;simp_all
        subst this;cases kY with
        |eD=>simp at hb
        |fF=>simp at hb
        |fP=>simp at hb
        |aG _ _ _ _ _ _ _ _ _ ho=>omega
        | own _ _ _ _ _ b cap cs us nR hh hs qV su hc U=>
         refine⟨_,PN w t e _ b 0 _ cap Z iv Y hn hb.1 hb.2,_,rfl,?_⟩;rw[A5 0 _ _ kX nR];simp
      ·cases C
     ·cases C
    ·cases C
   ·cases h
  ·cases h
def agY{t ty:TypeId}{x:A}{k:A->aj X}(h:Bc P σ t x k=some r):∃ y,k y=some r/\∀ af ρ a w,Rl w0 N af ρ σ a w->∀ u,RA w w0.heap.size af ρ x u->
  ∃v,(Builtin.len_ #[t] ty #[u]).run P w = .ok v w/\RA w w0.heap.size af ρ y v:=by
 unfold Bc at h;split at h
 ·rename_i y;have key:∃ z,(∀ af ρ a w,Rl w0 N af ρ σ a w->∀ u,dM w w0.heap.size af ρ y u->∃ q,RV w w0.heap.size af q z u)/\(match z with
    |.sl _ _ _ l=>(match P.underlying t with|some (.slice _)=>k (.lf (.v (.int .i64 (l.length:Int))))|_=>none)
    |.nil=>(match P.underlying t with|some (.slice _)=>k (.lf (.v (.int .i64 0)))|_=>none)
    |.str s=>(match P.underlying t with|some .string=>k (.lf (.v (.int .i64 (s.size:Int))))|_=>none)
    |_=>none)=some r:=by
   cases y with
   |v z=>exact⟨z,λaf ρ a w _ u D=>⟨[],D.2⟩,h⟩
   |dead=>cases h
   | own q=>
    obtain⟨z,T,h⟩:=sx q _ h
    refine⟨z,λaf ρ a w I u D=>?_,h⟩
    obtain⟨v,hv,O⟩:=T.ok I.root;have U:=D.2;rw[hv]at U;injection U with U;subst U;exact⟨q,O⟩
  obtain⟨z,T,C⟩:=key;clear h;split at C
  ·rename_i Y g Z l;split at C
   ·rename_i e E
    refine⟨_,C,λaf ρ a w I u D=>?_⟩
    obtain⟨q,O⟩:=T af ρ a w I u D;cases O with
    |eD=>exact⟨_,by simp[Builtin.len_,gN E,goInt],rfl,.int _ _ _⟩
    |fF=>exact⟨_,by simp[Builtin.len_,gN E,goInt],rfl,.int _ _ _⟩
    |fP=>exact⟨_,by simp[Builtin.len_,gN E,goInt],rfl,.int _ _ _⟩
    |aG=>exact⟨_,by simp[Builtin.len_,gN E,goInt],rfl,.int _ _ _⟩
    |own=>exact⟨_,by simp[Builtin.len_,gN E,goInt],rfl,.int _ _ _⟩
   ·cases C
  ·split at C
   ·rename_i e E
    refine⟨_,C,λaf ρ a w I u D=>?_⟩
    obtain⟨q,O⟩:=T af ρ a w I u D;cases O;exact⟨_,by simp[Builtin.len_,gN E,goInt],rfl,.int _ _ _⟩
   ·cases C
  ·split at C
   ·rename_i E
    refine⟨_,C,λaf ρ a w I u D=>?_⟩
    obtain⟨q,O⟩:=T af ρ a w I u D;obtain rfl:=O.w7;exact⟨_,by simp[Builtin.len_,gN E,goInt],rfl,.int _ _ _⟩
   ·cases C
  ·cases C
 ·split at h
  ·rename_i e E
   refine⟨_,h,λaf ρ a w I u D=>?_⟩
   obtain⟨A,n,c,hv,h1,C,rfl⟩:=D;exact⟨_,by cases A<;>simp[sliced,Builtin.len_,gN E,goInt],rfl,.int _ _ _⟩
  ·cases h
 ·cases h
def PO{p:Bool×aa Lf}{y:A}(h:yV p=some y){u:Value}(C:RP w B af ρ p u):RA w B af ρ y u:=by
 unfold yV at h;split at h
 ·injection h with h;subst h;exact C
 ·rename_i z;injection h with h;subst h;obtain⟨D,E,I⟩:=C.2 0 z rfl;have:u=D:=by simpa using E
  subst this;exact I
 ·cases h
def agZ{x:A}{i:Nat}{k:A -> aj X}(h:Bd x i k=some r):∃ y,k y=some r /\ ∀ (w:World) (B:Nat) (af:bk) (ρ:Nat -> Loc) (u:Value),RA w B af ρ x u ->
  ∃v,(Instr.extract u i).run P w = .ok v w/\RA w B af ρ y v:=by
 unfold Bd at h;split at h
 ·rename_i xs;split at h
  ·rename_i y C
   refine⟨y,h,λw B af ρ u E=>?_⟩
   obtain⟨us,rfl,O,hp⟩:=E;cases D:xs[i]? with
   |none=>simp_all
   | some p=>
    rw[D]at C;obtain⟨v,hv,I⟩:=hp i p D;exact⟨v,by simp[Instr.extract,hv],PO C I⟩
  ·cases h
 ·cases h
def WU{k:aa Nat}(h:cG d k=true):[d] <:+ k:=by
 have h:k.getLast?=some d:=by simpa [cG]using h
 obtain⟨y,C⟩:=List.getLast?_eq_some_iff.1 h;simp_all
def Kl{j i s:Nat}{q:aa Nat}(hq:q≠[]):cG d (j :: i :: s :: q)=cG d q:=by
 cases q with
 |nil=>simp_all
 |cons x q=>simp[cG]
structure De (w w':World) (af aA:bk) (d:Nat):Prop where
 size:w.heap.size<=w'.heap.size
 block:∀b,b<w.heap.size->af b≠some [d]->w'.heap[b]?=w.heap[b]?
 PR:∀b,b<w.heap.size->aA b=af b
 ne:∀b,af b≠some []
def De.tr(hw:De w w' af aA d)(hg:∀ b k,af b=some k->b<w.heap.size)(C:∀ r,r≠d->ρ' r=ρ r):Tr w w' af aA ρ ρ' (cG d) (λr=>Nat.beq r d):=by
 refine⟨hw.size,λb hb hl=>⟨hw.block b hb (by rw[hl];simp),(hw.PR b hb).trans hl⟩,λb k hl D=>⟨hw.block b (hg b k hl) ?_,(hw.PR b (hg b k hl)).trans hl⟩,λr E=>C r (by rintro rfl;simp at E),λj i s x q=>Kl (by simp),λb hb=>absurd hb (hw.ne b)⟩
 rw[hl];intro e;injection e with e;subst e;simp[cG]at D
def RA.PS{x:A}{u:Value}(h:RA w B af ρ x u)(hw:De w w' af aA d)(hg:∀b k,af b=some k->b<w.heap.size)(C:∀r,r≠d->ρ' r=ρ r):RA w' B aA ρ' (x.drop d) u:=h.tr (hw.tr hg C) (vg (λ_ h=>h) λ_=>oH)
def dW.PS{r:Nat}(C:r≠d){x:aS}(h:dW w B af ρ r x)(hw:De w w' af aA d)(hg:∀b k,af b=some k->b<w.heap.size)(D:∀r,r≠d->ρ' r=ρ r):dW w' B aA ρ' r (x.drop d):=h.tr (hw.tr hg D) (vg (λ_ h=>h) λ_=>oH) (by simpa [cG]using C) (oH C)
def Rl.yW{x:aS}(h:Rl w0 N af ρ σ a w)(hF:w0.F d=none)(hb:iX w0 w w')(hw:De w w' af aA d)(hg:∀ b k,w.heap.size <= b -> aA b=some k -> b<w'.heap.size/\k≠[])(E:∀ r,r≠d -> ρ' r=ρ r)(Y:dW w' w0.heap.size aA ρ' d x):
  Rl w0 N aA ρ' ((σ.drop d).root d x) a w':=by
 have O:=λb k hb=>(h.cV b k hb).2.1
 refine⟨h.below.trans hb,λb k I=>?_,λr y C=>?_,λk=>(h.tmp k).PS hw O E,h.size,h.defers,λr T D=>(E r (by rintro rfl;rw[hF]at D;cases D)).trans (h.fix r T D),h.cL⟩
 ·rcases Nat.lt_or_ge b w.heap.size with U | oI
  ·rw[hw.PR b U]at I;have:=h.cV b k I;exact⟨this.1,Nat.lt_of_lt_of_le this.2.1 hw.size,this.2.2⟩
  ·have:=hg b k oI I;exact⟨.inl (Nat.le_trans h.below.size oI),this.1,this.2⟩
 ·by_cases D:r=d
  ·subst D;have C:(bG (σ.drop r).m r _) r=some y:=C;rw[bK]at C;simp_all
  ·have C:(bG (σ.drop d).m d (some x)) r=some y:=C;rw[cr _ _ _ D]at C;have hb:Nat.beq r d=false:=by
    cases hb:Nat.beq r d with
    |false=>rfl
    |true=>simp_all
   simp only[S.drop,hb,ax]at C;cases hm:σ.m r with
   |none=>simp_all
   | some z=>
    rw[hm]at C;injection C with C;subst C;exact(h.root r z hm).PS D hw O E
end
def gO(q:Nat)(nk k:aa Nat):aa Nat:=bif cG q k then k.dropLast++nk else k
def bk.gO(af:bk)(q:Nat)(nk:aa Nat):bk:=λb=>(af b).map (Proofs.YtpigmalhjkekiaaGreat.gO q nk)
section
variable {P:Program} {w w':World} {w0:Wd} {B N:Nat} {af aA:bk} {ρ ρ':Nat->Loc} {σ:S} {a:Act} {X:Type} {d q:Nat} {nk:aa Nat}
def WV:gO q nk [q]=nk:=by simp[gO,cG]
def ag0{k:aa Nat}(h:cG q k=false):gO q nk k=k:=by simp[gO,h]
def ag1{j i s:Nat}{k:aa Nat}(C:k≠[]):gO q nk (j :: i :: s :: k)=j :: i :: s :: gO q nk k:=by
 unfold gO;rw[Kl C];cases cG q k with
 |false=>rfl
 | true=>
  cases k with
  |nil=>simp_all
  |cons x k=>simp
def WW{k:aa Nat}(hn:nk≠[])(C:k≠[]):gO q nk k≠[]:=by
 unfold gO;cases cG q k with
 |false=>simp_all
 |true=>simp[hn]
def bk.PT{b:Nat}(h:af b=none):af.gO q nk b=none:=by simp[bk.gO,h]
def bk.WX{b:Nat}{k:aa Nat}(h:af b=some k):af.gO q nk b=some (Proofs.YtpigmalhjkekiaaGreat.gO q nk k):=by simp[bk.gO,h]
def bk.WY{b:Nat}{k:aa Nat}(h:af b=some k)(C:cG q k=false):af.gO q nk b=some k:=by rw[bk.WX h,ag0 C]
def RV.gO{k:aa Nat}{x:V}{v:Value}(h:RV w B af k x v)(D:∀ b,af b≠some []):RV w B (af.gO q nk) (Proofs.YtpigmalhjkekiaaGreat.gO q nk k) x v:=
 h.map (Q:=λk C=>C=Proofs.YtpigmalhjkekiaaGreat.gO q nk k) (dB _) (λb _ h=>⟨rfl,bk.PT h⟩) (λb k C _ hl e=>by
  subst e;exact⟨rfl,bk.WX hl,λj i s=>(ag1 λe=>D b (e ▸ hl)).symm⟩) (.inr rfl)
structure Rel (q:Nat) (af aA:bk):Prop where
 ne:∀b,af b≠some []
 none:∀b,af b=none->aA b=Option.none
 gU:∀b k,af b=some k->cG q k=false->aA b=some k
def FJ(C:∀b,af b≠some []):Rel q af (af.gO q nk):=⟨C,λ_ h=>bk.PT h,λ_ _ h D=>bk.WY h D⟩
def Rel.tr(C:Rel q af aA):Tr w w af aA ρ ρ (cG q) (λ_=>false):=
 ⟨dB _,λb _ hl=>⟨rfl,C.none b hl⟩,λb k hl D=>⟨rfl,C.gU b k hl D⟩,λ_ _=>rfl,λj i s x q=>Kl (by simp),λb hb=>absurd hb (C.ne b)⟩
def RV.rel(C:Rel q af aA){k:aa Nat}{x:V}{v:Value}(h:RV w B af k x v)(D:cG q k=false\/x.aG=true):RV w B aA k x v:=h.tr (ρ:=λ_=>.dG undef) C.tr D.symm
def ag2(C:Rel q af aA)(k:aa Nat)(u:Value)(hd:cG q k=false)(h:cQ w af ρ k=some u):cQ w aA ρ k=some u:=PB C.tr k u (.inr hd) (PC k) h
def eI.rel(C:Rel q af aA){cs:aa Lf}{us:Array Value}(h:eI w B af ρ cs us):eI w B aA ρ (cs.map (Lf.drop q)) us:=h.tr C.tr (vg (λ_ h=>h) λ_ _=>rfl)
def RA.rel(C:Rel q af aA){x:A}{u:Value}(h:RA w B af ρ x u):RA w B aA ρ (x.drop q) u:=h.tr C.tr (vg (λ_ h=>h) λ_ _=>rfl)
def dW.rel(C:Rel q af aA){r:Nat}(D:r≠q){x:aS}(h:dW w B af ρ r x):dW w B aA ρ r (x.drop q):=h.tr C.tr (vg (λ_ h=>h) λ_ _=>rfl) (by simpa [cG]using D) rfl
def Rl.xe(h:Rl w0 N af ρ σ a w):∀b,af b≠some []:=λb hb=>(h.cV b [] hb).2.2 rfl
def Rl.rel(h:Rl w0 N af ρ σ a w)(E:Rel q af aA)(hg:∀ b k,aA b=some k -> (∃ D,af b=some D)/\k≠[]):Rl w0 N aA ρ (σ.drop q) a w:=by
 refine⟨h.below,λb k O=>?_,λr x C=>?_,λk=>(h.tmp k).rel E,h.size,h.defers,h.fix,h.cL⟩
 ·obtain⟨⟨D,hl⟩,U⟩:=hg b k O;have:=h.cV b D hl;simp_all
 ·have C:(bif Nat.beq r q then none else (σ.m r).map _)=some x:=C;cases hb:Nat.beq r q with
  |true=>simp_all
  | false=>
   rw[hb]at C;have T:r≠q:=by rintro rfl;simp at hb
   cases I:σ.m r with
   |none=>simp_all
   | some y=>
    rw[I]at C;injection C with C;subst C;exact(h.root r y I).rel E T
def Rl.ag3{z:V}(h:Rl w0 N af ρ σ a w)(I:σ.m q=some (.sl z))(hn:nk≠[]):∃ u,ρ q = .dG u/\Rl w0 N (af.gO q nk) ρ (σ.drop q) a w/\RV w w0.heap.size (af.gO q nk) nk z u:=by
 have E:=h.xe;have hq:=h.root q _ I;generalize C:aS.sl z=x at hq;cases hq with
 |aB=>cases C
 |mp=>cases C
 |gh=>cases C
 | sl u y O T=>
  injection C with C;subst C
  refine⟨u,O,h.rel (FJ E) λb k D=>?_,?_⟩
  ·unfold bk.gO at D;cases hl:af b with
   |none=>simp_all
   | some U=>
    rw[hl]at D;injection D with D;subst D;exact⟨⟨U,rfl⟩,WW hn (λe=>E b (by rw[hl,e]))⟩
  ·have:=T.gO (q:=q) (nk:=nk) E
   rwa [WV]at this
def gX(r:Nat)(key:Nat->aa Nat):Nat->Nat->aa Lf->S->aj (aa V×S)
 |_,_,[],σ=>some ([],σ)
 |f+1,j,.v x::xs,σ=>(gX r key f (j+1) xs σ).map λp=>(x::p.1,p.2)
 | f+1,j,.own [q] :: xs,σ=>match σ.m q with
  |some (.sl z)=>bif Nat.beq q r then none else (gX r key f (j+1) (xs.map (Lf.drop q)) (σ.drop q)).map λp=>(z::p.1,p.2)
  |_=>none
 |_,_,_,_=>none
def Km{r:Nat}{key:Nat->aa Nat}(Z:∀ j,cG r (key j)=true):∀ (f j:Nat) (xs:aa Lf) (σ I:S) (O:aa V),gX r key f j xs σ=some (O,I)->∀ af ρ a w,Rl w0 N af ρ σ a w->∀ us:aa Value,eI w w0.heap.size af ρ xs us.toArray->
  ∃ aA,Rl w0 N aA ρ I a w/\O.length=xs.length/\(∀ (n:Nat) x,O[n]?=some x->∃ u,us[n]?=some u/\RV w w0.heap.size aA (key (j+n)) x u)/\(∀ k x v,cG r k=true->RV w w0.heap.size af k x v->RV w w0.heap.size aA k x v)/\
   (∀x,σ.m r=some (.sl x)->I.m r=some (.sl x))/\(∀k u,cG r k=true->cQ w af ρ k=some u->cQ w aA ρ k=some u)/\(∀b,af b=some [r]->aA b=some [r])/\(∀b,af b=none->aA b=none)
 | 0,j,[],σ,I,O,h,af,ρ,a,w,C,us,T=>by
  simp only[gX,iB,Prod.mk.injEq]at h;obtain⟨rfl,rfl⟩:=h;exact⟨af,C,rfl,by simp,λ_ _ _ _ h=>h,λ_ h=>h,λ_ _ _ h=>h,λ_ h=>h,λ_ h=>h⟩
 | f+1,j,[],σ,I,O,h,af,ρ,a,w,C,us,T=>by
  simp only[gX,iB,Prod.mk.injEq]at h;obtain⟨rfl,rfl⟩:=h;exact⟨af,C,rfl,by simp,λ_ _ _ _ h=>h,λ_ h=>h,λ_ _ _ h=>h,λ_ h=>h,λ_ h=>h⟩
 |0,j,x::xs,σ,I,O,h,af,ρ,a,w,C,us,T=>by simp[gX]at h
 | f+1,j,x :: xs,σ,I,O,h,af,ρ,a,w,C,us,T=>by
  obtain⟨Y,us,rfl⟩:∃ Y Kn,us=Y :: Kn:=by
   cases us with
   |nil=>have:=T.1;simp at this
   |cons Y us=>exact⟨_,_,rfl⟩
  have qX:dM w w0.heap.size af ρ x Y:=by
   obtain⟨u,e,h⟩:=T.2 0 x rfl;simp at e;subst e;exact h
  have kH:eI w w0.heap.size af ρ xs us.toArray:=⟨by have:=T.1;simpa using this,λn y D=>by
   obtain⟨u,e,h⟩:=T.2 (n+1) y D;exact⟨u,by simpa using e,h⟩⟩
  cases x with
  | v x=>
   simp only[gX,Option.map_eq_some_iff]at h;obtain⟨⟨PU,sD⟩,h,e⟩:=h;simp only[Prod.mk.injEq]at e;obtain⟨rfl,rfl⟩:=e;obtain⟨aA,h1,h2,h3,E,h5⟩:=Km Z f (j+1) xs σ sD PU h af ρ a w C us kH
   refine⟨aA,h1,by simp[h2],λn y D=>?_,E,h5⟩
   cases n with
   | zero=>
    simp at D;subst D;refine⟨Y,rfl,E _ _ _ (Z _) (qX.2.key qX.1)⟩
   | succ n=>
    obtain⟨u,e,h⟩:=h3 n y (by simpa using D);exact⟨u,by simpa using e,by rw[show j+(n+1)=j+1+n by omega];exact h⟩
  |dead=>simp[gX]at h
  | own k=>
   match k,qX,h with
   |[],_,h=>simp[gX]at h
   |_::_::_,_,h=>simp[gX]at h
   | [q],qX,h=>
    simp only[gX]at h;split at h
    ·rename_i z hz;cases PW:Nat.beq q r with
     |true=>rw[PW]at h;cases h
     | false=>
      rw[PW,ax,Option.map_eq_some_iff]at h;obtain⟨⟨PU,sD⟩,ag4,e⟩:=h;simp only[Prod.mk.injEq]at e;obtain⟨rfl,rfl⟩:=e;have bY:q≠r:=by rintro rfl;simp at PW
      have WZ:key j≠[]:=by intro e;have:=Z j;rw[e]at this;simp[cG]at this
      obtain⟨u,cm,dU,kY⟩:=C.ag3 hz WZ;have FK:u=Y:=by
       have E:=qX.2;simp only[cQ,cm]at E;injection E
      subst FK;have nS:∀ k,cG r k=true->cG q k=false:=by
       intro k U;cases hq:cG q k with
       |false=>rfl
       | true=>
        exfalso;have h1:=WU U;have h2:=WU hq;exact bY (WK h1 h2)
      obtain⟨aA,h1,h2,h3,E,h5,h6,h7,h8⟩:=Km Z f (j+1) (xs.map (Lf.drop q)) (σ.drop q) sD PU ag4 _ ρ a w dU us (kH.rel (FJ C.xe))
      refine⟨aA,h1,by simp[h2],λn y D=>?_,λk x v U hv=>E _ _ _ U (hv.rel (FJ C.xe) (.inl (nS k U))),λx hx=>h5 x ?_,λk v U hv=>h6 k v U (ag2 (FJ C.xe) k v (nS k U) hv),λb hb=>h7 b (bk.WY hb (by simpa [cG]using λe=>bY e.symm)),λb hb=>h8 b (bk.PT hb)⟩
      ·cases n with
       | zero=>
        simp at D;subst D;exact⟨u,rfl,E _ _ _ (Z _) kY⟩
       | succ n=>
        obtain⟨u,e,h⟩:=h3 n y (by simpa using D);exact⟨u,by simpa using e,by rw[show j+(n+1)=j+1+n by omega];exact h⟩
      ·have hb:Nat.beq r q=false:=by
        cases hb:Nat.beq r q with
        |false=>rfl
        |true=>exact absurd (cN hb).symm bY
       show (bif Nat.beq r q then none else (σ.m r).map (aS.drop q))=_;rw[hb,hx];rfl
    ·cases h
end
def nT:Value->Lf
 |.int k n=>.v (.int k n)
 |.bool b=>.v (.bool b)
 |.string s=>.v (.str s)
 |.slice none 0 0=>.v .nil
 |_=>.dead
def zeroV:Value->aj V
 |.int k n=>some (.int k n)
 |.bool b=>some (.bool b)
 |.string s=>some (.str s)
 |.slice none 0 0=>some .nil
 |_=>none
def FL:aa Value->aj (aa V)
 |[]=>some []
 | v :: C=>match zeroV v,FL C with
  |some x,some xs=>some (x::xs)
  |_,_=>none
def zeroOf(P:Program)(e:TypeId):aj Value:=(P.info? e).bind (·.zero)
def bytesOf(P:Program)(e:TypeId):aj Nat:=(P.info? e).map (·.bytes)
def gY{X:Type}(N:Nat)(σ:S)(d:Nat)(x:aS)(y:A)(k:S->aj X):aj X:=
 bif Nat.blt d N then k (((σ.drop d).root d x).set d y)else none
def qY{X:Type}(P:Program)(N:Nat)(σ:S)(d:Nat)(e:TypeId)(k:S->aj X):aj X:=
 match zeroOf P e with
 |some z=>gY N σ d (.aB (z.cells.toList.map nT)) (.aL d 0) k
 |none=>none
def vl(P:Program)(t:TypeId):aj (TypeId×TC):=
 match pZ P t with
 |none=>none
 | some e=>match WC e,jl P e,bytesOf P e with
  |some tc,some n,some b=>bif Nat.beq n (aD tc)&&Nat.ble b 65536 then some (e,tc)else none
  |_,_,_=>none
def Ko(P:Program)(e:TypeId)(tc:TC):aj (T tc):=
 match zeroOf P e with
 |none=>none
 | some z=>match FL z.cells.toList with
  |none=>none
  |some C=>dec tc (full tc) C
def yX{X:Type}(P:Program)(N:Nat)(σ:S)(d:Nat)(t:TypeId)(l c:A)(k:S->aj X):aj X:=
 match vl P t,l,c with
 | some (e,tc),.lf (.v (.int _ n)),.lf (.v (.int _ c))=>match Ko P e tc with
  |none=>none
  |some z=>if 0<=n/\n<=c/\c<1073741824 then gY N σ d (.sl (.sl tc (full tc+2) false (List.replicate n.toNat z))) (.lf (.own [d])) k else none
 |_,_,_=>none
def V.Kp(t:TC):V->aj (aa (T t))
 |.sl C _ _ l=>if h:C=t then some (h ▸ l)else none
 |.nil=>some []
 |_=>none
def tU{X:Type}(P:Program)(N:Nat)(σ:S)(d:Nat)(t:TypeId)(x y:A)(k:S->aj X):aj X:=
 match vl P t with
 | some (e,tc)=>bif Nat.beq (full tc) 0&&(zeroOf P e).any (λz=>Nat.beq z.cells.size (aD tc))then sy σ y λC=>(match C.Kp tc with
  |none=>none
  | some l2=>match x with
   |.lf (.v .nil)=>bif bV l2.length then gY N σ d (.sl (.sl tc 2 false l2)) (.lf (.own [d])) k else none
   | .lf (.own [r])=>(match σ.m r with
    |some (.sl (.sl D (o+2) q l))=>if h:D=tc then (bif Nat.blt d N&&(Nat.blt r N ||Nat.ble 60000 r)&&bV (l.length+l2.length)then k (((σ.drop r).root r (.sl (.sl tc (o+2) false ((h ▸ l)++l2)))).set d (.lf (.own [r])))else none)else none
    |_=>none)
   |_=>none)else none
 |none=>none
section
variable {P:Program} {w w':World} {w0:Wd} {B N:Nat} {af aA:bk} {ρ ρ':Nat->Loc} {σ:S} {a:Act} {X:Type} {d:Nat} {r:X} {q:Nat} {o:Oper}
def Kq(v:Value):dM w B af ρ (nT v) v:=by
 unfold nT;split
 ·exact⟨rfl,.int _ _ _⟩
 ·exact⟨rfl,.bool _ _⟩
 ·exact⟨rfl,.str _ _⟩
 ·exact⟨rfl,.nil _⟩
 ·trivial
def W0{v:Value}{x:V}(h:zeroV v=some x)(q:aa Nat):RV w B af q x v:=by
 unfold zeroV at h;split at h<;>first|(injection h with h;subst h;first|exact .int _ _ _|exact .bool _ _|exact .str _ _|exact .nil _)|cases h
def PX:∀ (C:aa Value) (xs:aa V),FL C=some xs -> xs.length=C.length /\ ∀ (j:Nat) x,xs[j]?=some x -> ∃ v,C[j]?=some v/\zeroV v=some x
 | [],xs,h=>by
  simp[FL]at h;simp_all
 | v :: C,xs,h=>by
  unfold FL at h;split at h
  ·rename_i y ys E D;injection h with h;subst h;obtain⟨I,O⟩:=PX C ys D
   grind
  ·cases h
def iX.W2(w0:Wd)(w:World)(o:Obj)(h:w0.heap.size<=w.heap.size):iX w0 w (w.alloc o):=.of ((Below.refl w0.heap.size w).alloc h o) (dB _)
def Rl.Df{c:Array Value}{e:TypeId}{x:aS}{ρ':Nat -> Loc}(h:Rl w0 N af ρ σ a w)(hF:w0.F d=none)(D:∀ r,r≠d -> ρ' r=ρ r)
  (E:dW (w.alloc (.cells c e)) w0.heap.size (bG af w.heap.size (some [d])) ρ' d x):Rl w0 N (bG af w.heap.size (some [d])) ρ' ((σ.drop d).root d x) a (w.alloc (.cells c e)):=by
 refine h.yW hF (iX.W2 w0 w _ h.below.size) ⟨by simp,λb hb _=>Below.heap_alloc w _ b hb,λb hb=>cr _ _ _ (by omega),λb hb=>(h.cV b [] hb).2.2 rfl⟩ (λb k hb C=>?_) D E
 by_cases e:b=w.heap.size
 ·subst e;rw[bK]at C;injection C with C;subst C;simp_all
 ·rw[cr _ _ _ e]at C;have:=(h.cV b k C).2.1;omega
def oM{x:aS}{y:A}{k:S -> aj X}(h:gY N σ d x y k=some r):d<N/\k (((σ.drop d).root d x).set d y)=some r:=by
 unfold gY at h;cases hN:Nat.blt d N with
 |false=>simp_all
 |true=>simp_all
def ag5{e:TypeId}{k:S -> aj X}(h:qY P N σ d e k=some r):∃ E,k E=some r /\ ∀ af ρ a w,Rl w0 N af ρ σ a w -> ∃ w' aA ρ' v,(Instr.alloc e true (.tuple #[])).run P w = .ok v w'/\Rl w0 N aA ρ' E (a.put (some d) v) w':=by
 unfold qY at h;split at h
 ·rename_i z D;obtain⟨hd,h⟩:=oM h
  refine⟨_,h,λaf ρ a w I=>?_⟩
  have T:(Instr.alloc e true (.tuple #[])).run P w = .ok (.pointer (some ⟨w.heap.size,0,none⟩)) (w.alloc (.cells z.cells e)):=by
   unfold zeroOf at D;cases hi:P.info? e with
   |none=>simp_all
   | some i=>
    have D:i.zero=some z:=by simpa [hi]using D
    simp[Instr.alloc,zeroValue,typeInfo,hi,D,newVar,newRow]
  refine⟨_,bG af w.heap.size (some [d]),bG ρ d (.aB w.heap.size 0),_,T,(I.Df (I.cL d (.inl hd)) (λr U=>cr _ _ _ U) ?_).set ⟨w.heap.size,0,bK _ _ _,rfl⟩ hd⟩
  refine .aB w.heap.size 0 z.cells e _ (λj=>z.cells.getD j undef) (bK _ _ _) (bK _ _ _) (heap_alloc_new w _) (by simp) λj x C=>?_
  rw[ez]at C;cases hv:z.cells.toList[j]? with
  |none=>simp_all
  | some v=>
   rw[hv]at C;injection C with C;subst C;have O:z.cells[j]?=some v:=by simpa using hv
   have hg:z.cells.getD j undef=v:=by rw[ig,O];rfl
   rw[hg,eW];exact⟨O,Kq v⟩
 ·cases h
def yY{t e:TypeId}{tc:TC}(h:vl P t=some (e,tc)):P.underlying t=some (.slice e)/\tid tc=e /\ ∃ i,P.info? e=some i/\i.size=aD tc/\i.bytes <= 65536:=by
 unfold vl at h;split at h
 ·cases h
 ·rename_i E C;split at h
  ·rename_i I n b O hn hb;cases D:(Nat.beq n (aD I)&&Nat.ble b 65536)with
   |false=>simp_all
   | true=>
    rw[D,au]at h;injection h with h;injection h with T U;subst T U;rw[aJ]at D;refine⟨?_,agJ O,?_⟩
    ·unfold pZ at C;split at C
     ·simp_all
     ·cases C
    ·unfold jl at hn;unfold bytesOf at hb;cases hi:P.info? E with
     |none=>simp_all
     |some i =>simp_all
  ·cases h
def W3(z:Array Value)(n i j:Nat)(C:j<z.size)(h:i*z.size+j<n):(madeCells z n)[i*z.size+j]?=some z[j]:=by
 have D:(i*z.size+j) % z.size=j:=by rw[Nat.add_comm,Nat.add_mul_mod_self_right,Nat.mod_eq_of_lt C]
 simp[madeCells,Array.getElem?_map,Array.getElem?_range,h,if_true,Option.map_some,D];simp[C]
def ag6{t:TypeId}{l c:A}{k:S -> aj X}(h:yX P N σ d t l c k=some r):∃ Z,k Z=some r /\ ∀ af ρ a w,Rl w0 N af ρ σ a w -> ∀ u v,RA w w0.heap.size af ρ l u -> RA w w0.heap.size af ρ c v ->
  ∃w' aA ρ' x,(Instr.makeSlice t u v).run P w = .ok x w'/\Rl w0 N aA ρ' Z (a.put (some d) x) w':=by
 unfold yX at h;split at h
 ·rename_i e tc kl n kc c oN;split at h
  ·cases h
  ·rename_i z D;split at h
   ·rename_i hb;obtain⟨hd,h⟩:=oM h
    refine⟨_,h,λaf ρ a w hR u v hu hv=>?_⟩
    obtain rfl:=hu.2.gK;obtain rfl:=hv.2.gK;obtain⟨gE,ht,i,hi,iy,jW⟩:=yY oN;unfold Ko at D;split at D
    ·cases D
    ·rename_i C Dg;split at D
     ·cases D
     ·rename_i vs lP;have oO:i.zero=some C:=by unfold zeroOf at Dg;simpa [hi]using Dg
      obtain⟨qZ,m9⟩:=PX _ _ lP;have T:=lJ tc (full tc) vs z D;have O:C.cells.size=aD tc:=by rw[<- kG tc (full tc) z,<- T.1,qZ];simp
      have Pd:(i.bytes:Int)*c <= 281474976710656:=by
       have h1:(i.bytes:Int) <= 65536:=by omega
       have h2:i.bytes*c <= 65536*c:=Int.mul_le_mul_of_nonneg_right h1 (by omega);omega
      have eU:=run_make (P:=P) w t e i C gE hi oO kl kc n c hb.1 hb.2.1 Pd (by omega);rw[iy,<- O]at eU
      refine⟨_,bG af w.heap.size (some [d]),bG ρ d (.dG (.slice (some ⟨w.heap.size,0,none⟩) n.toNat c.toNat)),_,eU,(hR.Df (hR.cL d (.inl hd)) (λr hr=>cr _ _ _ hr) ?_).set ⟨rfl,?_⟩ hd⟩
      ·refine .sl _ _ (bK _ _ _) ?_;have hlen:(List.replicate n.toNat z).length=n.toNat:=by simp
       have:=RV.own (w:=w.alloc (.cells (madeCells C.cells (c.toNat*C.cells.size)) e)) (B:=w0.heap.size) (af:=bG af w.heap.size (some [d])) [d] tc (full tc) false (List.replicate n.toNat z) w.heap.size c.toNat (madeCells C.cells (c.toNat*C.cells.size)) (λ_ j=>C.cells.getD j undef)
        (bK _ _ _) (by rw[ht];exact heap_alloc_new w _) (by rw[size_madeCells,O]) (by rw[hlen];omega) ⟨by unfold maxLen;omega,λh=>by cases h⟩ (λU h' j x E=>?_) (λU h' j x E=>?_)
       ·rw[hlen]at this;exact this
       ·rw[List.getElem_replicate]at E;have I:j<aD tc:=by have:=(dK.1 E).1;rwa [kG]at this
        rw[hlen]at h';rw[<- O]at I;rw[<- O,W3 C.cells _ U j I (by
         have:(U+1)*C.cells.size <= c.toNat*C.cells.size:=jX _ (by omega);rw[ji]at this;omega)]
        simp[ig,I]
       ·rw[List.getElem_replicate]at E;have I:j<(enc tc (full tc) z).length:=(dK.1 E).1;rw[<- T.1]at I;have Y:=bJ I;generalize vs[j]=y at Y;obtain⟨v,hv,PY⟩:=m9 j y Y;have A7:C.cells[j]?=some v:=by simpa using hv
        have hg:C.cells.getD j undef=v:=by rw[ig,A7];rfl
        rw[hg];exact(W0 PY _).wk (T.2 j y x Y E)
      ·simp[cQ,bK]
   ·cases h
 ·cases h
def Dh(t:TC)(h:full t=0)(o C:Nat)(x:T t):enc t o x=enc t C x:=by
 have key:∀ o,enc t o x=enc t 0 x:=by
  intro o;rw[WD t o x];have:=yO t o x h
  conv=>lhs;rw[<- List.map_id (enc t o x)]
  apply List.map_congr_left;intro y D;have hp:=this y D;cases y<;>first|rfl|cases hp
 simp_all
def xg(u:Nat->Nat->Value)(n s:Nat):aa Value:=(List.range (n*s)).map λk=>u (k / s) (k % s)
def W4(u:Nat -> Nat -> Value)(n s i j:Nat)(hi:i<n)(C:j<s):(xg u n s)[i*s+j]?=some (u i j):=by
 have D:i*s+j<n*s:=by
  have:(i+1)*s <= n*s:=jX _ hi
  grind
 have hd:(i*s+j) / s=i:=by rw[Nat.add_comm,Nat.add_mul_div_right _ _ (by omega),Nat.div_eq_of_lt C,eW]
 have E:(i*s+j) % s=j:=by rw[Nat.add_comm,Nat.add_mul_mod_self_right,Nat.mod_eq_of_lt C]
 simp[xg,D,hd,E]
def Kr(u:Nat -> Nat -> Value)(n s k:Nat)(v:Value)(D:0<s)(h:(xg u n s)[k]?=some v):∃ i j,k=i*s+j/\i<n/\j<s/\v=u i j:=by
 have C:k<n*s:=by
  have:=(dK.1 h).1
  simpa [xg]using this
 refine⟨k / s,k % s,by rw[Nat.mul_comm];exact(Nat.div_add_mod k s).symm,Nat.div_lt_of_lt_mul (by rw[Nat.mul_comm];exact C),Nat.mod_lt _ D,?_⟩;simp[xg,ez,List.getElem?_range C,Option.map_some,iB]at h;simp_all
def Bh(t:TC)(o:Nat)(x:T t)(j:Nat)(C:j<aD t):∃y,(enc t o x)[j]?=some y:=⟨_,bJ (by rw[kG];exact C)⟩
def xh(t:TC)(l:aa (T t))(C:aa Value):Prop:=
 ∀i (hi:i<l.length) (o j:Nat) x,(enc t o l[i])[j]?=some x->∃v,C[i*aD t+j]?=some v/\v.oneCell'=true/\∀(w':World) (B':Nat) (aA:bk) (D:aa Nat),RV w' B' aA D x v
def RV.reads{q:aa Nat}{t:TC}{g:Nat}{qn:Bool}{l:aa (T t)}{u:Value}(h:RV w B af q (.sl t g qn l) u)(U:full t=0):
  ∃A c news,u = .slice A l.length c/\Reads w w.heap.size (aD t) A l.length news/\(∀v∈news,v.oneCell'=true)/\xh t l news:=by
 cases h with
 |eD=>exact⟨none,0,[],rfl,Reads.none_,by simp,λi hi=>by simp at hi⟩
 |fF=>exact⟨_,_,[],rfl,⟨by simp,λh=>by simp at h⟩,by simp,λi hi=>by simp at hi⟩
 |fP=>exact⟨_,_,[],rfl,⟨by simp,λh=>by simp at h⟩,by simp,λi hi=>by simp at hi⟩
 | aG _ _ _ _ _ b off cap us ho hl hb h1 lK Z I=>
  have O:∀ i (hi:i<l.length) j,j<aD t -> (us i j).oneCell'=true:=by
   intro i hi j C;obtain⟨y,E⟩:=Bh t g l[i] j C;exact(I i hi j y E).one
  refine⟨_,cap,xg us l.length (aD t),rfl,⟨by simp[xg],λhn=>⟨b,off,rfl,hb,λk v hv=>?_⟩⟩,λv hv=>?_,λi hi o j x D=>?_⟩
  ·obtain⟨i,j,rfl,hi,C,rfl⟩:=Kr us _ _ k v (oE t) hv;obtain⟨y,E⟩:=Bh t g l[i] j C;exact Z i hi j y E
  ·obtain⟨k,Y⟩:=List.mem_iff_getElem?.1 hv;obtain⟨i,j,rfl,hi,C,rfl⟩:=Kr us _ _ k v (oE t) Y;exact O i hi j C
  ·have C:j<aD t:=by have:=(dK.1 D).1;rwa [kG]at this
   rw[Dh t U o g]at D
   refine⟨us i j,W4 us _ _ i j hi C,O i hi j C,λw' B' aA q'=>(I i hi j x D).tR (yO t g l[i] U x (gC D))⟩
 | own _ _ o _ _ b cap cs us hl hh hs hn hm Z I=>
  have O:∀ i (hi:i<l.length) j,j<aD t -> (us i j).oneCell'=true:=by
   intro i hi j C;obtain⟨y,E⟩:=Bh t o l[i] j C;exact(I i hi j y E).one
  refine⟨_,cap,xg us l.length (aD t),rfl,⟨by simp[xg],λhn=>⟨b,0,rfl,(iz.1 hh).1,λk v hv=>?_⟩⟩,λv hv=>?_,λi hi o' j x D=>?_⟩
  ·obtain⟨i,j,rfl,hi,C,rfl⟩:=Kr us _ _ k v (oE t) hv;obtain⟨y,E⟩:=Bh t o l[i] j C;rw[eW,cell_of_row w b _ cs _ _ hh];simp_all
  ·obtain⟨k,Y⟩:=List.mem_iff_getElem?.1 hv;obtain⟨i,j,rfl,hi,C,rfl⟩:=Kr us _ _ k v (oE t) Y;exact O i hi j C
  ·have C:j<aD t:=by have:=(dK.1 D).1;rwa [kG]at this
   rw[Dh t U o' o]at D
   refine⟨us i j,W4 us _ _ i j hi C,O i hi j C,λw' B' aA q'=>(I i hi j x D).tR (yO t o l[i] U x (gC D))⟩
def RV.W5{q:aa Nat}{t:TC}{o:Nat}{D:Bool}{l:aa (T t)}{u:Value}(h:RV w B af q (.sl t (o+2) D l) u)(E:full t=0){B':Nat}(hB:∀ b,af b=some q -> B' <= b):
  ∃xs,w.ownsRow B' (tid t) (aD t) u l.length xs/\(∀b,u.ownBlock=some b -> af b=some q)/\(D=true -> u.ownBlock≠none)/\xh t l xs:=by
 cases h with
 |fF=>omega
 |fP=>omega
 |eD=>exact⟨[],⟨by simp,.inl ⟨rfl,rfl⟩⟩,by simp[Value.ownBlock],by simp,λi hi=>by simp at hi⟩
 |aG _ _ _ _ _ _ _ _ _ ho=>omega
 | own _ _ _ _ _ b cap cs us hl hh O hn U hc I=>
  refine⟨cs.toList.take _,⟨?_,.inr ⟨b,cap,cs,rfl,hB b hl,hh,hn,U.1,O,rfl⟩⟩,λY Z=>?_,λ_=>by simp[Value.ownBlock],λi hi o' j x C=>?_⟩
  ·simp_all
  ·have:b=Y:=by simpa [Value.ownBlock]using Z
   simp_all
  ·have hj:j<aD t:=by have:=(dK.1 C).1;rwa [kG]at this
   have dI:i*aD t+j<l.length*aD t:=by
    have:(i+1)*aD t <= l.length*aD t:=jX _ hi;rw[ji]at this;omega
   rw[Dh t E o' o]at C
   refine⟨us i j,?_,(I i hi j x C).one,λw' B' aA q'=>(I i hi j x C).tR (yO t o l[i] E x (gC C))⟩
   grind
def xh.append{t:TC}{l l2:aa (T t)}{xs ys:aa Value}(h:xh t l xs)(E:xh t l2 ys)(hl:xs.length=l.length*aD t):xh t (l++l2) (xs++ys):=by
 intro i hi o j x C;by_cases D:i<l.length
 ·rw[List.getElem_append_left D]at C;obtain⟨v,hv,r⟩:=h i D o j x C
  grind
 ·rw[List.getElem_append_right (by omega)]at C;have I:i-l.length<l2.length:=by rw[nM]at hi;omega
  obtain⟨v,hv,r⟩:=E _ I o j x C;refine⟨v,?_,r⟩;have e:i*aD t+j=xs.length+((i-l.length)*aD t+j):=by
   rw[hl,Nat.sub_mul];have:l.length*aD t <= i*aD t:=jX _ (by omega);omega
  grind
def PZ{q:aa Nat}{t:TC}{o:Nat}{l:aa (T t)}{u:Value}{xs:aa Value}{B':Nat}(h:w.ownsRow B' (tid t) (aD t) u l.length xs)(D:xh t l xs)(hl:∀ b,u.ownBlock=some b -> af b=some q):
  RV w B af q (.sl t (o+2) false l) u:=by
 rcases h.2 with ⟨rfl,E⟩|⟨b,cap,cs,rfl,hB,hh,hn,I,O,Y⟩
 ·have:=vb E;subst this;exact .eD _ _ _
 ·have Z:∀ i _ j x,(enc t o l[i])[j]?=some x -> ∃ v,cs[i*aD t+j]?=some v /\ ∀ w' B' aA U,RV w' B' aA U x v:=by
   intro i hi j x C;obtain⟨v,hv,_,r⟩:=D i hi o j x C
   grind
  refine .own q t o false l b cap cs (λi j=>(cs[i*aD t+j]?).getD undef) (hl b rfl) hh O hn ⟨I,λh=>by cases h⟩ (λi hi j x C=>?_) (λi hi j x C=>?_)
  ·grind
  ·grind
def Rl.append{t e ty:TypeId}{tc:TC}{i:TypeInfo}{z:Value}{rr o g:Nat}{q qn:Bool}{l l2:aa (T tc)}{u v:Value}{q':aa Nat}{Bx:Nat}{P0:bk}(h:Rl w0 N af ρ σ a w)(hF:w0.F rr=none)(gE:P.underlying t=some (.slice e))(ht:tid tc=e)(hi:P.info? e=some i)(hz:i.zero=some z)
  (iy:i.size=aD tc) (jW:i.bytes <= 65536) (mT:z.cells.size=aD tc) (hf:full tc=0) (hd:RV w w0.heap.size af [rr] (.sl tc (o+2) q l) u) (hs:RV w Bx P0 q' (.sl tc g qn l2) v) (hlen:l.length+l2.length<1073741824):
  ∃C w' aA,(Builtin.append_ #[t,t] ty #[u,v]).run P w = .ok C w'/\Rl w0 N aA (bG ρ rr (.dG C)) ((σ.drop rr).root rr (.sl (.sl tc (o+2) false (l++l2)))) a w'/\mc C=true:=by
 subst ht;obtain⟨xs,yZ,U,FM,iF⟩:=hd.W5 hf (B':=0) (λb _=>iL b);obtain⟨A,c,news,rfl,q6,oP,FN⟩:=hs.reads hf;have gV:(l.length+l2.length)*i.bytes <= 140737488355328:=by
  have h1:(l.length+l2.length)*i.bytes <= 1073741824*65536:=Nat.mul_le_mul (by omega) jW;omega
 obtain⟨C,w',eU,I,E,gZ⟩:=Pc (P:=P) w 0 t ty (tid tc) i z (aD tc) i.bytes gE hi hz iy rfl mT (oE tc) u l.length xs yZ _ A l2.length c news q6 oP (by unfold maxLen;omega) gV (iL _);have FO:(l++l2).length=l.length+l2.length:=nM;rw[<- FO]at I;have Bi:=iF.append FN yZ.1;have fq:mc C=true:=by rcases I.2 with ⟨rfl,_⟩|⟨_,_,_,rfl,_⟩<;>rfl
 have Y:Below 0 w w':=(Below.refl 0 w).grown E (iL _) (λ_ _=>iL _);have sE:iX w0 w w':=⟨Y.os,Y.tape,Y.output,Y.size,λk D hL=>E.block k (Nat.lt_of_lt_of_le D h.below.size) (λO=>by
  rcases(h.cV k _ (U k O.symm)).1 with h1|h1
  ·exact absurd D (Nat.not_lt.2 h1)
  ·exact h1 hL)⟩
 by_cases Z:C.ownBlock=some w.heap.size
 ·have dI:w.heap.size<w'.heap.size:=by
   rcases I.2 with ⟨rfl,_⟩|⟨b,cap,cs,rfl,_,hh,_⟩
   ·cases Z
   ·have:b=w.heap.size:=by simpa [Value.ownBlock]using Z
    grind
  refine⟨C,w',bG af w.heap.size (some [rr]),eU,h.yW hF sE ⟨E.size,λb hb bY=>E.block b hb (λO=>bY (U b O.symm)),λb hb=>cr _ _ _ (by omega),λb hb=>(h.cV b [] hb).2.2 rfl⟩ (λb k hb D=>?_) (λr hr=>cr _ _ _ hr) (.sl C _ (bK _ _ _) (PZ I Bi (λb hb=>?_))),fq⟩
  ·by_cases e:b=w.heap.size
   ·subst e;rw[bK]at D
    grind
   ·rw[cr _ _ _ e]at D;have:=(h.cV b k D).2.1;omega
  ·rw[Z]at hb;injection hb with hb;subst hb;exact bK _ _ _
 ·have P1:C.ownBlock=u.ownBlock:=by
   rcases gZ with gZ|gZ
   ·exact gZ
   ·exact absurd gZ Z
  refine⟨C,w',af,eU,h.yW hF sE ⟨E.size,λb hb bY=>E.block b hb (λO=>bY (U b O.symm)),λ_ _=>rfl,λb hb=>(h.cV b [] hb).2.2 rfl⟩ (λb k hb D=>?_) (λr hr=>cr _ _ _ hr) (.sl C _ (bK _ _ _) (PZ I Bi (λb hb=>U b (by rw[<- P1];exact hb)))),fq⟩
  have:=(h.cV b k D).2.1;omega
def P2{t:TC}{x:V}{l:aa (T t)}(h:x.Kp t=some l){q:aa Nat}{u:Value}(C:RV w B af q x u):∃ g D,RV w B af q (.sl t g D l) u:=by
 unfold V.Kp at h;split at h
 ·grind
 ·injection h with h;subst h;cases C;exact⟨0,false,.eD _ _ _⟩
 ·cases h
def P3{x:Lf}{k:V -> aj X}(h:oK σ x k=some r):∃ y,(∀ af ρ a w,Rl w0 N af ρ σ a w -> ∀ u,dM w w0.heap.size af ρ x u -> ∃ q,RV w w0.heap.size af q y u)/\k y=some r:=by
 cases x with
 |v z=>exact⟨z,λaf ρ a w _ u C=>⟨[],C.2⟩,h⟩
 |dead=>cases h
 | own q=>
  obtain⟨z,D,h⟩:=sx q _ h
  refine⟨z,λaf ρ a w E u C=>?_,h⟩
  obtain⟨v,hv,I⟩:=D.ok E.root;have O:=C.2
  grind
def W7{y:A}{k:V -> aj X}(h:sy σ y k=some r):∃ z,(∀ af ρ a w,Rl w0 N af ρ σ a w -> ∀ u,RA w w0.heap.size af ρ y u -> ∃ q B' aA,RV w B' aA q z u)/\k z=some r:=by
 unfold sy at h;split at h
 ·obtain⟨z,C,D⟩:=P3 h;exact⟨z,λaf ρ a w E u I=>let ⟨q,hq⟩:=C af ρ a w E u I;⟨q,_,_,hq⟩,D⟩
 ·obtain⟨z,D,_,C⟩:=WN h;exact⟨z,λaf ρ a w E u I=>⟨[],0,_,C _ _ _ _ _ _ E u I 0⟩,D⟩
 ·cases h
def ag7{t ty:TypeId}{x y:A}{k:S -> aj X}(h:tU P N σ d t x y k=some r):∃ c8,k c8=some r /\ ∀ af ρ a w,Rl w0 N af ρ σ a w -> ∀ u v,RA w w0.heap.size af ρ x u -> RA w w0.heap.size af ρ y v ->
  ∃w' aA ρ' z,(Builtin.append_ #[t,t] ty #[u,v]).run P w = .ok z w'/\Rl w0 N aA ρ' c8 (a.put (some d) z) w':=by
 unfold tU at h;split at h
 ·rename_i e tc oN;obtain⟨gE,ht,i,hi,iy,jW⟩:=yY oN;cases U:(Nat.beq (full tc) 0&&(zeroOf P e).any (λz=>Nat.beq z.cells.size (aD tc)))with
  |false=>grind
  | true=>
   rw[U,au]at h;rw[aJ]at U;have hf:=cN U.1;obtain⟨z,hz,Y⟩:=(Option.any_eq_true _ _).1 U.2;have Y:=cN Y;have oO:i.zero=some z:=by unfold zeroOf at hz;simpa [hi]using hz
   obtain⟨yv,Ks,C⟩:=W7 (w0:=w0) (N:=N) h;clear h;split at C
   ·cases C
   ·rename_i l2 m9;split at C
    ·cases D:bV l2.length with
     |false=>grind
     | true=>
      rw[D,au]at C;have D:l2.length<1073741824:=by simpa [bV]using D
      obtain⟨hd,h3⟩:=oM C
      refine⟨_,h3,λaf ρ a w E u v T hv=>?_⟩
      have T:u = .slice none 0 0:=by cases T.2;rfl
      subst T;obtain⟨q',_,_,I⟩:=Ks af ρ a w E v hv;obtain⟨g,qn,I⟩:=P2 m9 I;obtain⟨Z,w',aA,eU,dU,fq⟩:=E.append (ty:=ty) (rr:=d) (o:=0) (q:=false) (l:=[]) (E.cL d (.inl hd)) gE ht hi oO iy jW Y hf (.eD _ _ _) I (by simpa using D);exact⟨w',aA,_,Z,eU,dU.set ⟨fq,by simp[cQ,bK]⟩ hd⟩
    ·rename_i rr;split at C
     ·rename_i t' o q l hm;split at C
      ·rename_i nc;subst nc;cases D:(Nat.blt d N&&(Nat.blt rr N || Nat.ble 60000 rr)&&bV (l.length+l2.length))with
       |false=>grind
       | true=>
        rw[D,au]at C;rw[aJ,aJ,dQ]at D;have FP:l.length+l2.length<1073741824:=by simpa [bV]using D.2
        have hd:d<N:=by have:=cz D.1.1;omega
        have ng:rr<N \/ 60000 <= rr:=D.1.2.imp (λh=>by have:=cz h;omega) (λh=>cz h)
        refine⟨_,C,λaf ρ a w E u v T hv=>?_⟩
        obtain⟨q',_,_,I⟩:=Ks af ρ a w E v hv;obtain⟨g,qn,I⟩:=P2 m9 I;have fl:=E.root rr _ hm;generalize O:aS.sl (.sl t' (o+2) q l)=x at fl;cases fl with
        |aB=>cases O
        |mp=>cases O
        |gh=>cases O
        | sl uu y cm hr=>
         injection O with O;subst O;have FK:uu=u:=by
          have h4:=T.2;simp only[cQ,cm]at h4;simp_all
         subst FK;obtain⟨Z,w',aA,eU,dU,fq⟩:=E.append (ty:=ty) (E.cL rr ng) gE ht hi oO iy jW Y hf hr I FP;exact⟨w',aA,_,Z,eU,dU.set ⟨fq,by simp[cQ,bK]⟩ hd⟩
      ·cases C
     ·cases C
    ·cases C
 ·cases h
def Rl.W8{t:TC}{g p:Nat}{Z:Bool}{l ys:aa (T t)}{news:aa Value}(h:Rl w0 N af ρ σ a w)(hm:σ.m q=some (.sl (.sl t (g+2) Z l)))(hf:full t=0)(hp:p+ys.length <= l.length)(nS:0<l.length)(iF:xh t ys news)(sF:news.length=ys.length*aD t):
  ∃ b cap,ρ q = .dG (.slice (some ⟨b,0,none⟩) l.length cap)/\l.length <= cap/\(∀ n,n<news.length -> (w.cell? ⟨b,p*aD t+n,none⟩).isSome=true/\w.frozen? ⟨b,p*aD t+n,none⟩=false) /\
   Rl w0 N af ρ ⟨σ.t,bG σ.m q (some (.sl (.sl t (g+2) Z (splice l p ys))))⟩ a (w.setCells b (p*aD t) news):=by
 have fl:=h.root q _ hm;generalize O:aS.sl (.sl t (g+2) Z l)=x at fl;cases fl with
 |aB=>cases O
 |mp=>cases O
 |gh=>cases O
 | sl v y cm iG=>
  injection O with O;subst O;cases iG with
  |eD=>exact absurd nS (Nat.lt_irrefl 0)
  |fF=>exact absurd nS (Nat.lt_irrefl 0)
  |fP=>exact absurd nS (Nat.lt_irrefl 0)
  |aG _ _ _ _ _ _ _ _ _ ho=>omega
  | own _ _ _ _ _ b cap cs u nR hh hs hn su hc hr=>
   have wY:(p+ys.length)*aD t <= cap*aD t:=jX _ (by omega);rw[Nat.add_mul]at wY;have me:p*aD t+news.length <= cs.size:=by rw[sF,hs];exact wY
   have hW:=Kd w b (p*aD t) news;obtain⟨E,gV,nP⟩:=Fq b (tid t) news (p*aD t) w cs hh me;have tT:∀ n,E[n]?=if n<p*aD t then cs[n]? else if n<p*aD t+news.length then news[n-p*aD t]? else cs[n]?:=by
    intro n;have e2:E[n]?=(splice cs.toList (p*aD t) news)[n]?:=by
     rw[show E[n]?=E.toList[n]? by simp,nP];rfl
    rw[e2,wX _ _ _ (by simpa using me)];simp
   have FB:E.size=cs.size:=by
    rw[<- lG,nP];have:=tQ cs.toList (p*aD t) news (by simpa using me);simp only[splice]at this;simp_all
   have tV:=oE t;have hC:qU w (w.setCells b (p*aD t) news) af ρ:=by
    intro k ad v ha hv fq;by_cases bY:ad.block=b
    ·obtain⟨D,C,s',q',rfl,sq,agQ,vi,_⟩:=A6 k ad ha;have sv:ad=⟨b,ad.off,none⟩:=by cases ad;simp_all
     rw[sv,cell_of_row w b _ cs _ _ hh]at hv;rw[sv,cell_of_row _ b _ E _ _ gV,tT];by_cases U:ad.off<p*aD t
     ·rw[aV U];exact hv
     ·by_cases h2:ad.off<p*aD t+news.length
      ·exfalso;have hk:ad.off=(ad.off / aD t)*aD t+ad.off % aD t:=by rw[Nat.mul_comm];exact(Nat.div_add_mod _ _).symm
       have dI:ad.off<l.length*aD t:=by
        have:(p+ys.length)*aD t <= l.length*aD t:=jX _ hp;rw[Nat.add_mul]at this;omega
       have hi:ad.off / aD t<l.length:=Nat.div_lt_of_lt_mul (by rw[Nat.mul_comm];exact dI);obtain⟨y,hy⟩:=Bh t g l[ad.off / aD t] (ad.off % aD t) (Nat.mod_lt _ tV);have h3:=hc _ hi _ y hy;rw[<- hk,hv]at h3;injection h3 with h3;have:=(hr _ hi _ y hy).WL (yO t g _ hf y (gC hy));rw[<- h3,fq]at this;cases this
      ·rw[aW U,aW h2];exact hv
    ·exact(World.cell?_of_block (hW.block _ bY)).trans hv
   have A8:cQ w af ρ [q]=some (.slice (some ⟨b,0,none⟩) l.length cap):=by simp only[cQ,cm]
   refine⟨b,cap,cm,hn,λn qV=>⟨?_,frozen_of_row w b _ cs _ hh⟩,h.wrote hW nR hC ((yQ.root q _ _ hm).ok h.root hW nR (List.suffix_refl _) hC A8 ?_)⟩
   ·rw[cell_of_row w b _ cs _ _ hh];simp;omega
   ·have hlen:(splice l p ys).length=l.length:=tQ l p ys hp;have key:∀ C (h:C<(splice l p ys).length) (D:Nat) x,(enc t g (splice l p ys)[C])[D]?=some x -> ∃ v,E[C*aD t+D]?=some v/\RV (w.setCells b (p*aD t) news) w0.heap.size af (D :: C :: aD t :: [q]) x v:=by
     intro C h' D x Y;have sr:D<aD t:=by have:=(dK.1 Y).1;rwa [kG]at this
     have I:=bJ h';generalize (splice l p ys)[C]=e at I Y;rw[wX l p ys hp]at I;have yR:=yO t g e hf x (gC Y);have old:l[C]?=some e -> ∃ v,cs[C*aD t+D]?=some v/\RV (w.setCells b (p*aD t) news) w0.heap.size af (D :: C :: aD t :: [q]) x v:=λhle=>by
      obtain⟨hi,rfl⟩:=dK.1 hle;exact⟨_,hc C hi D x Y,(hr C hi D x Y).tR yR⟩
     by_cases U:C<p
     ·rw[aV U]at I;have dI:(C+1)*aD t <= p*aD t:=jX _ U;rw[ji]at dI;rw[tT,aV];exact old I
     ·rw[aW U]at I;by_cases h2:C<p+ys.length
      ·rw[aV h2]at I;obtain⟨hi,rfl⟩:=dK.1 I;obtain⟨v,hv,_,kY⟩:=iF (C-p) hi g D x Y;have Di:(C-p)*aD t=C*aD t-p*aD t:=Nat.sub_mul _ _ _;have hle:p*aD t <= C*aD t:=jX _ (by omega);have dI:=(dK.1 hv).1;refine⟨v,?_,kY _ _ _ _⟩;rw[tT,aW,aV,<- hv];congr 1;omega
      ·rw[aW h2]at I;have oI:(p+ys.length)*aD t <= C*aD t:=jX _ (by omega);rw[Nat.add_mul]at oI;rw[tT,aW,aW (by rw[sF];omega)];exact old I
    rw[<- hlen]
    refine .own [q] t g Z (splice l p ys) b cap E (λC D=>(E[C*aD t+D]?).getD undef) nR gV (FB.trans hs) (by rw[hlen];exact hn) ⟨su.1,λh=>by rw[hlen];exact su.2 h⟩ (λC h D x lO=>?_) (λC h D x lO=>?_)
    ·obtain⟨v,hv,_⟩:=key C h D x lO;rw[hv];rfl
    ·obtain⟨v,hv,hr⟩:=key C h D x lO;rw[hv];exact hr
def W9(b i c s:Nat):sliced (some ⟨b,0,none⟩) 0 i c s = .slice (some ⟨b,0,none⟩) i c:=by
 unfold sliced;split
 ·rfl
 ·rw[Option.map_some,Addr.add_lit];simp
def FQ{X:Type}(P:Program)(N:Nat)(σ:S)(d:Nat)(t:TypeId)(x y:A)(k:S->aj X):aj X:=
 match x,y with
 | .view [q] s 0 i,.view [D] E j m=>(match vl P t with
  | some (e,tc)=>bif Nat.beq D q&&Nat.beq s (aD tc)&&Nat.beq E (aD tc)&&Nat.beq (full tc) 0&&Nat.blt d N then (match σ.m q with
   |some (.sl (.sl C (o+2) I l))=>bif Nat.beq (full C) 0&&Nat.beq (aD C) (aD tc)then (if i<=j/\j<=m/\m<=l.length/\0<l.length then k ((σ.root q (.sl (.sl C (o+2) I (splice l i ((l.take m).drop j))))).set d (.view [q] s 0 (i+(m-j))))else none)else none
   |_=>none)else none
  |none=>none)
 |_,_=>none
def ag8{t ty:TypeId}{x y:A}{k:S -> aj X}(h:FQ P N σ d t x y k=some r):∃ c8,k c8=some r /\ ∀ af ρ a w,Rl w0 N af ρ σ a w -> ∀ u v,RA w w0.heap.size af ρ x u -> RA w w0.heap.size af ρ y v ->
  ∃w' aA ρ' z,(Builtin.append_ #[t,t] ty #[u,v]).run P w = .ok z w'/\Rl w0 N aA ρ' c8 (a.put (some d) z) w':=by
 unfold FQ at h;split at h
 ·rename_i q s i q' s' j m;split at h
  ·rename_i e tc oN;obtain⟨gE,ht,inf,hi,I,jW⟩:=yY oN;cases hc:(Nat.beq q' q&&Nat.beq s (aD tc)&&Nat.beq s' (aD tc)&&Nat.beq (full tc) 0&&Nat.blt d N)with
   |false=>grind
   | true=>
    rw[hc,au]at h;simp only[aJ]at hc;obtain⟨⟨⟨⟨c1,c2⟩,c3⟩,c4⟩,c5⟩:=hc;obtain rfl:=cN c1;obtain rfl:=cN c2;obtain rfl:=cN c3;have hd:d<N:=by have:=cz c5;omega
    split at h
    ·rename_i O g qn l hm;cases T:(Nat.beq (full O) 0&&Nat.beq (aD O) (aD tc))with
     |false=>grind
     | true=>
      rw[T,au]at h;rw[aJ]at T;have hf:=cN T.1;have U:=cN T.2;split at h
      ·rename_i hb;obtain⟨b1,b2,b3,b4⟩:=hb
       refine⟨_,h,λaf ρ a w hR u v hu hv=>?_⟩
       obtain⟨A,n,c,Xa,a1,a2,rfl⟩:=hu;obtain⟨A',n',c',Y,a1',a2',rfl⟩:=hv;rw[Xa]at Y;injection Y with Y;injection Y with C e2 e3;subst C e2 e3
       -- what is moved
       have fl:=hR.root q' _ hm;generalize D:aS.sl (.sl O (g+2) qn l)=x at fl;cases fl with
       |aB=>cases D
       |mp=>cases D
       |gh=>cases D
       | sl vm y cm iG=>
        injection D with D;subst D;have Kt:vm = .slice A n c:=by
         simp only[cQ,cm]at Xa;simp_all
        subst Kt;have Ku:RV w 0 (λ_=>none) [] (.sl O 0 qn l) (.slice A n c):=iG.gn;have hn:n=l.length:=by cases Ku<;>rfl
        obtain⟨hp,Dj,xj⟩:=Ku.part (a:=j) (h:=m) (by omega) b2 (by omega);obtain⟨A2,c2,news,fq,q6,oP,iF⟩:=hp.reads hf;have hlen:((l.take m).drop j).length=m-j:=by rw[List.length_drop,jF];omega
        obtain⟨b,cap,Z,lK,nh,dU⟩:=hR.W8 hm hf (p:=i) (ys:=(l.take m).drop j) (news:=news) (by rw[hlen];omega) b4 iF (by rw[hlen];exact hlen ▸ q6.1);rw[cm]at Z;injection Z with Z;injection Z with C e2 e3;subst C e2 e3;rw[hlen]at fq;have qX:sliced (some ⟨b,0,none⟩) 0 i c (aD tc) = .slice (some ⟨b,0,none⟩) i c:=W9 b i c _;obtain⟨ad,vm⟩:∃ ad,sliced (some ⟨b,0,none⟩) j m c (aD tc) = .slice (some ad) (m-j) (c-j):=by
         unfold sliced;by_cases FR:c=j
         ·grind
         ·grind
        have P4:A2=some ad:=by
         grind
        subst P4;have sF:news.length=(m-j)*inf.size:=by rw[q6.1,hlen,I,U]
        have eU:=run_append_room_cells (P:=P) w t ty e inf gE hi b 0 i c ad (m-j) (c-j) news sF (λk u E=>by
         have kJ:=(dK.1 E).1;have tV:0<((l.take m).drop j).length:=by
          rcases Nat.eq_zero_or_pos ((l.take m).drop j).length with h0|h0
          ·grind
          ·exact h0
         obtain⟨b',Ba,C,_,q7⟩:=q6.2 tV;injection C with C;subst C;rw[Addr.add_lit];exact q7 k u E) oP (by omega) (λk E=>by rw[eW,I,<- U];exact(nh k E).1) (λk E=>by rw[eW,I,<- U];exact(nh k E).2)
        refine⟨_,af,ρ,_,by rw[qX,vm];exact eU,?_⟩;rw[eW,I,<- U];exact dU.set ⟨some ⟨b,0,none⟩,l.length,c,by simp only[cQ,cm],iL _,by omega,(W9 b _ c _).symm⟩ hd
      ·cases h
    ·cases h
  ·cases h
 ·cases h
def ag9{t:TypeId}{x y:A}:cw λX k=>FQ (X:=X) P N σ d t x y k:=λX Y k g=>by
 unfold FQ
 repeat' first|rfl|refine c9 ?_ ?_|split
def FT{X:Type}(P:Program)(σ:S)(t:TypeId)(x:A)(k:S->aj X):aj X:=
 match x with
 | .view [q] s i j=>(match vl P t with
  | some (e,tc)=>(match Ko P e tc with
   | some z=>(match σ.m q with
    |some (.sl (.sl C (o+2) D l))=>if h:tc=C then (bif Nat.beq s (aD tc)&&Nat.beq (full tc) 0 then (if i<=j/\j<=l.length then k (σ.root q (.sl (.sl C (o+2) D (splice l i (List.replicate (j-i) (h ▸ z))))))else none)else none)else none
    |_=>none)
   |none=>none)
  |none=>none)
 |_=>none
def aha{t ty:TypeId}{x:A}{k:S->aj X}(h:FT P σ t x k=some r):∃ c8,k c8=some r/\∀ af ρ a w,Rl w0 N af ρ σ a w->∀ u,RA w w0.heap.size af ρ x u->
  ∃w',(Builtin.clear_ #[t] ty #[u]).run P w = .ok (.tuple #[]) w'/\Rl w0 N af ρ c8 a w':=by
 unfold FT at h;split at h
 ·rename_i q s i j;split at h
  ·rename_i e tc oN;obtain⟨gE,ht,inf,hi,iy,jW⟩:=yY oN;split at h
   ·rename_i z T;split at h
    ·rename_i t' g qn l hm;split at h
     ·rename_i nc;subst nc;cases U:(Nat.beq s (aD tc)&&Nat.beq (full tc) 0)with
      |false=>rw[U]at h;cases h
      | true=>
       rw[U,au]at h;rw[aJ]at U;obtain rfl:=cN U.1;have hf:=cN U.2;split at h
       ·rename_i hb
        refine⟨_,h,λaf ρ a w hR u hu=>?_⟩
        obtain⟨A,n,c,Y,a1,a2,rfl⟩:=hu;unfold Ko at T;split at T
        ·cases T
        ·rename_i C Dg;split at T
         ·cases T
         ·rename_i vs lP;have oO:inf.zero=some C:=by unfold zeroOf at Dg;simpa [hi]using Dg
          obtain⟨qZ,m9⟩:=PX _ _ lP;have D:=lJ tc (full tc) vs z T;have mT:C.cells.size=aD tc:=by rw[<-kG tc (full tc) z,<-D.1,qZ];simp
          have hzr:∀w:World,(zeroValue e).run P w = .ok C w:=λw=>by simp[zeroValue,typeInfo,hi,oO]
          rcases Nat.eq_zero_or_pos (j-i)with h0|h0
          ·have vi:splice l i (List.replicate (j-i) z)=l:=by rw[h0];simp[splice]
           refine⟨w,?_,?_⟩
           ·unfold sliced;rw[h0];cases (if c=i then A else A.map (·.add (i*aD tc)))<;>simp[Builtin.clear_,gN gE]
           ·show Rl w0 N af ρ (σ.root q (.sl (.sl tc (g+2) qn (splice l i (List.replicate (j-i) z))))) a w;rw[vi];have:σ.root q (.sl (.sl tc (g+2) qn l))=σ:=by
             unfold S.root;have:bG σ.m q (some (.sl (.sl tc (g+2) qn l)))=σ.m:=by
              funext k;by_cases D:k=q
              ·subst D;rw[bK,hm]
              ·rw[cr _ _ _ D]
             rw[this]
            rw[this];exact hR
          ·have oQ:(Builtin.zeroCells C.cells (j-i))=madeCells C.cells ((j-i)*C.cells.size):=rfl;have iF:xh tc (List.replicate (j-i) z) (Builtin.zeroCells C.cells (j-i)).toList:=by
            intro i' h' o' E x I;rw[List.getElem_replicate]at I;have hj:E<aD tc:=by have:=(dK.1 I).1;rwa [kG]at this
            rw[kF]at h';have sr:=hj;rw[<-mT]at sr;have Z:(Builtin.zeroCells C.cells (j-i)).toList[i'*aD tc+E]?=some C.cells[E]:=by
             rw[oQ,Array.getElem?_toList,<-mT];exact W3 C.cells _ i' E sr (by
              have:(i'+1)*C.cells.size<=(j-i)*C.cells.size:=jX _ (by omega);rw[ji]at this;omega)
            rw[Dh tc hf o' (full tc)]at I;have FU:E<(enc tc (full tc) z).length:=(dK.1 I).1;rw[<-D.1]at FU;have hy:=bJ FU;generalize vs[E]=y at hy;obtain⟨v,hv,PY⟩:=m9 E y hy;have O:C.cells[E]=v:=by
             have e1:C.cells.toList[E]?=some C.cells[E]:=by simp[sr]
             rw[e1]at hv;injection hv
            have kY:∀(w':World) (B':Nat) (aA:bk) (q':aa Nat),RV w' B' aA q' x v:=λw' B' aA q'=>(W0 PY _).wk (D.2 E y x hy I)
            exact⟨_,Z,by rw[O];exact(kY w 0 (λ_=>none) []).one,λw' B' aA q'=>by rw[O];exact kY _ _ _ _⟩
           have sF:(Builtin.zeroCells C.cells (j-i)).toList.length=(List.replicate (j-i) z).length*aD tc:=by rw[oQ,kF,lG,size_madeCells,mT]
           obtain⟨b,cap,cm,lK,Z,dU⟩:=hR.W8 hm hf (p:=i) (ys:=List.replicate (j-i) z) (by rw[kF];omega) (by omega) iF sF;simp only[cQ,cm]at Y;injection Y with Y;injection Y with e1 e2 e3;subst e1 e2 e3;refine⟨_,?_,dU⟩;have fq:sliced (some ⟨b,0,none⟩) i j cap (aD tc) = .slice (some ⟨b,i*aD tc,none⟩) (j-i) (cap-i):=by
            unfold sliced;rw[aW,Option.map_some,Addr.add_lit,eW]
           have jm:=run_storeCells_cells (P:=P) b (i*aD tc) (Builtin.zeroCells C.cells (j-i)).toList 0 w (λk D=>(Z k D).1) (λk D=>(Z k D).2) (λv hv=>by
            obtain⟨k,D⟩:=List.mem_iff_getElem?.1 hv;have kJ:=(dK.1 D).1;rw[sF,kF]at kJ;have tV:=oE tc;obtain⟨x,I⟩:=Bh tc 0 z (k % aD tc) (Nat.mod_lt _ tV);have dI:k / aD tc<(List.replicate (j-i) z).length:=by rw[kF];exact Nat.div_lt_of_lt_mul (by rw[Nat.mul_comm];exact kJ)
            obtain⟨v',O,oP,_⟩:=iF (k / aD tc) dI 0 (k % aD tc) x (by rw[List.getElem_replicate];exact I);rw[Nat.mul_comm,Nat.div_add_mod,D]at O;injection O with O;rw[O];exact oP)
           simp only[Nat.add_zero]at jm;rw[fq];obtain⟨n',qV⟩:∃n',j-i=n'+1:=⟨j-i-1,by omega⟩
           rw[qV]at jm ⊢;simp[Builtin.clear_,gN gE,hzr,jm]
       ·cases h
     ·cases h
    ·cases h
   ·cases h
  ·cases h
 ·cases h
def ahb{t:TypeId}{x:A}:cw λX k=>FT (X:=X) P σ t x k:=λX Y k g=>by
 unfold FT
 repeat' first|rfl|refine c9 ?_ ?_|split
end
def za(place:Nat->aj (Nat×Nat))(cells:aa Lf):aa (Nat×A)->aj (aa Lf)
 |[]=>some cells
 | (i,x) :: rest=>match place i,x.yT with
  |some (off,n),some xs=>if xs.length=n/\off+n<=cells.length then (bif xs.all Lf.live then za place (splice cells off xs) rest else none)else none
  |_,_=>none
def Xb(P:Program)(t:TypeId):aj (Nat->aj (Nat×Nat)):=
 match P.underlying t with
 |some (.array _ e)=>(P.info? e).map λC=>λi=>some (i*C.size,C.size)
 |some (.struct fields)=>(fields.toList.mapM (λf=>(P.info? f.type).map λi=>(f.offset,i.size))).map λps=>(ps.toArray[·]?)
 |_=>none
def Dk{X:Type}(P:Program)(σ:S)(t:TypeId)(parts:aa (Nat×Operand))(k:A->aj X):aj X:=
 match zeroOf P t,Xb P t with
 | some z,some pl=>match za pl (z.cells.toList.map nT) (parts.map λp=>(p.1,aK σ p.2))with
  |some cs=>k (.agg cs)
  |none=>none
 |_,_=>none
def Lf.asV:Lf->aj V
 |.v x=>some x
 |_=>none
def vn:aa Lf->aj (aa V)
 |[]=>some []
 | x :: xs=>match x.asV,vn xs with
  |some y,some ys=>some (y::ys)
  |_,_=>none
def FV(t:TC)(g:Nat):Nat->aa V->aj (aa (T t))
 |0,[]=>some []
 |0,_=>none
 | n+1,C=>match dec t g (C.take (aD t)),FV t g n (C.drop (aD t))with
  |some x,some xs=>some (x::xs)
  |_,_=>none
def zb{X:Type}(P:Program)(N:Nat)(σ:S)(d:Nat)(t:TypeId)(len:Nat)(parts:aa (Nat×Operand))(k:S->aj X):aj X:=
 match vl P t with
 | some (e,tc)=>match zeroOf P e with
  | some z=>bif Nat.beq (full tc) 0&&Nat.beq z.cells.size (aD tc)&&Nat.blt (len*aD tc) 16777217 then (match za (λi=>some (i*aD tc,aD tc)) (List.replicate len (z.cells.toList.map nT)).flatten (parts.map λp=>(p.1,aK σ p.2))with
   | some cs=>(match vn cs with
    | some C=>(match FV tc 0 len C with
     |some l=>gY N σ d (.sl (.sl tc 2 true l)) (.lf (.own [d])) k
     |none=>none)
    |none=>none)
   |none=>none)else none
  |none=>none
 |none=>none
section
variable {P:Program} {w w':World} {w0:Wd} {B N:Nat} {af aA:bk} {ρ ρ':Nat->Loc} {σ:S} {a:Act} {X:Type} {d:Nat} {r:X}
def Xc(off:Nat):∀ (l:aa Value) (n:Nat) (cs:Array Value),off+n+l.length <= cs.size ->
  ((l.zipIdx n).foldl (λ(cs:Array Value) (p:Value×Nat)=>cs.setIfInBounds (off+p.2) p.1) cs).toList=splice cs.toList (off+n) l
 |[],n,cs,_=>by simp[splice]
 | v :: l,n,cs,h=>by
  simp at h;rw[List.zipIdx_cons,List.foldl_cons,Xc off l (n+1) _ (by simp;omega)];have C:off+n<cs.toList.length:=by simp;omega
  simp only[splice,Array.toList_setIfInBounds,mb];have D:(cs.toList.set (off+n) v).take (off+(n+1))=cs.toList.take (off+n)++[v]:=by
   rw[show off+(n+1)=off+n+1 by omega,List.take_succ_eq_append_getElem (by simpa using C),List.getElem_set_self,List.take_set_of_le (dB _)]
  have E:(cs.toList.set (off+n) v).drop (off+(n+1)+l.length)=cs.toList.drop (off+(n+1)+l.length):=by
   rw[List.drop_set_of_lt (by omega)]
  grind
def eI.splice{cs xs:aa Lf}{D E:Array Value}(h:eI w B af ρ cs D)(I:eI w B af ρ xs E){off:Nat}(O:off+xs.length <= cs.length){T:Array Value}(Y:T.toList=Proofs.YtpigmalhjkekiaaGreat.splice D.toList off E.toList):eI w B af ρ (Proofs.YtpigmalhjkekiaaGreat.splice cs off xs) T:=by
 have Z:off+E.toList.length <= D.toList.length:=by rw[lG,lG,I.1,h.1];exact O
 refine⟨?_,λj x C=>?_⟩
 ·rw[tQ _ _ _ O,<- lG,Y,tQ _ _ _ Z,lG,h.1]
 ·have e:T[j]?=(Proofs.YtpigmalhjkekiaaGreat.splice D.toList off E.toList)[j]?:=by rw[<- Y,Array.getElem?_toList]
  rw[e,wX _ _ _ Z,lG,I.1];rw[wX _ _ _ O]at C;by_cases U:j<off
  ·simp[U,Array.getElem?_toList]at C ⊢;exact h.2 j x C
  ·by_cases h2:j<off+xs.length
   ·simp[U,h2,Array.getElem?_toList]at C ⊢;exact I.2 _ x C
   ·simp[U,h2,Array.getElem?_toList]at C ⊢;exact h.2 j x C
def Kv{place:Nat -> aj (Nat×Nat)}:∀ (parts:aa (Nat×A)) (cells:aa Lf) (C:Array Value) (D:aa (Nat×Value)) (out:aa Lf),za place cells parts=some out -> eI w B af ρ cells C -> D.length=parts.length ->
  (∀(j:Nat) p q,parts[j]?=some p -> D[j]?=some q -> p.1=q.1/\RA w B af ρ p.2 q.2) -> ∃E,Instr.fill place C D=some E/\eI w B af ρ out E
 | [],cells,C,D,out,h,I,hl,hp=>by
  have:D=[]:=vb hl;subst this;injection h with h;subst h;exact⟨C,rfl,I⟩
 | (i,x) :: rest,cells,C,D,out,h,I,hl,hp=>by
  cases D with
  |nil=>simp at hl
  | cons v D=>
   obtain⟨i',v⟩:=v;obtain⟨e,O⟩:=hp 0 _ _ rfl rfl;simp only at e O;subst e;unfold za at h;split at h
   ·rename_i off n xs Y Z;split at h
    ·rename_i hb;cases T:xs.all Lf.live with
     |false=>grind
     | true=>
      rw[T,au]at h;obtain⟨U,_⟩:=FH Z T O;have FW:v.cells.size=n:=by rw[U.1];exact hb.1
      have me:¬ (off+v.cells.size > C.size):=by rw[FW,I.1];omega
      have ahc:(v.cells.zipIdx.foldl (λ(cs:Array Value) (p:Value×Nat)=>cs.setIfInBounds (off+p.2) p.1) C).toList=Proofs.YtpigmalhjkekiaaGreat.splice C.toList off v.cells.toList:=by
       have:=Xc off v.cells.toList 0 C (by rw[lG];omega);rw[<- Array.foldl_toList,Array.toList_zipIdx];exact this
      have vi:=I.splice U (off:=off) (by rw[hb.1];exact hb.2) ahc;obtain⟨E,sB,dU⟩:=Kv rest _ _ D out h vi (by simpa using hl) (λj p q FX sq=>hp (j+1) p q (by simpa using FX) (by simpa using sq));refine⟨E,?_,dU⟩;have bY:(v.cells.size≠n || off+v.cells.size > C.size)=false:=by
       grind
      simp only[Instr.fill,Y];rw[aW (by rw[bY];simp)];exact sB
    ·cases h
   ·cases h
def ahd(z:Value):eI w B af ρ (z.cells.toList.map nT) z.cells:=by
 refine⟨by simp,λj x C=>?_⟩
 rw[ez]at C;cases hv:z.cells.toList[j]? with
 |none=>simp_all
 | some v=>
  rw[hv]at C;injection C with C;subst C;exact⟨v,by simpa using hv,Kq v⟩
def ahe{t:TypeId}{parts:Array (Nat×Operand)}{k:A -> aj X}(h:Dk P σ t parts.toList k=some r):∃ y,k y=some r /\ ∀ af ρ a w,Rl w0 N af ρ σ a w ->
  ∃v,(Instr.build t (parts.map λ(i,x)=>(i,a.eval x))).run P w = .ok v w/\RA w w0.heap.size af ρ y v:=by
 unfold Dk at h;split at h
 ·rename_i z pl D C;split at h
  ·rename_i cs Y
   refine⟨_,h,λaf ρ a w Z=>?_⟩
   obtain⟨O,T,dU⟩:=Kv (w:=w) (B:=w0.heap.size) (af:=af) (ρ:=ρ) _ _ z.cells (parts.toList.map λp=>(p.1,a.eval p.2)) cs Y (ahd z) (by simp) (λj p q hp hq=>by
    rw[ez]at hp hq;cases U:parts.toList[j]? with
    |none=>rw[U]at hp;cases hp
    | some x=>
     rw[U]at hp hq;injection hp with hp;injection hq with hq;subst hp hq;exact⟨rfl,Z.aK x.2⟩)
   refine⟨_,run_build (P:=P) w t _ O ?_,O,rfl,dU⟩;have FY:(parts.map λ(i,x)=>(i,a.eval x)).toList=parts.toList.map λp=>(p.1,a.eval p.2):=by simp
   rw[FY];unfold zeroOf at D;unfold Program.built;cases hi:P.info? t with
   |none=>simp[hi]at D
   | some i=>
    have D:i.zero=some z:=by simpa [hi]using D
    unfold Xb at C;split at C
    ·rename_i n e E;cases I:P.info? e with
     |none=>simp[I]at C
     | some ie=>
      rw[I]at C;injection C with C;subst C;simp[E,D,I];exact T
    ·rename_i fields E;cases hp:fields.toList.mapM (λf=>(P.info? f.type).map λi=>(f.offset,i.size))with
     |none=>rw[hp]at C;cases C
     | some ps=>
      rw[hp]at C;injection C with C;subst C;simp only[E,D,hp];exact T
    ·cases C
  ·cases h
 ·cases h
def Kw:∀ (cs:aa Lf) (C:aa V),vn cs=some C->cs=C.map .v
 |[],C,h=>by injection h with h;subst h;rfl
 | x :: xs,C,h=>by
  unfold vn at h;split at h
  next y ys D E=>injection h with h;subst h;rw[Kw xs ys E,List.map_cons];cases x<;>first|(injection D with D;rw[D])|cases D
  ·cases h
def P5(t:TC)(g:Nat):∀ (n:Nat) (C:aa V) (l:aa (T t)),FV t g n C=some l -> l.length=n/\C.length=n*aD t /\ ∀ i (hi:i<l.length) (j:Nat) x,(enc t g l[i])[j]?=some x -> ∃ y,C[i*aD t+j]?=some y/\Wk y x
 | 0,[],l,h=>by
  injection h with h;subst h;exact⟨rfl,by simp,λi hi=>by simp at hi⟩
 |0,_::_,l,h=>by cases h
 | n+1,C,l,h=>by
  unfold FV at h;split at h
  ·rename_i x xs I O;injection h with h;subst h;obtain⟨U,h2,h3⟩:=P5 t g n _ xs O;have D:=lJ t g _ x I;have hlen:(C.take (aD t)).length=aD t:=by rw[D.1,kG]
   have oI:aD t <= C.length:=by rw[jF]at hlen;omega
   refine⟨by simp[U],?_,λi hi j y E=>?_⟩
   ·grind
   ·cases i with
    | zero=>
     have Y:j<aD t:=by have:=(dK.1 E).1;rwa [kG]at this
     have Z:=bJ (by rw[hlen];exact Y);refine⟨_,?_,D.2 j _ y Z E⟩;simp_all
    |succ i =>grind
  ·cases h
def RV.under{k:aa Nat}{x:V}{v:Value}{n:Nat}(h:RV w B af k x v)(E:1<k.length\/x.aG=true)(I:w.heap.size<=w'.heap.size)(hb:∀ b,b<w.heap.size->af b≠some [n]->w'.heap[b]?=w.heap[b]?)(hl:∀ b,b<w.heap.size->aA b=af b):RV w' B aA k x v:=
 h.map (Q:=λk D=>k=D/\1<k.length) I (λb C h=>⟨hb b C (by rw[h];simp),(hl b C).trans h⟩) (λb k D C h e=>by
  obtain⟨rfl,e⟩:=e;exact⟨hb b C (by rw[h];rintro⟨⟩;simp at e),(hl b C).trans h,λ_ _ _=>⟨rfl,by simp⟩⟩) (E.symm.imp_right λh=>⟨rfl,h⟩)
def tW(w:World)(B:Nat)(af:bk)(n C:Nat)(t:TC)(o:Nat)(l:aa (T t))(D:aa Value):Prop:=
 ∀i (hi:i<l.length) j x,(enc t o l[i])[j]?=some x->∃v,D[i*aD t+j]?=some v/\RV w B af (j::(C+i)::aD t::[n]) x v
def RV.ahf{n:Nat}{t:TC}{o:Nat}{C:Bool}{l:aa (T t)}{u:Value}(h:RV w B af [n] (.sl t (o+2) C l) u){B':Nat}(hB:∀ b,af b=some [n] -> B' <= b):
  ∃xs,w.ownsRow B' (tid t) (aD t) u l.length xs/\(∀b,u.ownBlock=some b -> af b=some [n])/\(C=true -> u.ownBlock≠none)/\tW w B af n 0 t o l xs:=by
 cases h with
 |fF=>omega
 |fP=>omega
 |eD=>exact⟨[],⟨by simp,.inl ⟨rfl,rfl⟩⟩,by simp[Value.ownBlock],by simp,λi hi=>by simp at hi⟩
 |aG _ _ _ _ _ _ _ _ _ Y=>omega
 | own _ _ _ _ _ b cap cs us hl hh D hn E Z hr=>
  refine⟨cs.toList.take _,⟨?_,.inr ⟨b,cap,cs,rfl,hB b hl,hh,hn,E.1,D,rfl⟩⟩,λI O=>?_,λ_=>by simp[Value.ownBlock],λi hi j x U=>?_⟩
  ·simp_all
  ·have:b=I:=by simpa [Value.ownBlock]using O
   simp_all
  ·have hj:j<aD t:=by have:=(dK.1 U).1;rwa [kG]at this
   have dI:i*aD t+j<l.length*aD t:=by
    have:(i+1)*aD t <= l.length*aD t:=jX _ hi;rw[ji]at this;omega
   grind
def tW.append{n:Nat}{t:TC}{o:Nat}{l l2:aa (T t)}{xs ys:aa Value}(h:tW w B af n 0 t o l xs)(E:tW w B af n l.length t o l2 ys)(hl:xs.length=l.length*aD t):tW w B af n 0 t o (l++l2) (xs++ys):=by
 intro i hi j x C;by_cases D:i<l.length
 ·rw[List.getElem_append_left D]at C;obtain⟨v,hv,r⟩:=h i D j x C
  grind
 ·rw[List.getElem_append_right (by omega)]at C;have I:i-l.length<l2.length:=by rw[nM]at hi;omega
  obtain⟨v,hv,r⟩:=E _ I j x C;refine⟨v,?_,?_⟩
  ·have e:i*aD t+j=xs.length+((i-l.length)*aD t+j):=by
    rw[ Nat.sub_mul];have:l.length*aD t <= i*aD t:=jX _ (by omega);omega
   grind
  ·grind
def tW.under{n C:Nat}{t:TC}{o:Nat}{l:aa (T t)}{D:aa Value}(h:tW w B af n C t o l D)(E:w.heap.size<=w'.heap.size)(hb:∀ b,b<w.heap.size->af b≠some [n]->w'.heap[b]?=w.heap[b]?)(hl:∀ b,b<w.heap.size->aA b=af b):tW w' B aA n C t o l D:=
 λi hi j x I=>let ⟨v,hv,r⟩:=h i hi j x I;⟨v,hv,r.under (.inl (by simp)) E hb hl⟩
def Xd{n:Nat}{t:TC}{o:Nat}{l:aa (T t)}{u:Value}{xs:aa Value}{B':Nat}(h:w.ownsRow B' (tid t) (aD t) u l.length xs)(D:tW w B af n 0 t o l xs)(hl:∀ b,u.ownBlock=some b -> af b=some [n]):
  RV w B af [n] (.sl t (o+2) false l) u:=by
 rcases h.2 with ⟨rfl,E⟩|⟨b,cap,cs,rfl,hB,hh,hn,I,O,U⟩
 ·have:=vb E;subst this;exact .eD _ _ _
 ·have Y:∀ i _ j x,(enc t o l[i])[j]?=some x -> ∃ v,cs[i*aD t+j]?=some v/\RV w B af (j :: i :: aD t :: [n]) x v:=by
   intro i hi j x C;obtain⟨v,hv,r⟩:=D i hi j x C
   grind
  refine .own [n] t o false l b cap cs (λi j=>(cs[i*aD t+j]?).getD undef) (hl b rfl) hh O hn ⟨I,λh=>by cases h⟩ (λi hi j x C=>?_) (λi hi j x C=>?_)
  ·grind
  ·grind
def Rl.ahg{t e ty:TypeId}{tc:TC}{i:TypeInfo}{z:Value}{rr o m c:Nat}{q:Bool}{l l2:aa (T tc)}{u:Value}{ad:aj Addr}{news:aa Value}(h:Rl w0 N af ρ σ a w)(hF:w0.F rr=none)(gE:P.underlying t=some (.slice e))(ht:tid tc=e)(hi:P.info? e=some i)(hz:i.zero=some z)
  (iy:i.size=aD tc) (jW:i.bytes <= 65536) (mT:z.cells.size=aD tc) (hd:RV w w0.heap.size af [rr] (.sl tc (o+2) q l) u) (q6:Reads w w.heap.size (aD tc) ad m news) (oP:∀v∈news,v.oneCell'=true) (hm:m=l2.length)
  (FN:tW w w0.heap.size af rr l.length tc o l2 news) (hlen:l.length+l2.length<1073741824):
  ∃C w' aA,(Builtin.append_ #[t,t] ty #[u,.slice ad m c]).run P w = .ok C w'/\Rl w0 N aA (bG ρ rr (.dG C)) ((σ.drop rr).root rr (.sl (.sl tc (o+2) false (l++l2)))) a w'/\mc C=true:=by
 subst ht hm;obtain⟨xs,yZ,Z,FM,iF⟩:=hd.ahf (B':=0) (λb _=>iL b);have gV:(l.length+l2.length)*i.bytes <= 140737488355328:=by
  have h1:(l.length+l2.length)*i.bytes <= 1073741824*65536:=Nat.mul_le_mul (by omega) jW;omega
 obtain⟨C,w',eU,I,E,gZ⟩:=Pc (P:=P) w 0 t ty (tid tc) i z (aD tc) i.bytes gE hi hz iy rfl mT (oE tc) u l.length xs yZ _ ad l2.length c news q6 oP (by unfold maxLen;omega) gV (iL _);have FO:(l++l2).length=l.length+l2.length:=nM;rw[<- FO]at I;have Bi:=iF.append FN yZ.1;have fq:mc C=true:=by rcases I.2 with ⟨rfl,_⟩|⟨_,_,_,rfl,_⟩<;>rfl
 have O:Below 0 w w':=(Below.refl 0 w).grown E (iL _) (λ_ _=>iL _);have sE:iX w0 w w':=⟨O.os,O.tape,O.output,O.size,λk D hL=>E.block k (Nat.lt_of_lt_of_le D h.below.size) (λe'=>by
  rcases(h.cV k _ (Z k e'.symm)).1 with h1|h1
  ·exact absurd D (Nat.not_lt.2 h1)
  ·exact h1 hL)⟩
 have U:∀b,b<w.heap.size -> af b≠some [rr] -> w'.heap[b]?=w.heap[b]?:=λb hb bY=>E.block b hb (λe'=>bY (Z b e'.symm))
 by_cases Y:C.ownBlock=some w.heap.size
 ·have dI:w.heap.size<w'.heap.size:=by
   rcases I.2 with ⟨rfl,_⟩|⟨b,cap,cs,rfl,_,hh,_⟩
   ·cases Y
   ·have:b=w.heap.size:=by simpa [Value.ownBlock]using Y
    grind
  have FZ:∀b,b<w.heap.size -> bG af w.heap.size (some [rr]) b=af b:=λb hb=>cr _ _ _ (by omega)
  refine⟨C,w',bG af w.heap.size (some [rr]),eU,h.yW hF sE ⟨E.size,U,FZ,λb hb=>(h.cV b [] hb).2.2 rfl⟩ (λb k hb D=>?_) (λr hr=>cr _ _ _ hr) (.sl C _ (bK _ _ _) (Xd I (Bi.under E.size U FZ) (λb hb=>?_))),fq⟩
  ·by_cases e:b=w.heap.size
   ·subst e;rw[bK]at D
    grind
   ·rw[cr _ _ _ e]at D;have:=(h.cV b k D).2.1;omega
  ·rw[Y]at hb;injection hb with hb;subst hb;exact bK _ _ _
 ·have P1:C.ownBlock=u.ownBlock:=by
   rcases gZ with gZ|gZ
   ·exact gZ
   ·exact absurd gZ Y
  refine⟨C,w',af,eU,h.yW hF sE ⟨E.size,U,λ_ _=>rfl,λb hb=>(h.cV b [] hb).2.2 rfl⟩ (λb k hb D=>?_) (λr hr=>cr _ _ _ hr) (.sl C _ (bK _ _ _) (Xd I (Bi.under E.size U (λ_ _=>rfl)) (λb hb=>Z b (by rw[<- P1];exact hb)))),fq⟩
  have:=(h.cV b k D).2.1;omega
end
end Go.Proofs.YtpigmalhjkekiaaGreat
