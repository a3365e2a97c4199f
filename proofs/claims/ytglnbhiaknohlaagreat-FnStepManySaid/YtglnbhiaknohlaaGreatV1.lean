/-
  Running the program over pure contents, and that it follows (part 1). Nothing here is a claim.
-/
import Derived.Test.YtglnbhiaknohlaaGreatAppend
import Derived.Test.YtglnbhiaknohlaaGreatLaws
import Derived.Handy
import Derived.Great.BuildSlice
import Derived.ArgAppend
set_option linter.unusedSimpArgs false
namespace Go.Proofs.YtglnbhiaknohlaaGreat
open Go.RowKit
set_option linter.defProp false
abbrev aa:=List
abbrev ah:=Option
abbrev af:=Unit
def ak:=@cond_true
def eB:=@Bool.or_eq_true
def aO:=@Bool.and_eq_true
def cD:=@Nat.eq_of_beq_eq_true
def cL:=@Nat.le_of_ble_eq_true
def fT:=@List.mem_of_getElem?
def dz:=@List.getElem?_map
def kO:=@Nat.lt_of_lt_of_le
def kf:=@World.cell?_of_block
def gd:=@Array.getElem?_eq_some_iff
def fj:=@Nat.zero_add
def dB:=@List.length_map
def mC:=@List.any_eq_false
def au:=@cond_false
def ij:=@Array.getD_eq_getD_getElem?
def lM:=@Array.length_toList
theorem bA.{u}{c:Prop}{h:Decidable c}(k:c:=by omega){α:Sort u}{t e:α}:ite c t e=t:=if_pos k
theorem bM.{u}{c:Prop}{h:Decidable c}(k:¬c:=by omega){α:Sort u}{t e:α}:ite c t e=e:=if_neg k
def jk:=@List.length_set
def dW:=@List.getElem?_eq_some_iff
def bX:=@List.getElem?_eq_getElem
def iN:=@Nat.mul_le_mul_right
def iC:=@Nat.succ_mul
def eK:=@Nat.le_refl
def fm:=@Sem.run_bind
def ki:=@Result.andThen_ok
def gJ:=@run_underlying
def cI:=@List.all_eq_true
def cU:=@List.getElem_mem
def iD:=@Nat.ble_eq_true_of_le
def iE:=@Option.some.injEq
def kP:=@Option.map_some
def lN:=@List.map_congr_left
def fP:=@List.length_take
def nh:=@List.length_replicate
def fk:=@List.getD_eq_getElem?_getD
def bH:=@congrArg
def oS:=@Bool.or_eq_false_iff
def gT:=@Bool.not_eq_true'
def gf:=@List.mem_cons
theorem aA.{u}{c:Prop}{h:Decidable c}(k:c:=by omega){α:Sort u}{t:c->α}{e:¬c->α}:dite c t e=t k:=dif_pos k
def oT:=@List.mem_singleton
def jz:=@List.length_singleton
def kj:=@List.nil_append
def fq:=@List.mem_range
def ko:=@List.getElem_range
theorem aS{p:Prop}[Decidable p](k:p:=by omega):decide p=true:=decide_eq_true k
def gK:=@decide_eq_true_eq
def bF:=@Bool.not_true
def oU:=@Int.tmod_eq_emod_of_nonneg
theorem bh{p:Prop}[Decidable p](k:¬p:=by omega):decide p=false:=decide_eq_false k
def bB:=@Int.toNat_natCast
def ef:=@Sum.elim_inl
def cq:=@Int.natCast_zero
def eX:=@Int.eq_ofNat_of_zero_le
def cJ:=@Bool.true_and
def jl:=@List.take_length
def ni:=@beq_self_eq_true
def jA:=@List.mem_iff_getElem
def nj:=@List.findIdx?_eq_some_iff_getElem
def dh:=@List.length_range
def iq:=@Bool.not_false
def pS:=@Int.tdiv_eq_ediv_of_nonneg
def qQ:=@decide_eq_false_iff_not
def fI:=@beq_iff_eq
set_option linter.unusedVariables false
set_option linter.unusedSimpArgs false
structure aM where
 cu:Int
 aC:Int
 rows:Int
 aN:Int
structure aK where
 ax:Int
 row:Int
 bT:Int
structure kQ where
 order:Int
 hash:Bool
structure MA where
 owner:List Int
structure aH where
 kind:Int
 ax:Int
 row:Int
 bT:Int
structure c7 where
 jI:Int
 rp:Int
 gw:Int
 nq:Int
 jJ:Int
 jK:Int
 nt:Int
 nu:Int
 iY:Int
 wr:Int
 ny:Int
 nA:Int
 pT:Int
 nB:Int
 n8:Int
 xp:Int
 xs:Int
structure eP where
 open_:Bool
 row:Int
structure cK where
 aC:List eP
 bg:Int
structure eY where
 at_:Int
 cmd:aH
structure dG where
 last:List Int
 bf:List Int
structure bY where
 symbols:List Int
 ir:Bool
structure dm where
 cells:List bY
 bz:List Int
 br:List Int
structure kR where
 bz:Int
 br:Int
structure cr where
 rows:List Int
 counts:List Int
 dc:Int
structure dH where
 bP:Int
 map:List Int
structure cY where
 aJ:List Int
 wait:Int
 dD:Bool
structure aX where
 id:Int
 dI:Int
 line:Int
 write:Bool
 data:Int
 at_:Int
structure cw where
 weight:Int
 fy:Int
structure gx where
 on:Bool
 low:Int
 high:Int
structure MB where
 owner:List Int
 length:Int
structure MC where
 id:Int
 at_:Int
structure eR where
 state:Int
 since:Int
 idle:Int
structure n9 where
 down:Int
 sleep:Int
structure cv where
 line:Int
 code:Int
 times:Int
structure MD where
 alQ:List ByteArray
structure ME where
 alR:List Int
 next:Int
structure MF where
 count:Int
 commands:List aH
structure Dc where
 count:Int
 tag:Int
structure Ga where
 root:Int
 mid:List Dc
 leaf:List Dc
structure MG where
 key:Int
 tree:Ga
 data:List Int
 tags:List Int
structure kS where
 next:Int
 every:Int
 wait:Int
structure MH where
 index:Int
 before:bY
 after:bY
 code:Int
structure MI where
 ax:Int
 from_:Int
 to:Int
 next:Int
structure dJ where
 eS:Int
 cap:Int
 eZ:Int
 low:Int
 high:Int
 weights:List Int
 dS:n9
structure fU where
 bV:dJ
 next:dJ
 waits:Bool
structure eT where
 az:aM
 bL:c7
 mapping:kQ
 bP:Int
 interval:Int
 gU:Int
 dU:kR
structure eM where
 id:Int
 at_:Int
 data:Int
 code:Int
structure av where
 config:eT
 box:fU
 now:Int
 bq:cK
 ready:dG
 array:dm
 spare:dH
 aQ:cY
 bO:List cr
 guard:List Int
 pending:List aK
 queue:List aX
 shares:List cw
 drain:gx
 bg:eR
 cM:kS
 errors:List cv
 trace:List eY
 cz:List eM
structure iZ where
 kind:Int
 request:aX
 n:Int
 ye:Int
 addr:aK
 oa:dJ
structure MJ where
 line:Int
 data:Int
 code:Int
structure bN where
 b:List Int
 i:Int
 h:Int
inductive TC where
 |int|u8|bool|str
 |fM
 |Addr
 |qR
 |yf
 |Command
 |kT
 |kr
 |gV
 |Event
 |kU
 |Cell
 |Array
 |r4
 |gD
 |oc
 |kV
 |di
 |fF
 |od
 |yg
 |yh
 |Power
 |r5
 |fN
 |yj
 |yl
 |Receiver
 |Node
 |Tree
 |ym
 |qS
 |yo
 |Move
 |lO
 |oe
 |Config
 |lP
 |cO
 |Act
 |Fact
 |qT
 |sl (t:TC)
 |kW
 |yp (g:Nat)
 |Dd (g:Nat)
 |yu (g:Nat)
 |fnCommand (g:Nat)
deriving DecidableEq
def T:TC->Type
 |.int=>Int
 |.u8=>Int
 |.bool=>Bool
 |.str=>ByteArray
 |.fM=>aM
 |.Addr=>aK
 |.qR=>kQ
 |.yf=>MA
 |.Command=>aH
 |.kT=>c7
 |.kr=>eP
 |.gV=>cK
 |.Event=>eY
 |.kU=>dG
 |.Cell=>bY
 |.Array=>dm
 |.r4=>kR
 |.gD=>cr
 |.oc=>dH
 |.kV=>cY
 |.di=>aX
 |.fF=>cw
 |.od=>gx
 |.yg=>MB
 |.yh=>MC
 |.Power=>eR
 |.r5=>n9
 |.fN=>cv
 |.yj=>MD
 |.yl=>ME
 |.Receiver=>MF
 |.Node=>Dc
 |.Tree=>Ga
 |.ym=>MG
 |.qS=>kS
 |.yo=>MH
 |.Move=>MI
 |.lO=>dJ
 |.oe=>fU
 |.Config=>eT
 |.lP=>eM
 |.cO=>av
 |.Act=>iZ
 |.Fact=>MJ
 |.qT=>bN
 |.sl t=>aa (T t)
 |.kW=>av
 |.yp _=>Int
 |.Dd _=>aX
 |.yu _=>aK
 |.fnCommand _=>aH
def aF:TC->Nat
 |.kW=>76
 |.yp _=>3
 |.Dd _=>8
 |.yu _=>5
 |.fnCommand _=>6
 |.fM=>4
 |.Addr=>3
 |.qR=>2
 |.yf=>1
 |.Command=>4
 |.kT=>17
 |.kr=>2
 |.gV=>2
 |.Event=>5
 |.kU=>2
 |.Cell=>2
 |.Array=>3
 |.r4=>2
 |.gD=>3
 |.oc=>2
 |.kV=>3
 |.di=>6
 |.fF=>2
 |.od=>3
 |.yg=>2
 |.yh=>2
 |.Power=>3
 |.r5=>2
 |.fN=>3
 |.yj=>1
 |.yl=>2
 |.Receiver=>2
 |.Node=>2
 |.Tree=>3
 |.ym=>6
 |.qS=>3
 |.yo=>6
 |.Move=>4
 |.lO=>8
 |.oe=>17
 |.Config=>28
 |.lP=>4
 |.cO=>75
 |.Act=>20
 |.Fact=>3
 |.qT=>3
 |_=>1
def full:TC->Nat
 |.int|.u8|.bool|.str=>0
 |.fM=>0
 |.Addr=>0
 |.qR=>0
 |.yf=>2
 |.Command=>0
 |.kT=>0
 |.kr=>0
 |.gV=>2
 |.Event=>0
 |.kU=>2
 |.Cell=>2
 |.Array=>4
 |.r4=>0
 |.gD=>2
 |.oc=>2
 |.kV=>2
 |.di=>0
 |.fF=>0
 |.od=>0
 |.yg=>2
 |.yh=>0
 |.Power=>0
 |.r5=>0
 |.fN=>0
 |.yj=>2
 |.yl=>2
 |.Receiver=>2
 |.Node=>0
 |.Tree=>2
 |.ym=>2
 |.qS=>0
 |.yo=>2
 |.Move=>0
 |.lO=>2
 |.oe=>2
 |.Config=>0
 |.lP=>0
 |.cO=>4
 |.Act=>2
 |.Fact=>0
 |.qT=>2
 |.sl t=>full t+2
 |.kW=>4
 |.yp _=>0
 |.Dd _=>0
 |.yu _=>0
 |.fnCommand _=>0
def tid:TC->TypeId
 |.int=>3
 |.u8=>5
 |.bool=>4
 |.str=>9
 |.fM=>25
 |.Addr=>137
 |.qR=>29
 |.yf=>0
 |.Command=>79
 |.kT=>27
 |.kr=>157
 |.gV=>43
 |.Event=>81
 |.kU=>45
 |.Cell=>199
 |.Array=>48
 |.r4=>31
 |.gD=>181
 |.oc=>50
 |.kV=>52
 |.di=>73
 |.fF=>187
 |.od=>58
 |.yg=>0
 |.yh=>0
 |.Power=>60
 |.r5=>36
 |.fN=>190
 |.yj=>0
 |.yl=>0
 |.Receiver=>0
 |.Node=>0
 |.Tree=>0
 |.ym=>0
 |.qS=>62
 |.yo=>0
 |.Move=>0
 |.lO=>38
 |.oe=>40
 |.Config=>33
 |.lP=>101
 |.cO=>67
 |.Act=>249
 |.Fact=>0
 |.qT=>169
 |.sl .int=>34
 |.sl .bool=>284
 |.sl .str=>0
 |_=>0
inductive V where
 |int (k:IntKind) (n:Int)
 |bool (b:Bool)
 |str (s:ByteArray)
 |nil
 |sl (t:TC) (o:Nat) (q:Bool) (l:List (T t))
def V.aT:V->ah Int|.int .i64 n=>some n|_=>none
def V.Tj:V->ah Int|.int .u8 n=>some n|_=>none
def V.mD:V->ah Bool|.bool b=>some b|_=>none
def V.Tl:V->ah ByteArray|.str s=>some s|_=>none
def V.dP(t:TC)(o:Nat):V->ah (aa (T t))
 |.sl D C _ l=>bif Nat.beq C o ||(Nat.ble (full t+2) C&&Nat.ble (full t+2) o)then (if h:D=t then some (h ▸ l)else none)else none
 |.nil=>some []
 |_=>none
inductive Wk:V->V->Prop
 |same (x:V):Wk x x
 |nil (t:TC) (o:Nat):Wk .nil (.sl t o false [])
 |q (t:TC) (o:Nat) (l:List (T t)):Wk (.sl t o true l) (.sl t o false l)
 |gr (t:TC) (o o':Nat) (qn:Bool) (l:List (T t)) (h:full t+2<=o) (h':full t+2<=o'):Wk (.sl t o' qn l) (.sl t o false l)
def bZ(xs ys:aa V):Prop:=xs.length=ys.length/\∀(j:Nat) (x y:V),xs[j]?=some x->ys[j]?=some y->Wk x y
def bZ.nil:bZ [] []:=⟨rfl,by simp⟩
def bZ.cons{x y:V}{xs ys:aa V}(h:Wk x y)(k:bZ xs ys):bZ (x :: xs) (y :: ys):=by
 refine⟨by simp[k.1],λj a b C hb=>?_⟩
 cases j with
 |zero=>simp_all
 |succ j=>simp at C hb;exact k.2 j a b C hb
def V.aU{x:V}{n:Int}(h:x.aT=some n):Wk x (.int .i64 n):=by
 unfold V.aT at h;split at h<;>first|(injection h with h;subst h;exact .same _)|cases h
def V.alS{x:V}{n:Int}(h:x.Tj=some n):Wk x (.int .u8 n):=by
 unfold V.Tj at h;split at h<;>first|(injection h with h;subst h;exact .same _)|cases h
def V.og{x:V}{n:Bool}(h:x.mD=some n):Wk x (.bool n):=by
 unfold V.mD at h;split at h<;>first|(injection h with h;subst h;exact .same _)|cases h
def V.alT{x:V}{n:ByteArray}(h:x.Tl=some n):Wk x (.str n):=by
 unfold V.Tl at h;split at h<;>first|(injection h with h;subst h;exact .same _)|cases h
def V.dX{x:V}{t:TC}{o:Nat}{l:aa (T t)}(h:x.dP t o=some l):Wk x (.sl t o false l):=by
 unfold V.dP at h;split at h
 ·rename_i E C q I;cases hc:(Nat.beq C o || (Nat.ble (full t+2) C&&Nat.ble (full t+2) o))with
  |false=>simp_all
  | true=>
   rw[hc,ak]at h;split at h
   ·rename_i D;subst D;injection h with h;subst h;rw[eB,aO]at hc;rcases hc with hc | hc
    ·obtain rfl:=cD hc;cases q
     ·exact .same _
     ·exact .q _ _ _
    ·exact .gr _ _ _ _ _ (cL hc.2) (cL hc.1)
   ·cases h
 ·injection h with h;subst h;exact .nil _ _
 ·cases h
def De(o:Nat)(x:aM):aa V:=[.int .i64 x.cu,.int .i64 x.aC,.int .i64 x.rows,.int .i64 x.aN]
def yw(o:Nat)(x:aK):aa V:=[.int .i64 x.ax,.int .i64 x.row,.int .i64 x.bT]
def Df(o:Nat)(x:kQ):aa V:=[.int .i64 x.order,.bool x.hash]
def Gb(o:Nat)(x:MA):aa V:=[.sl .int o false x.owner]
def yx(o:Nat)(x:aH):aa V:=[.int .i64 x.kind,.int .i64 x.ax,.int .i64 x.row,.int .i64 x.bT]
def Dg(o:Nat)(x:c7):aa V:=[.int .i64 x.jI,.int .i64 x.rp,.int .i64 x.gw,.int .i64 x.nq,.int .i64 x.jJ,.int .i64 x.jK,.int .i64 x.nt,.int .i64 x.nu,.int .i64 x.iY,.int .i64 x.wr,.int .i64 x.ny,.int .i64 x.nA,.int .i64 x.pT,.int .i64 x.nB,.int .i64 x.n8,.int .i64 x.xp,.int .i64 x.xs]
def Dh(o:Nat)(x:eP):aa V:=[.bool x.open_,.int .i64 x.row]
def Gc(o:Nat)(x:cK):aa V:=[.sl .kr o false x.aC,.int .i64 x.bg]
def Di(o:Nat)(x:eY):aa V:=[.int .i64 x.at_,.int .i64 x.cmd.kind,.int .i64 x.cmd.ax,.int .i64 x.cmd.row,.int .i64 x.cmd.bT]
def Gd(o:Nat)(x:dG):aa V:=[.sl .int o false x.last,.sl .int o false x.bf]
def Ge(o:Nat)(x:bY):aa V:=[.sl .int o false x.symbols,.bool x.ir]
def Gf(o:Nat)(x:dm):aa V:=[.sl .Cell o false x.cells,.sl .int o false x.bz,.sl .int o false x.br]
def Dj(o:Nat)(x:kR):aa V:=[.int .i64 x.bz,.int .i64 x.br]
def Gg(o:Nat)(x:cr):aa V:=[.sl .int o false x.rows,.sl .int o false x.counts,.int .i64 x.dc]
def Gh(o:Nat)(x:dH):aa V:=[.int .i64 x.bP,.sl .int o false x.map]
def Gi(o:Nat)(x:cY):aa V:=[.sl .int o false x.aJ,.int .i64 x.wait,.bool x.dD]
def yz(o:Nat)(x:aX):aa V:=[.int .i64 x.id,.int .i64 x.dI,.int .i64 x.line,.bool x.write,.int .i64 x.data,.int .i64 x.at_]
def Dk(o:Nat)(x:cw):aa V:=[.int .i64 x.weight,.int .i64 x.fy]
def Dl(o:Nat)(x:gx):aa V:=[.bool x.on,.int .i64 x.low,.int .i64 x.high]
def Gj(o:Nat)(x:MB):aa V:=[.sl .int o false x.owner,.int .i64 x.length]
def Dm(o:Nat)(x:MC):aa V:=[.int .i64 x.id,.int .i64 x.at_]
def Dn(o:Nat)(x:eR):aa V:=[.int .i64 x.state,.int .i64 x.since,.int .i64 x.idle]
def Dp(o:Nat)(x:n9):aa V:=[.int .i64 x.down,.int .i64 x.sleep]
def Dq(o:Nat)(x:cv):aa V:=[.int .i64 x.line,.int .i64 x.code,.int .i64 x.times]
def Gk(o:Nat)(x:MD):aa V:=[.sl .str o false x.alQ]
def Gl(o:Nat)(x:ME):aa V:=[.sl .int o false x.alR,.int .i64 x.next]
def Gm(o:Nat)(x:MF):aa V:=[.int .i64 x.count,.sl .Command o false x.commands]
def Ds(o:Nat)(x:Dc):aa V:=[.int .i64 x.count,.int .i64 x.tag]
def Gn(o:Nat)(x:Ga):aa V:=[.int .i64 x.root,.sl .Node o false x.mid,.sl .Node o false x.leaf]
def Gq(o:Nat)(x:MG):aa V:=[.int .i64 x.key,.int .i64 x.tree.root,.sl .Node o false x.tree.mid,.sl .Node o false x.tree.leaf,.sl .int o false x.data,.sl .int o false x.tags]
def Dt(o:Nat)(x:kS):aa V:=[.int .i64 x.next,.int .i64 x.every,.int .i64 x.wait]
def Gr(o:Nat)(x:MH):aa V:=[.int .i64 x.index,.sl .int o false x.before.symbols,.bool x.before.ir,.sl .int o false x.after.symbols,.bool x.after.ir,.int .i64 x.code]
def Du(o:Nat)(x:MI):aa V:=[.int .i64 x.ax,.int .i64 x.from_,.int .i64 x.to,.int .i64 x.next]
def Gs(o:Nat)(x:dJ):aa V:=[.int .i64 x.eS,.int .i64 x.cap,.int .i64 x.eZ,.int .i64 x.low,.int .i64 x.high,.sl .int o false x.weights,.int .i64 x.dS.down,.int .i64 x.dS.sleep]
def Gt(o:Nat)(x:fU):aa V:=[.int .i64 x.bV.eS,.int .i64 x.bV.cap,.int .i64 x.bV.eZ,.int .i64 x.bV.low,.int .i64 x.bV.high,.sl .int o false x.bV.weights,.int .i64 x.bV.dS.down,.int .i64 x.bV.dS.sleep,.int .i64 x.next.eS,.int .i64 x.next.cap,.int .i64 x.next.eZ,.int .i64 x.next.low,.int .i64 x.next.high,.sl .int o false x.next.weights,.int .i64 x.next.dS.down,.int .i64 x.next.dS.sleep,.bool x.waits]
def Dv(o:Nat)(x:eT):aa V:=[.int .i64 x.az.cu,.int .i64 x.az.aC,.int .i64 x.az.rows,.int .i64 x.az.aN,.int .i64 x.bL.jI,.int .i64 x.bL.rp,.int .i64 x.bL.gw,.int .i64 x.bL.nq,.int .i64 x.bL.jJ,.int .i64 x.bL.jK,.int .i64 x.bL.nt,.int .i64 x.bL.nu,.int .i64 x.bL.iY,.int .i64 x.bL.wr,.int .i64 x.bL.ny,.int .i64 x.bL.nA,.int .i64 x.bL.pT,.int .i64 x.bL.nB,.int .i64 x.bL.n8,.int .i64 x.bL.xp,.int .i64 x.bL.xs,.int .i64 x.mapping.order,.bool x.mapping.hash,.int .i64 x.bP,.int .i64 x.interval,.int .i64 x.gU,.int .i64 x.dU.bz,.int .i64 x.dU.br]
def Dw(o:Nat)(x:eM):aa V:=[.int .i64 x.id,.int .i64 x.at_,.int .i64 x.data,.int .i64 x.code]
def yA(o:Nat)(x:av):aa V:=[.int .i64 x.config.az.cu,.int .i64 x.config.az.aC,.int .i64 x.config.az.rows,.int .i64 x.config.az.aN,.int .i64 x.config.bL.jI,.int .i64 x.config.bL.rp,.int .i64 x.config.bL.gw,.int .i64 x.config.bL.nq,.int .i64 x.config.bL.jJ,.int .i64 x.config.bL.jK,.int .i64 x.config.bL.nt,.int .i64 x.config.bL.nu,.int .i64 x.config.bL.iY,.int .i64 x.config.bL.wr,.int .i64 x.config.bL.ny,.int .i64 x.config.bL.nA,.int .i64 x.config.bL.pT,.int .i64 x.config.bL.nB,.int .i64 x.config.bL.n8,.int .i64 x.config.bL.xp,.int .i64 x.config.bL.xs,.int .i64 x.config.mapping.order,.bool x.config.mapping.hash,.int .i64 x.config.bP,.int .i64 x.config.interval,.int .i64 x.config.gU,.int .i64 x.config.dU.bz,.int .i64 x.config.dU.br,.int .i64 x.box.bV.eS,.int .i64 x.box.bV.cap,.int .i64 x.box.bV.eZ,.int .i64 x.box.bV.low,.int .i64 x.box.bV.high,.sl .int o false x.box.bV.weights,.int .i64 x.box.bV.dS.down,.int .i64 x.box.bV.dS.sleep,.int .i64 x.box.next.eS,.int .i64 x.box.next.cap,.int .i64 x.box.next.eZ,.int .i64 x.box.next.low,.int .i64 x.box.next.high,.sl .int o false x.box.next.weights,.int .i64 x.box.next.dS.down,.int .i64 x.box.next.dS.sleep,.bool x.box.waits,.int .i64 x.now,.sl .kr o false x.bq.aC,.int .i64 x.bq.bg,.sl .int o false x.ready.last,.sl .int o false x.ready.bf,.sl .Cell o false x.array.cells,.sl .int o false x.array.bz,.sl .int o false x.array.br,.int .i64 x.spare.bP,.sl .int o false x.spare.map,.sl .int o false x.aQ.aJ,.int .i64 x.aQ.wait,.bool x.aQ.dD,.sl .gD o false x.bO,.sl .int o false x.guard,.sl .Addr o false x.pending,.sl .di o false x.queue,.sl .fF o false x.shares,.bool x.drain.on,.int .i64 x.drain.low,.int .i64 x.drain.high,.int .i64 x.bg.state,.int .i64 x.bg.since,.int .i64 x.bg.idle,.int .i64 x.cM.next,.int .i64 x.cM.every,.int .i64 x.cM.wait,.sl .fN o false x.errors,.sl .Event o false x.trace,.sl .lP o false x.cz]
def Gu(o:Nat)(x:iZ):aa V:=[.int .i64 x.kind,.int .i64 x.request.id,.int .i64 x.request.dI,.int .i64 x.request.line,.bool x.request.write,.int .i64 x.request.data,.int .i64 x.request.at_,.int .i64 x.n,.int .i64 x.ye,.int .i64 x.addr.ax,.int .i64 x.addr.row,.int .i64 x.addr.bT,.int .i64 x.oa.eS,.int .i64 x.oa.cap,.int .i64 x.oa.eZ,.int .i64 x.oa.low,.int .i64 x.oa.high,.sl .int o false x.oa.weights,.int .i64 x.oa.dS.down,.int .i64 x.oa.dS.sleep]
def Dx(o:Nat)(x:MJ):aa V:=[.int .i64 x.line,.int .i64 x.data,.int .i64 x.code]
def Gw(o:Nat)(x:bN):aa V:=[.sl .u8 o false x.b,.int .i64 x.i,.int .i64 x.h]
def enc:(t:TC)->(o:Nat)->T t->aa V
 |.int,_,x=>[.int .i64 x]
 |.u8,_,x=>[.int .u8 x]
 |.bool,_,x=>[.bool x]
 |.str,_,x=>[.str x]
 |.fM,o,x=>De o x
 |.Addr,o,x=>yw o x
 |.qR,o,x=>Df o x
 |.yf,o,x=>Gb o x
 |.Command,o,x=>yx o x
 |.kT,o,x=>Dg o x
 |.kr,o,x=>Dh o x
 |.gV,o,x=>Gc o x
 |.Event,o,x=>Di o x
 |.kU,o,x=>Gd o x
 |.Cell,o,x=>Ge o x
 |.Array,o,x=>Gf o x
 |.r4,o,x=>Dj o x
 |.gD,o,x=>Gg o x
 |.oc,o,x=>Gh o x
 |.kV,o,x=>Gi o x
 |.di,o,x=>yz o x
 |.fF,o,x=>Dk o x
 |.od,o,x=>Dl o x
 |.yg,o,x=>Gj o x
 |.yh,o,x=>Dm o x
 |.Power,o,x=>Dn o x
 |.r5,o,x=>Dp o x
 |.fN,o,x=>Dq o x
 |.yj,o,x=>Gk o x
 |.yl,o,x=>Gl o x
 |.Receiver,o,x=>Gm o x
 |.Node,o,x=>Ds o x
 |.Tree,o,x=>Gn o x
 |.ym,o,x=>Gq o x
 |.qS,o,x=>Dt o x
 |.yo,o,x=>Gr o x
 |.Move,o,x=>Du o x
 |.lO,o,x=>Gs o x
 |.oe,o,x=>Gt o x
 |.Config,o,x=>Dv o x
 |.lP,o,x=>Dw o x
 |.cO,o,x=>yA o x
 |.Act,o,x=>Gu o x
 |.Fact,o,x=>Dx o x
 |.qT,o,x=>Gw o x
 |.sl t,o,x=>[.sl t o false x]
 |.kW,o,x=>.bool true::yA o x
 |.yp g,o,x=>.bool false::.int .i64 (g:Int)::[.int .i64 x]
 |.Dd g,o,x=>.bool false::.int .i64 (g:Int)::yz o x
 |.yu g,o,x=>.bool false::.int .i64 (g:Int)::yw o x
 |.fnCommand g,o,x=>.bool false::.int .i64 (g:Int)::yx o x
def Tn(o:Nat)(cs:aa V):ah aM:=match cs with
 |a0::C::D::E::[]=>(a0.aT).bind λI=>(C.aT).bind λJ=>(D.aT).bind λL=>(E.aT).bind λO=>some ⟨I,J,L,O⟩
 |_=>none
def MK(o:Nat)(cs:aa V):ah aK:=match cs with
 |a0::C::D::[]=>(a0.aT).bind λE=>(C.aT).bind λI=>(D.aT).bind λJ=>some ⟨E,I,J⟩
 |_=>none
def To(o:Nat)(cs:aa V):ah kQ:=match cs with
 |a0::C::[]=>(a0.aT).bind λD=>(C.mD).bind λE=>some ⟨D,E⟩
 |_=>none
def Tp(o:Nat)(cs:aa V):ah MA:=match cs with
 |a0::[]=>(a0.dP .int o).bind λC=>some ⟨C⟩
 |_=>none
def ML(o:Nat)(cs:aa V):ah aH:=match cs with
 |a0::C::D::E::[]=>(a0.aT).bind λI=>(C.aT).bind λJ=>(D.aT).bind λL=>(E.aT).bind λO=>some ⟨I,J,L,O⟩
 |_=>none
def Tq(o:Nat)(cs:aa V):ah c7:=match cs with
 |a0::C::D::E::a4::I::J::L::O::Q::T::U::Y::Z::vQ::vR::vS::[]=>(a0.aT).bind λx0=>(C.aT).bind λx1=>(D.aT).bind λx2=>(E.aT).bind λx3=>(a4.aT).bind λx4=>(I.aT).bind λx5=>(J.aT).bind λx6=>(L.aT).bind λx7=>(O.aT).bind λx8=>(Q.aT).bind λx9=>(T.aT).bind λpU=>(U.aT).bind λpV=>(Y.aT).bind λpW=>(Z.aT).bind λpX=>(vQ.aT).bind λpY=>(vR.aT).bind λpZ=>(vS.aT).bind λp6=>some ⟨x0,x1,x2,x3,x4,x5,x6,x7,x8,x9,pU,pV,pW,pX,pY,pZ,p6⟩
 |_=>none
def Tr(o:Nat)(cs:aa V):ah eP:=match cs with
 |a0::C::[]=>(a0.mD).bind λD=>(C.aT).bind λE=>some ⟨D,E⟩
 |_=>none
def Ts(o:Nat)(cs:aa V):ah cK:=match cs with
 |a0::C::[]=>(a0.dP .kr o).bind λD=>(C.aT).bind λE=>some ⟨D,E⟩
 |_=>none
def Tt(o:Nat)(cs:aa V):ah eY:=match cs with
 |a0::C::D::E::a4::[]=>(a0.aT).bind λI=>(C.aT).bind λJ=>(D.aT).bind λL=>(E.aT).bind λO=>(a4.aT).bind λQ=>some ⟨I,⟨J,L,O,Q⟩⟩
 |_=>none
def Tu(o:Nat)(cs:aa V):ah dG:=match cs with
 |a0::C::[]=>(a0.dP .int o).bind λD=>(C.dP .int o).bind λE=>some ⟨D,E⟩
 |_=>none
def Tv(o:Nat)(cs:aa V):ah bY:=match cs with
 |a0::C::[]=>(a0.dP .int o).bind λD=>(C.mD).bind λE=>some ⟨D,E⟩
 |_=>none
def Tw(o:Nat)(cs:aa V):ah dm:=match cs with
 |a0::C::D::[]=>(a0.dP .Cell o).bind λE=>(C.dP .int o).bind λI=>(D.dP .int o).bind λJ=>some ⟨E,I,J⟩
 |_=>none
def Tx(o:Nat)(cs:aa V):ah kR:=match cs with
 |a0::C::[]=>(a0.aT).bind λD=>(C.aT).bind λE=>some ⟨D,E⟩
 |_=>none
def Ty(o:Nat)(cs:aa V):ah cr:=match cs with
 |a0::C::D::[]=>(a0.dP .int o).bind λE=>(C.dP .int o).bind λI=>(D.aT).bind λJ=>some ⟨E,I,J⟩
 |_=>none
def Tz(o:Nat)(cs:aa V):ah dH:=match cs with
 |a0::C::[]=>(a0.aT).bind λD=>(C.dP .int o).bind λE=>some ⟨D,E⟩
 |_=>none
def TA(o:Nat)(cs:aa V):ah cY:=match cs with
 |a0::C::D::[]=>(a0.dP .int o).bind λE=>(C.aT).bind λI=>(D.mD).bind λJ=>some ⟨E,I,J⟩
 |_=>none
def MM(o:Nat)(cs:aa V):ah aX:=match cs with
 |a0::C::D::E::a4::I::[]=>(a0.aT).bind λJ=>(C.aT).bind λL=>(D.aT).bind λO=>(E.mD).bind λQ=>(a4.aT).bind λT=>(I.aT).bind λU=>some ⟨J,L,O,Q,T,U⟩
 |_=>none
def TB(o:Nat)(cs:aa V):ah cw:=match cs with
 |a0::C::[]=>(a0.aT).bind λD=>(C.aT).bind λE=>some ⟨D,E⟩
 |_=>none
def TD(o:Nat)(cs:aa V):ah gx:=match cs with
 |a0::C::D::[]=>(a0.mD).bind λE=>(C.aT).bind λI=>(D.aT).bind λJ=>some ⟨E,I,J⟩
 |_=>none
def TE(o:Nat)(cs:aa V):ah MB:=match cs with
 |a0::C::[]=>(a0.dP .int o).bind λD=>(C.aT).bind λE=>some ⟨D,E⟩
 |_=>none
def TF(o:Nat)(cs:aa V):ah MC:=match cs with
 |a0::C::[]=>(a0.aT).bind λD=>(C.aT).bind λE=>some ⟨D,E⟩
 |_=>none
def TG(o:Nat)(cs:aa V):ah eR:=match cs with
 |a0::C::D::[]=>(a0.aT).bind λE=>(C.aT).bind λI=>(D.aT).bind λJ=>some ⟨E,I,J⟩
 |_=>none
def TH(o:Nat)(cs:aa V):ah n9:=match cs with
 |a0::C::[]=>(a0.aT).bind λD=>(C.aT).bind λE=>some ⟨D,E⟩
 |_=>none
def TI(o:Nat)(cs:aa V):ah cv:=match cs with
 |a0::C::D::[]=>(a0.aT).bind λE=>(C.aT).bind λI=>(D.aT).bind λJ=>some ⟨E,I,J⟩
 |_=>none
def TJ(o:Nat)(cs:aa V):ah MD:=match cs with
 |a0::[]=>(a0.dP .str o).bind λC=>some ⟨C⟩
 |_=>none
def TK(o:Nat)(cs:aa V):ah ME:=match cs with
 |a0::C::[]=>(a0.dP .int o).bind λD=>(C.aT).bind λE=>some ⟨D,E⟩
 |_=>none
def TL(o:Nat)(cs:aa V):ah MF:=match cs with
 |a0::C::[]=>(a0.aT).bind λD=>(C.dP .Command o).bind λE=>some ⟨D,E⟩
 |_=>none
def TM(o:Nat)(cs:aa V):ah Dc:=match cs with
 |a0::C::[]=>(a0.aT).bind λD=>(C.aT).bind λE=>some ⟨D,E⟩
 |_=>none
def TN(o:Nat)(cs:aa V):ah Ga:=match cs with
 |a0::C::D::[]=>(a0.aT).bind λE=>(C.dP .Node o).bind λI=>(D.dP .Node o).bind λJ=>some ⟨E,I,J⟩
 |_=>none
def TO(o:Nat)(cs:aa V):ah MG:=match cs with
 |a0::C::D::E::a4::I::[]=>(a0.aT).bind λJ=>(C.aT).bind λL=>(D.dP .Node o).bind λO=>(E.dP .Node o).bind λQ=>(a4.dP .int o).bind λT=>(I.dP .int o).bind λU=>some ⟨J,⟨L,O,Q⟩,T,U⟩
 |_=>none
def TP(o:Nat)(cs:aa V):ah kS:=match cs with
 |a0::C::D::[]=>(a0.aT).bind λE=>(C.aT).bind λI=>(D.aT).bind λJ=>some ⟨E,I,J⟩
 |_=>none
def TQ(o:Nat)(cs:aa V):ah MH:=match cs with
 |a0::C::D::E::a4::I::[]=>(a0.aT).bind λJ=>(C.dP .int o).bind λL=>(D.mD).bind λO=>(E.dP .int o).bind λQ=>(a4.mD).bind λT=>(I.aT).bind λU=>some ⟨J,⟨L,O⟩,⟨Q,T⟩,U⟩
 |_=>none
def TR(o:Nat)(cs:aa V):ah MI:=match cs with
 |a0::C::D::E::[]=>(a0.aT).bind λI=>(C.aT).bind λJ=>(D.aT).bind λL=>(E.aT).bind λO=>some ⟨I,J,L,O⟩
 |_=>none
def TS(o:Nat)(cs:aa V):ah dJ:=match cs with
 |a0::C::D::E::a4::I::J::L::[]=>(a0.aT).bind λO=>(C.aT).bind λQ=>(D.aT).bind λT=>(E.aT).bind λU=>(a4.aT).bind λY=>(I.dP .int o).bind λZ=>(J.aT).bind λx6=>(L.aT).bind λx7=>some ⟨O,Q,T,U,Y,Z,⟨x6,x7⟩⟩
 |_=>none
def TT(o:Nat)(cs:aa V):ah fU:=match cs with
 |a0::C::D::E::a4::I::J::L::O::Q::T::U::Y::Z::vQ::vR::vS::[]=>(a0.aT).bind λx0=>(C.aT).bind λx1=>(D.aT).bind λx2=>(E.aT).bind λx3=>(a4.aT).bind λx4=>(I.dP .int o).bind λx5=>(J.aT).bind λx6=>(L.aT).bind λx7=>(O.aT).bind λx8=>(Q.aT).bind λx9=>(T.aT).bind λpU=>(U.aT).bind λpV=>(Y.aT).bind λpW=>(Z.dP .int o).bind λpX=>(vQ.aT).bind λpY=>(vR.aT).bind λpZ=>(vS.mD).bind λp6=>some ⟨⟨x0,x1,x2,x3,x4,x5,⟨x6,x7⟩⟩,⟨x8,x9,pU,pV,pW,pX,⟨pY,pZ⟩⟩,p6⟩
 |_=>none
def TU(o:Nat)(cs:aa V):ah eT:=match cs with
 |a0::C::D::E::a4::I::J::L::O::Q::T::U::Y::Z::vQ::vR::vS::Gx::Gy::Gz::TV::TW::TX::TY::TZ::T0::T1::T2::[]=>(a0.aT).bind λx0=>(C.aT).bind λx1=>(D.aT).bind λx2=>(E.aT).bind λx3=>(a4.aT).bind λx4=>(I.aT).bind λx5=>(J.aT).bind λx6=>(L.aT).bind λx7=>(O.aT).bind λx8=>(Q.aT).bind λx9=>(T.aT).bind λpU=>(U.aT).bind λpV=>(Y.aT).bind λpW=>(Z.aT).bind λpX=>(vQ.aT).bind λpY=>(vR.aT).bind λpZ=>(vS.aT).bind λp6=>(Gx.aT).bind λyB=>(Gy.aT).bind λyC=>(Gz.aT).bind λyD=>(TV.aT).bind λGA=>(TW.aT).bind λGB=>(TX.mD).bind λGC=>(TY.aT).bind λGD=>(TZ.aT).bind λGF=>(T0.aT).bind λGG=>(T1.aT).bind λGH=>(T2.aT).bind λGI=>some ⟨⟨x0,x1,x2,x3⟩,⟨x4,x5,x6,x7,x8,x9,pU,pV,pW,pX,pY,pZ,p6,yB,yC,yD,GA⟩,⟨GB,GC⟩,GD,GF,GG,⟨GH,GI⟩⟩
 |_=>none
def T3(o:Nat)(cs:aa V):ah eM:=match cs with
 |a0::C::D::E::[]=>(a0.aT).bind λI=>(C.aT).bind λJ=>(D.aT).bind λL=>(E.aT).bind λO=>some ⟨I,J,L,O⟩
 |_=>none
def MN(o:Nat)(cs:aa V):ah av:=match cs with
 |a0::C::D::E::a4::I::J::L::O::Q::T::U::Y::Z::vQ::vR::vS::Gx::Gy::Gz::TV::TW::TX::TY::TZ::T0::T1::T2::a28::a29::a30::a31::a32::a33::a34::a35::a36::a37::a38::a39::a40::a41::a42::a43::a44::a45::a46::a47::a48::a49::a50::a51::a52::a53::a54::a55::a56::a57::a58::a59::a60::a61::a62::a63::a64::a65::a66::a67::a68::a69::a70::a71::a72::a73::a74::[]=>(a0.aT).bind λx0=>(C.aT).bind λx1=>(D.aT).bind λx2=>(E.aT).bind λx3=>(a4.aT).bind λx4=>(I.aT).bind λx5=>(J.aT).bind λx6=>(L.aT).bind λx7=>(O.aT).bind λx8=>(Q.aT).bind λx9=>(T.aT).bind λpU=>(U.aT).bind λpV=>(Y.aT).bind λpW=>(Z.aT).bind λpX=>(vQ.aT).bind λpY=>(vR.aT).bind λpZ=>(vS.aT).bind λp6=>(Gx.aT).bind λyB=>(Gy.aT).bind λyC=>(Gz.aT).bind λyD=>(TV.aT).bind λGA=>(TW.aT).bind λGB=>(TX.mD).bind λGC=>(TY.aT).bind λGD=>(TZ.aT).bind λGF=>(T0.aT).bind λGG=>(T1.aT).bind λGH=>(T2.aT).bind λGI=>(a28.aT).bind λx28=>(a29.aT).bind λx29=>(a30.aT).bind λx30=>(a31.aT).bind λx31=>(a32.aT).bind λx32=>(a33.dP .int o).bind λx33=>(a34.aT).bind λx34=>(a35.aT).bind λx35=>(a36.aT).bind λx36=>(a37.aT).bind λx37=>(a38.aT).bind λx38=>(a39.aT).bind λx39=>(a40.aT).bind λx40=>(a41.dP .int o).bind λx41=>(a42.aT).bind λx42=>(a43.aT).bind λx43=>(a44.mD).bind λx44=>(a45.aT).bind λx45=>(a46.dP .kr o).bind λx46=>(a47.aT).bind λx47=>(a48.dP .int o).bind λx48=>(a49.dP .int o).bind λx49=>(a50.dP .Cell o).bind λx50=>(a51.dP .int o).bind λx51=>(a52.dP .int o).bind λx52=>(a53.aT).bind λx53=>(a54.dP .int o).bind λx54=>(a55.dP .int o).bind λx55=>(a56.aT).bind λx56=>(a57.mD).bind λx57=>(a58.dP .gD o).bind λx58=>(a59.dP .int o).bind λx59=>(a60.dP .Addr o).bind λx60=>(a61.dP .di o).bind λx61=>(a62.dP .fF o).bind λx62=>(a63.mD).bind λx63=>(a64.aT).bind λx64=>(a65.aT).bind λx65=>(a66.aT).bind λx66=>(a67.aT).bind λx67=>(a68.aT).bind λx68=>(a69.aT).bind λx69=>(a70.aT).bind λx70=>(a71.aT).bind λx71=>(a72.dP .fN o).bind λx72=>(a73.dP .Event o).bind λx73=>(a74.dP .lP o).bind λx74=>some ⟨⟨⟨x0,x1,x2,x3⟩,⟨x4,x5,x6,x7,x8,x9,pU,pV,pW,pX,pY,pZ,p6,yB,yC,yD,GA⟩,⟨GB,GC⟩,GD,GF,GG,⟨GH,GI⟩⟩,⟨⟨x28,x29,x30,x31,x32,x33,⟨x34,x35⟩⟩,⟨x36,x37,x38,x39,x40,x41,⟨x42,x43⟩⟩,x44⟩,x45,⟨x46,x47⟩,⟨x48,x49⟩,⟨x50,x51,x52⟩,⟨x53,x54⟩,⟨x55,x56,x57⟩,x58,x59,x60,x61,x62,⟨x63,x64,x65⟩,⟨x66,x67,x68⟩,⟨x69,x70,x71⟩,x72,x73,x74⟩
 |_=>none
def T4(o:Nat)(cs:aa V):ah iZ:=match cs with
 |a0::C::D::E::a4::I::J::L::O::Q::T::U::Y::Z::vQ::vR::vS::Gx::Gy::Gz::[]=>(a0.aT).bind λx0=>(C.aT).bind λx1=>(D.aT).bind λx2=>(E.aT).bind λx3=>(a4.mD).bind λx4=>(I.aT).bind λx5=>(J.aT).bind λx6=>(L.aT).bind λx7=>(O.aT).bind λx8=>(Q.aT).bind λx9=>(T.aT).bind λpU=>(U.aT).bind λpV=>(Y.aT).bind λpW=>(Z.aT).bind λpX=>(vQ.aT).bind λpY=>(vR.aT).bind λpZ=>(vS.aT).bind λp6=>(Gx.dP .int o).bind λyB=>(Gy.aT).bind λyC=>(Gz.aT).bind λyD=>some ⟨x0,⟨x1,x2,x3,x4,x5,x6⟩,x7,x8,⟨x9,pU,pV⟩,⟨pW,pX,pY,pZ,p6,yB,⟨yC,yD⟩⟩⟩
 |_=>none
def T5(o:Nat)(cs:aa V):ah MJ:=match cs with
 |a0::C::D::[]=>(a0.aT).bind λE=>(C.aT).bind λI=>(D.aT).bind λJ=>some ⟨E,I,J⟩
 |_=>none
def T6(o:Nat)(cs:aa V):ah bN:=match cs with
 |a0::C::D::[]=>(a0.dP .u8 o).bind λE=>(C.aT).bind λI=>(D.aT).bind λJ=>some ⟨E,I,J⟩
 |_=>none
def yE{α:Type}(f:V->ah α):aa V->ah α
 |[a]=>f a
 |_=>none
def T7{α:Type}(f:aa V->ah α):aa V->ah α
 |.bool true::cs=>f cs
 |_=>none
def Dy{α:Type}(g:Nat)(f:aa V->ah α):aa V->ah α
 |.bool false::.int .i64 n::cs=>if n=(g:Int)then f cs else none
 |_=>none
def dec:(t:TC)->(o:Nat)->aa V->ah (T t)
 |.int,_,cs=>yE V.aT cs
 |.u8,_,cs=>yE V.Tj cs
 |.bool,_,cs=>yE V.mD cs
 |.str,_,cs=>yE V.Tl cs
 |.fM,o,cs=>Tn o cs
 |.Addr,o,cs=>MK o cs
 |.qR,o,cs=>To o cs
 |.yf,o,cs=>Tp o cs
 |.Command,o,cs=>ML o cs
 |.kT,o,cs=>Tq o cs
 |.kr,o,cs=>Tr o cs
 |.gV,o,cs=>Ts o cs
 |.Event,o,cs=>Tt o cs
 |.kU,o,cs=>Tu o cs
 |.Cell,o,cs=>Tv o cs
 |.Array,o,cs=>Tw o cs
 |.r4,o,cs=>Tx o cs
 |.gD,o,cs=>Ty o cs
 |.oc,o,cs=>Tz o cs
 |.kV,o,cs=>TA o cs
 |.di,o,cs=>MM o cs
 |.fF,o,cs=>TB o cs
 |.od,o,cs=>TD o cs
 |.yg,o,cs=>TE o cs
 |.yh,o,cs=>TF o cs
 |.Power,o,cs=>TG o cs
 |.r5,o,cs=>TH o cs
 |.fN,o,cs=>TI o cs
 |.yj,o,cs=>TJ o cs
 |.yl,o,cs=>TK o cs
 |.Receiver,o,cs=>TL o cs
 |.Node,o,cs=>TM o cs
 |.Tree,o,cs=>TN o cs
 |.ym,o,cs=>TO o cs
 |.qS,o,cs=>TP o cs
 |.yo,o,cs=>TQ o cs
 |.Move,o,cs=>TR o cs
 |.lO,o,cs=>TS o cs
 |.oe,o,cs=>TT o cs
 |.Config,o,cs=>TU o cs
 |.lP,o,cs=>T3 o cs
 |.cO,o,cs=>MN o cs
 |.Act,o,cs=>T4 o cs
 |.Fact,o,cs=>T5 o cs
 |.qT,o,cs=>T6 o cs
 |.sl t,o,cs=>yE (V.dP t o) cs
 |.kW,o,cs=>T7 (MN o) cs
 |.yp g,o,cs=>Dy g (yE V.aT) cs
 |.Dd g,o,cs=>Dy g (MM o) cs
 |.yu g,o,cs=>Dy g (MK o) cs
 |.fnCommand g,o,cs=>Dy g (ML o) cs
def shp:TC->Nat->aa V
 |.cO,o=>yA o ⟨⟨⟨0,0,0,0⟩,⟨0,0,0,0,0,0,0,0,0,0,0,0,0,0,0,0,0⟩,⟨0,false⟩,0,0,0,⟨0,0⟩⟩,⟨⟨0,0,0,0,0,[],⟨0,0⟩⟩,⟨0,0,0,0,0,[],⟨0,0⟩⟩,false⟩,0,⟨[],0⟩,⟨[],[]⟩,⟨[],[],[]⟩,⟨0,[]⟩,⟨[],0,false⟩,[],[],[],[],[],⟨false,0,0⟩,⟨0,0,0⟩,⟨0,0,0⟩,[],[],[]⟩
 |_,_=>[]
def ku(t:TC)(o:Nat)(x:T t):(enc t o x).length=aF t:=by cases t<;>rfl
def oV(t:TC):0<aF t:=by cases t<;>simp[aF]
def bind_some{α β:Type}{a:ah α}{f:α -> ah β}{b:β}(h:a.bind f=some b):∃ x,a=some x/\f x=some b:=by
 cases a with
 |none=>cases h
 |some x=>simp_all
def alU(o:Nat)(cs:aa V)(x:aM)(h:Tn o cs=some x):bZ cs (De o x):=by
 unfold Tn at h;split at h
 ·obtain⟨J,C,h⟩:=bind_some h;obtain⟨L,D,h⟩:=bind_some h;obtain⟨O,E,h⟩:=bind_some h;obtain⟨Q,I,h⟩:=bind_some h;injection h with h;subst h;exact(.cons (V.aU C) (.cons (V.aU D) (.cons (V.aU E) (.cons (V.aU I) bZ.nil))))
 ·cases h
def aaz(o:Nat)(cs:aa V)(x:aK)(h:MK o cs=some x):bZ cs (yw o x):=by
 unfold MK at h;split at h
 ·obtain⟨I,C,h⟩:=bind_some h;obtain⟨J,D,h⟩:=bind_some h;obtain⟨L,E,h⟩:=bind_some h;injection h with h;subst h;exact(.cons (V.aU C) (.cons (V.aU D) (.cons (V.aU E) bZ.nil)))
 ·cases h
def alV(o:Nat)(cs:aa V)(x:kQ)(h:To o cs=some x):bZ cs (Df o x):=by
 unfold To at h;split at h
 ·obtain⟨E,C,h⟩:=bind_some h;obtain⟨I,D,h⟩:=bind_some h;injection h with h;subst h;exact(.cons (V.aU C) (.cons (V.og D) bZ.nil))
 ·cases h
def alW(o:Nat)(cs:aa V)(x:MA)(h:Tp o cs=some x):bZ cs (Gb o x):=by
 unfold Tp at h;split at h
 ·obtain⟨D,C,h⟩:=bind_some h;injection h with h;subst h;exact(.cons (V.dX C) bZ.nil)
 ·cases h
def aaA(o:Nat)(cs:aa V)(x:aH)(h:ML o cs=some x):bZ cs (yx o x):=by
 unfold ML at h;split at h
 ·obtain⟨J,C,h⟩:=bind_some h;obtain⟨L,D,h⟩:=bind_some h;obtain⟨O,E,h⟩:=bind_some h;obtain⟨Q,I,h⟩:=bind_some h;injection h with h;subst h;exact(.cons (V.aU C) (.cons (V.aU D) (.cons (V.aU E) (.cons (V.aU I) bZ.nil))))
 ·cases h
def alX(o:Nat)(cs:aa V)(x:c7)(h:Tq o cs=some x):bZ cs (Dg o x):=by
 unfold Tq at h;split at h
 ·obtain⟨x0,C,h⟩:=bind_some h;obtain⟨x1,D,h⟩:=bind_some h;obtain⟨x2,E,h⟩:=bind_some h;obtain⟨x3,I,h⟩:=bind_some h;obtain⟨x4,J,h⟩:=bind_some h;obtain⟨x5,L,h⟩:=bind_some h;obtain⟨x6,O,h⟩:=bind_some h;obtain⟨x7,Q,h⟩:=bind_some h;obtain⟨x8,T,h⟩:=bind_some h;obtain⟨x9,U,h⟩:=bind_some h;obtain⟨pU,Y,h⟩:=bind_some h;obtain⟨pV,Z,h⟩:=bind_some h;obtain⟨pW,kz,h⟩:=bind_some h;obtain⟨pX,kX,h⟩:=bind_some h;obtain⟨pY,mE,h⟩:=bind_some h;obtain⟨pZ,nD,h⟩:=bind_some h;obtain⟨p6,jL,h⟩:=bind_some h;injection h with h;subst h;exact(.cons (V.aU C) (.cons (V.aU D) (.cons (V.aU E) (.cons (V.aU I) (.cons (V.aU J) (.cons (V.aU L) (.cons (V.aU O) (.cons (V.aU Q) (.cons (V.aU T) (.cons (V.aU U) (.cons (V.aU Y) (.cons (V.aU Z) (.cons (V.aU kz) (.cons (V.aU kX) (.cons (V.aU mE) (.cons (V.aU nD) (.cons (V.aU jL) bZ.nil)))))))))))))))))
 ·cases h
def alY(o:Nat)(cs:aa V)(x:eP)(h:Tr o cs=some x):bZ cs (Dh o x):=by
 unfold Tr at h;split at h
 ·obtain⟨E,C,h⟩:=bind_some h;obtain⟨I,D,h⟩:=bind_some h;injection h with h;subst h;exact(.cons (V.og C) (.cons (V.aU D) bZ.nil))
 ·cases h
def alZ(o:Nat)(cs:aa V)(x:cK)(h:Ts o cs=some x):bZ cs (Gc o x):=by
 unfold Ts at h;split at h
 ·obtain⟨E,C,h⟩:=bind_some h;obtain⟨I,D,h⟩:=bind_some h;injection h with h;subst h;exact(.cons (V.dX C) (.cons (V.aU D) bZ.nil))
 ·cases h
def al0(o:Nat)(cs:aa V)(x:eY)(h:Tt o cs=some x):bZ cs (Di o x):=by
 unfold Tt at h;split at h
 ·obtain⟨L,C,h⟩:=bind_some h;obtain⟨O,D,h⟩:=bind_some h;obtain⟨Q,E,h⟩:=bind_some h;obtain⟨T,I,h⟩:=bind_some h;obtain⟨U,J,h⟩:=bind_some h;injection h with h;subst h;exact(.cons (V.aU C) (.cons (V.aU D) (.cons (V.aU E) (.cons (V.aU I) (.cons (V.aU J) bZ.nil)))))
 ·cases h
def al1(o:Nat)(cs:aa V)(x:dG)(h:Tu o cs=some x):bZ cs (Gd o x):=by
 unfold Tu at h;split at h
 ·obtain⟨E,C,h⟩:=bind_some h;obtain⟨I,D,h⟩:=bind_some h;injection h with h;subst h;exact(.cons (V.dX C) (.cons (V.dX D) bZ.nil))
 ·cases h
def al2(o:Nat)(cs:aa V)(x:bY)(h:Tv o cs=some x):bZ cs (Ge o x):=by
 unfold Tv at h;split at h
 ·obtain⟨E,C,h⟩:=bind_some h;obtain⟨I,D,h⟩:=bind_some h;injection h with h;subst h;exact(.cons (V.dX C) (.cons (V.og D) bZ.nil))
 ·cases h
def al3(o:Nat)(cs:aa V)(x:dm)(h:Tw o cs=some x):bZ cs (Gf o x):=by
 unfold Tw at h;split at h
 ·obtain⟨I,C,h⟩:=bind_some h;obtain⟨J,D,h⟩:=bind_some h;obtain⟨L,E,h⟩:=bind_some h;injection h with h;subst h;exact(.cons (V.dX C) (.cons (V.dX D) (.cons (V.dX E) bZ.nil)))
 ·cases h
def al4(o:Nat)(cs:aa V)(x:kR)(h:Tx o cs=some x):bZ cs (Dj o x):=by
 unfold Tx at h;split at h
 ·obtain⟨E,C,h⟩:=bind_some h;obtain⟨I,D,h⟩:=bind_some h;injection h with h;subst h;exact(.cons (V.aU C) (.cons (V.aU D) bZ.nil))
 ·cases h
def al5(o:Nat)(cs:aa V)(x:cr)(h:Ty o cs=some x):bZ cs (Gg o x):=by
 unfold Ty at h;split at h
 ·obtain⟨I,C,h⟩:=bind_some h;obtain⟨J,D,h⟩:=bind_some h;obtain⟨L,E,h⟩:=bind_some h;injection h with h;subst h;exact(.cons (V.dX C) (.cons (V.dX D) (.cons (V.aU E) bZ.nil)))
 ·cases h
def al6(o:Nat)(cs:aa V)(x:dH)(h:Tz o cs=some x):bZ cs (Gh o x):=by
 unfold Tz at h;split at h
 ·obtain⟨E,C,h⟩:=bind_some h;obtain⟨I,D,h⟩:=bind_some h;injection h with h;subst h;exact(.cons (V.aU C) (.cons (V.dX D) bZ.nil))
 ·cases h
def al7(o:Nat)(cs:aa V)(x:cY)(h:TA o cs=some x):bZ cs (Gi o x):=by
 unfold TA at h;split at h
 ·obtain⟨I,C,h⟩:=bind_some h;obtain⟨J,D,h⟩:=bind_some h;obtain⟨L,E,h⟩:=bind_some h;injection h with h;subst h;exact(.cons (V.dX C) (.cons (V.aU D) (.cons (V.og E) bZ.nil)))
 ·cases h
def aaB(o:Nat)(cs:aa V)(x:aX)(h:MM o cs=some x):bZ cs (yz o x):=by
 unfold MM at h;split at h
 ·obtain⟨O,C,h⟩:=bind_some h;obtain⟨Q,D,h⟩:=bind_some h;obtain⟨T,E,h⟩:=bind_some h;obtain⟨U,I,h⟩:=bind_some h;obtain⟨Y,J,h⟩:=bind_some h;obtain⟨Z,L,h⟩:=bind_some h;injection h with h;subst h;exact(.cons (V.aU C) (.cons (V.aU D) (.cons (V.aU E) (.cons (V.og I) (.cons (V.aU J) (.cons (V.aU L) bZ.nil))))))
 ·cases h
def al8(o:Nat)(cs:aa V)(x:cw)(h:TB o cs=some x):bZ cs (Dk o x):=by
 unfold TB at h;split at h
 ·obtain⟨E,C,h⟩:=bind_some h;obtain⟨I,D,h⟩:=bind_some h;injection h with h;subst h;exact(.cons (V.aU C) (.cons (V.aU D) bZ.nil))
 ·cases h
def al9(o:Nat)(cs:aa V)(x:gx)(h:TD o cs=some x):bZ cs (Dl o x):=by
 unfold TD at h;split at h
 ·obtain⟨I,C,h⟩:=bind_some h;obtain⟨J,D,h⟩:=bind_some h;obtain⟨L,E,h⟩:=bind_some h;injection h with h;subst h;exact(.cons (V.og C) (.cons (V.aU D) (.cons (V.aU E) bZ.nil)))
 ·cases h
def ama(o:Nat)(cs:aa V)(x:MB)(h:TE o cs=some x):bZ cs (Gj o x):=by
 unfold TE at h;split at h
 ·obtain⟨E,C,h⟩:=bind_some h;obtain⟨I,D,h⟩:=bind_some h;injection h with h;subst h;exact(.cons (V.dX C) (.cons (V.aU D) bZ.nil))
 ·cases h
def amb(o:Nat)(cs:aa V)(x:MC)(h:TF o cs=some x):bZ cs (Dm o x):=by
 unfold TF at h;split at h
 ·obtain⟨E,C,h⟩:=bind_some h;obtain⟨I,D,h⟩:=bind_some h;injection h with h;subst h;exact(.cons (V.aU C) (.cons (V.aU D) bZ.nil))
 ·cases h
def amc(o:Nat)(cs:aa V)(x:eR)(h:TG o cs=some x):bZ cs (Dn o x):=by
 unfold TG at h;split at h
 ·obtain⟨I,C,h⟩:=bind_some h;obtain⟨J,D,h⟩:=bind_some h;obtain⟨L,E,h⟩:=bind_some h;injection h with h;subst h;exact(.cons (V.aU C) (.cons (V.aU D) (.cons (V.aU E) bZ.nil)))
 ·cases h
def amd(o:Nat)(cs:aa V)(x:n9)(h:TH o cs=some x):bZ cs (Dp o x):=by
 unfold TH at h;split at h
 ·obtain⟨E,C,h⟩:=bind_some h;obtain⟨I,D,h⟩:=bind_some h;injection h with h;subst h;exact(.cons (V.aU C) (.cons (V.aU D) bZ.nil))
 ·cases h
def ame(o:Nat)(cs:aa V)(x:cv)(h:TI o cs=some x):bZ cs (Dq o x):=by
 unfold TI at h;split at h
 ·obtain⟨I,C,h⟩:=bind_some h;obtain⟨J,D,h⟩:=bind_some h;obtain⟨L,E,h⟩:=bind_some h;injection h with h;subst h;exact(.cons (V.aU C) (.cons (V.aU D) (.cons (V.aU E) bZ.nil)))
 ·cases h
def amf(o:Nat)(cs:aa V)(x:MD)(h:TJ o cs=some x):bZ cs (Gk o x):=by
 unfold TJ at h;split at h
 ·obtain⟨D,C,h⟩:=bind_some h;injection h with h;subst h;exact(.cons (V.dX C) bZ.nil)
 ·cases h
def amg(o:Nat)(cs:aa V)(x:ME)(h:TK o cs=some x):bZ cs (Gl o x):=by
 unfold TK at h;split at h
 ·obtain⟨E,C,h⟩:=bind_some h;obtain⟨I,D,h⟩:=bind_some h;injection h with h;subst h;exact(.cons (V.dX C) (.cons (V.aU D) bZ.nil))
 ·cases h
def amh(o:Nat)(cs:aa V)(x:MF)(h:TL o cs=some x):bZ cs (Gm o x):=by
 unfold TL at h;split at h
 ·obtain⟨E,C,h⟩:=bind_some h;obtain⟨I,D,h⟩:=bind_some h;injection h with h;subst h;exact(.cons (V.aU C) (.cons (V.dX D) bZ.nil))
 ·cases h
def ami(o:Nat)(cs:aa V)(x:Dc)(h:TM o cs=some x):bZ cs (Ds o x):=by
 unfold TM at h;split at h
 ·obtain⟨E,C,h⟩:=bind_some h;obtain⟨I,D,h⟩:=bind_some h;injection h with h;subst h;exact(.cons (V.aU C) (.cons (V.aU D) bZ.nil))
 ·cases h
def amj(o:Nat)(cs:aa V)(x:Ga)(h:TN o cs=some x):bZ cs (Gn o x):=by
 unfold TN at h;split at h
 ·obtain⟨I,C,h⟩:=bind_some h;obtain⟨J,D,h⟩:=bind_some h;obtain⟨L,E,h⟩:=bind_some h;injection h with h;subst h;exact(.cons (V.aU C) (.cons (V.dX D) (.cons (V.dX E) bZ.nil)))
 ·cases h
def amk(o:Nat)(cs:aa V)(x:MG)(h:TO o cs=some x):bZ cs (Gq o x):=by
 unfold TO at h;split at h
 ·obtain⟨O,C,h⟩:=bind_some h;obtain⟨Q,D,h⟩:=bind_some h;obtain⟨T,E,h⟩:=bind_some h;obtain⟨U,I,h⟩:=bind_some h;obtain⟨Y,J,h⟩:=bind_some h;obtain⟨Z,L,h⟩:=bind_some h;injection h with h;subst h;exact(.cons (V.aU C) (.cons (V.aU D) (.cons (V.dX E) (.cons (V.dX I) (.cons (V.dX J) (.cons (V.dX L) bZ.nil))))))
 ·cases h
def aml(o:Nat)(cs:aa V)(x:kS)(h:TP o cs=some x):bZ cs (Dt o x):=by
 unfold TP at h;split at h
 ·obtain⟨I,C,h⟩:=bind_some h;obtain⟨J,D,h⟩:=bind_some h;obtain⟨L,E,h⟩:=bind_some h;injection h with h;subst h;exact(.cons (V.aU C) (.cons (V.aU D) (.cons (V.aU E) bZ.nil)))
 ·cases h
def amm(o:Nat)(cs:aa V)(x:MH)(h:TQ o cs=some x):bZ cs (Gr o x):=by
 unfold TQ at h;split at h
 ·obtain⟨O,C,h⟩:=bind_some h;obtain⟨Q,D,h⟩:=bind_some h;obtain⟨T,E,h⟩:=bind_some h;obtain⟨U,I,h⟩:=bind_some h;obtain⟨Y,J,h⟩:=bind_some h;obtain⟨Z,L,h⟩:=bind_some h;injection h with h;subst h;exact(.cons (V.aU C) (.cons (V.dX D) (.cons (V.og E) (.cons (V.dX I) (.cons (V.og J) (.cons (V.aU L) bZ.nil))))))
 ·cases h
def amn(o:Nat)(cs:aa V)(x:MI)(h:TR o cs=some x):bZ cs (Du o x):=by
 unfold TR at h;split at h
 ·obtain⟨J,C,h⟩:=bind_some h;obtain⟨L,D,h⟩:=bind_some h;obtain⟨O,E,h⟩:=bind_some h;obtain⟨Q,I,h⟩:=bind_some h;injection h with h;subst h;exact(.cons (V.aU C) (.cons (V.aU D) (.cons (V.aU E) (.cons (V.aU I) bZ.nil))))
 ·cases h
def amo(o:Nat)(cs:aa V)(x:dJ)(h:TS o cs=some x):bZ cs (Gs o x):=by
 unfold TS at h;split at h
 ·obtain⟨T,C,h⟩:=bind_some h;obtain⟨U,D,h⟩:=bind_some h;obtain⟨Y,E,h⟩:=bind_some h;obtain⟨Z,I,h⟩:=bind_some h;obtain⟨x4,J,h⟩:=bind_some h;obtain⟨x5,L,h⟩:=bind_some h;obtain⟨x6,O,h⟩:=bind_some h;obtain⟨x7,Q,h⟩:=bind_some h;injection h with h;subst h;exact(.cons (V.aU C) (.cons (V.aU D) (.cons (V.aU E) (.cons (V.aU I) (.cons (V.aU J) (.cons (V.dX L) (.cons (V.aU O) (.cons (V.aU Q) bZ.nil))))))))
 ·cases h
def amp(o:Nat)(cs:aa V)(x:fU)(h:TT o cs=some x):bZ cs (Gt o x):=by
 unfold TT at h;split at h
 ·obtain⟨x0,C,h⟩:=bind_some h;obtain⟨x1,D,h⟩:=bind_some h;obtain⟨x2,E,h⟩:=bind_some h;obtain⟨x3,I,h⟩:=bind_some h;obtain⟨x4,J,h⟩:=bind_some h;obtain⟨x5,L,h⟩:=bind_some h;obtain⟨x6,O,h⟩:=bind_some h;obtain⟨x7,Q,h⟩:=bind_some h;obtain⟨x8,T,h⟩:=bind_some h;obtain⟨x9,U,h⟩:=bind_some h;obtain⟨pU,Y,h⟩:=bind_some h;obtain⟨pV,Z,h⟩:=bind_some h;obtain⟨pW,kz,h⟩:=bind_some h;obtain⟨pX,kX,h⟩:=bind_some h;obtain⟨pY,mE,h⟩:=bind_some h;obtain⟨pZ,nD,h⟩:=bind_some h;obtain⟨p6,jL,h⟩:=bind_some h;injection h with h;subst h;exact(.cons (V.aU C) (.cons (V.aU D) (.cons (V.aU E) (.cons (V.aU I) (.cons (V.aU J) (.cons (V.dX L) (.cons (V.aU O) (.cons (V.aU Q) (.cons (V.aU T) (.cons (V.aU U) (.cons (V.aU Y) (.cons (V.aU Z) (.cons (V.aU kz) (.cons (V.dX kX) (.cons (V.aU mE) (.cons (V.aU nD) (.cons (V.og jL) bZ.nil)))))))))))))))))
 ·cases h
def amq(o:Nat)(cs:aa V)(x:eT)(h:TU o cs=some x):bZ cs (Dv o x):=by
 unfold TU at h;split at h
 ·obtain⟨x0,C,h⟩:=bind_some h;obtain⟨x1,D,h⟩:=bind_some h;obtain⟨x2,E,h⟩:=bind_some h;obtain⟨x3,I,h⟩:=bind_some h;obtain⟨x4,J,h⟩:=bind_some h;obtain⟨x5,L,h⟩:=bind_some h;obtain⟨x6,O,h⟩:=bind_some h;obtain⟨x7,Q,h⟩:=bind_some h;obtain⟨x8,T,h⟩:=bind_some h;obtain⟨x9,U,h⟩:=bind_some h;obtain⟨pU,Y,h⟩:=bind_some h;obtain⟨pV,Z,h⟩:=bind_some h;obtain⟨pW,kz,h⟩:=bind_some h;obtain⟨pX,kX,h⟩:=bind_some h;obtain⟨pY,mE,h⟩:=bind_some h;obtain⟨pZ,nD,h⟩:=bind_some h;obtain⟨p6,jL,h⟩:=bind_some h;obtain⟨yB,qU,h⟩:=bind_some h;obtain⟨yC,r6,h⟩:=bind_some h;obtain⟨yD,r7,h⟩:=bind_some h;obtain⟨GA,vT,h⟩:=bind_some h;obtain⟨GB,vU,h⟩:=bind_some h;obtain⟨GC,vV,h⟩:=bind_some h;obtain⟨GD,T8,h⟩:=bind_some h;obtain⟨GF,yF,h⟩:=bind_some h;obtain⟨GG,GJ,h⟩:=bind_some h;obtain⟨GH,GK,h⟩:=bind_some h;obtain⟨GI,T9,h⟩:=bind_some h;injection h with h;subst h;exact(.cons (V.aU C) (.cons (V.aU D) (.cons (V.aU E) (.cons (V.aU I) (.cons (V.aU J) (.cons (V.aU L) (.cons (V.aU O) (.cons (V.aU Q) (.cons (V.aU T) (.cons (V.aU U) (.cons (V.aU Y) (.cons (V.aU Z) (.cons (V.aU kz) (.cons (V.aU kX) (.cons (V.aU mE) (.cons (V.aU nD) (.cons (V.aU jL) (.cons (V.aU qU) (.cons (V.aU r6) (.cons (V.aU r7) (.cons (V.aU vT) (.cons (V.aU vU) (.cons (V.og vV) (.cons (V.aU T8) (.cons (V.aU yF) (.cons (V.aU GJ) (.cons (V.aU GK) (.cons (V.aU T9) bZ.nil))))))))))))))))))))))))))))
 ·cases h
def amr(o:Nat)(cs:aa V)(x:eM)(h:T3 o cs=some x):bZ cs (Dw o x):=by
 unfold T3 at h;split at h
 ·obtain⟨J,C,h⟩:=bind_some h;obtain⟨L,D,h⟩:=bind_some h;obtain⟨O,E,h⟩:=bind_some h;obtain⟨Q,I,h⟩:=bind_some h;injection h with h;subst h;exact(.cons (V.aU C) (.cons (V.aU D) (.cons (V.aU E) (.cons (V.aU I) bZ.nil))))
 ·cases h
def aaC(o:Nat)(cs:aa V)(x:av)(h:MN o cs=some x):bZ cs (yA o x):=by
 unfold MN at h;split at h
 ·obtain⟨x0,C,h⟩:=bind_some h;obtain⟨x1,D,h⟩:=bind_some h;obtain⟨x2,E,h⟩:=bind_some h;obtain⟨x3,I,h⟩:=bind_some h;obtain⟨x4,J,h⟩:=bind_some h;obtain⟨x5,L,h⟩:=bind_some h;obtain⟨x6,O,h⟩:=bind_some h;obtain⟨x7,Q,h⟩:=bind_some h;obtain⟨x8,T,h⟩:=bind_some h;obtain⟨x9,U,h⟩:=bind_some h;obtain⟨pU,Y,h⟩:=bind_some h;obtain⟨pV,Z,h⟩:=bind_some h;obtain⟨pW,kz,h⟩:=bind_some h;obtain⟨pX,kX,h⟩:=bind_some h;obtain⟨pY,mE,h⟩:=bind_some h;obtain⟨pZ,nD,h⟩:=bind_some h;obtain⟨p6,jL,h⟩:=bind_some h;obtain⟨yB,qU,h⟩:=bind_some h;obtain⟨yC,r6,h⟩:=bind_some h;obtain⟨yD,r7,h⟩:=bind_some h;obtain⟨GA,vT,h⟩:=bind_some h;obtain⟨GB,vU,h⟩:=bind_some h;obtain⟨GC,vV,h⟩:=bind_some h;obtain⟨GD,T8,h⟩:=bind_some h;obtain⟨GF,yF,h⟩:=bind_some h;obtain⟨GG,GJ,h⟩:=bind_some h;obtain⟨GH,GK,h⟩:=bind_some h;obtain⟨GI,T9,h⟩:=bind_some h;obtain⟨x28,h28,h⟩:=bind_some h;obtain⟨x29,h29,h⟩:=bind_some h;obtain⟨x30,h30,h⟩:=bind_some h;obtain⟨x31,h31,h⟩:=bind_some h;obtain⟨x32,Ua,h⟩:=bind_some h;obtain⟨x33,h33,h⟩:=bind_some h;obtain⟨x34,h34,h⟩:=bind_some h;obtain⟨x35,h35,h⟩:=bind_some h;obtain⟨x36,h36,h⟩:=bind_some h;obtain⟨x37,h37,h⟩:=bind_some h;obtain⟨x38,h38,h⟩:=bind_some h;obtain⟨x39,h39,h⟩:=bind_some h;obtain⟨x40,h40,h⟩:=bind_some h;obtain⟨x41,h41,h⟩:=bind_some h;obtain⟨x42,h42,h⟩:=bind_some h;obtain⟨x43,h43,h⟩:=bind_some h;obtain⟨x44,h44,h⟩:=bind_some h;obtain⟨x45,h45,h⟩:=bind_some h;obtain⟨x46,h46,h⟩:=bind_some h;obtain⟨x47,h47,h⟩:=bind_some h;obtain⟨x48,h48,h⟩:=bind_some h;obtain⟨x49,h49,h⟩:=bind_some h;obtain⟨x50,h50,h⟩:=bind_some h;obtain⟨x51,h51,h⟩:=bind_some h;obtain⟨x52,h52,h⟩:=bind_some h;obtain⟨x53,h53,h⟩:=bind_some h;obtain⟨x54,h54,h⟩:=bind_some h;obtain⟨x55,h55,h⟩:=bind_some h;obtain⟨x56,h56,h⟩:=bind_some h;obtain⟨x57,h57,h⟩:=bind_some h;obtain⟨x58,h58,h⟩:=bind_some h;obtain⟨x59,h59,h⟩:=bind_some h;obtain⟨x60,h60,h⟩:=bind_some h;obtain⟨x61,h61,h⟩:=bind_some h;obtain⟨x62,h62,h⟩:=bind_some h;obtain⟨x63,Th,h⟩:=bind_some h;obtain⟨x64,h64,h⟩:=bind_some h;obtain⟨x65,h65,h⟩:=bind_some h;obtain⟨x66,h66,h⟩:=bind_some h;obtain⟨x67,h67,h⟩:=bind_some h;obtain⟨x68,h68,h⟩:=bind_some h;obtain⟨x69,h69,h⟩:=bind_some h;obtain⟨x70,h70,h⟩:=bind_some h;obtain⟨x71,h71,h⟩:=bind_some h;obtain⟨x72,h72,h⟩:=bind_some h;obtain⟨x73,h73,h⟩:=bind_some h;obtain⟨x74,h74,h⟩:=bind_some h;injection h with h;subst h;exact(.cons (V.aU C) (.cons (V.aU D) (.cons (V.aU E) (.cons (V.aU I) (.cons (V.aU J) (.cons (V.aU L) (.cons (V.aU O) (.cons (V.aU Q) (.cons (V.aU T) (.cons (V.aU U) (.cons (V.aU Y) (.cons (V.aU Z) (.cons (V.aU kz) (.cons (V.aU kX) (.cons (V.aU mE) (.cons (V.aU nD) (.cons (V.aU jL) (.cons (V.aU qU) (.cons (V.aU r6) (.cons (V.aU r7) (.cons (V.aU vT) (.cons (V.aU vU) (.cons (V.og vV) (.cons (V.aU T8) (.cons (V.aU yF) (.cons (V.aU GJ) (.cons (V.aU GK) (.cons (V.aU T9) (.cons (V.aU h28) (.cons (V.aU h29) (.cons (V.aU h30) (.cons (V.aU h31) (.cons (V.aU Ua) (.cons (V.dX h33) (.cons (V.aU h34) (.cons (V.aU h35) (.cons (V.aU h36) (.cons (V.aU h37) (.cons (V.aU h38) (.cons (V.aU h39) (.cons (V.aU h40) (.cons (V.dX h41) (.cons (V.aU h42) (.cons (V.aU h43) (.cons (V.og h44) (.cons (V.aU h45) (.cons (V.dX h46) (.cons (V.aU h47) (.cons (V.dX h48) (.cons (V.dX h49) (.cons (V.dX h50) (.cons (V.dX h51) (.cons (V.dX h52) (.cons (V.aU h53) (.cons (V.dX h54) (.cons (V.dX h55) (.cons (V.aU h56) (.cons (V.og h57) (.cons (V.dX h58) (.cons (V.dX h59) (.cons (V.dX h60) (.cons (V.dX h61) (.cons (V.dX h62) (.cons (V.og Th) (.cons (V.aU h64) (.cons (V.aU h65) (.cons (V.aU h66) (.cons (V.aU h67) (.cons (V.aU h68) (.cons (V.aU h69) (.cons (V.aU h70) (.cons (V.aU h71) (.cons (V.dX h72) (.cons (V.dX h73) (.cons (V.dX h74) bZ.nil)))))))))))))))))))))))))))))))))))))))))))))))))))))))))))))))))))))))))))
 ·cases h
def ams(o:Nat)(cs:aa V)(x:iZ)(h:T4 o cs=some x):bZ cs (Gu o x):=by
 unfold T4 at h;split at h
 ·obtain⟨x0,C,h⟩:=bind_some h;obtain⟨x1,D,h⟩:=bind_some h;obtain⟨x2,E,h⟩:=bind_some h;obtain⟨x3,I,h⟩:=bind_some h;obtain⟨x4,J,h⟩:=bind_some h;obtain⟨x5,L,h⟩:=bind_some h;obtain⟨x6,O,h⟩:=bind_some h;obtain⟨x7,Q,h⟩:=bind_some h;obtain⟨x8,T,h⟩:=bind_some h;obtain⟨x9,U,h⟩:=bind_some h;obtain⟨pU,Y,h⟩:=bind_some h;obtain⟨pV,Z,h⟩:=bind_some h;obtain⟨pW,kz,h⟩:=bind_some h;obtain⟨pX,kX,h⟩:=bind_some h;obtain⟨pY,mE,h⟩:=bind_some h;obtain⟨pZ,nD,h⟩:=bind_some h;obtain⟨p6,jL,h⟩:=bind_some h;obtain⟨yB,qU,h⟩:=bind_some h;obtain⟨yC,r6,h⟩:=bind_some h;obtain⟨yD,r7,h⟩:=bind_some h;injection h with h;subst h;exact(.cons (V.aU C) (.cons (V.aU D) (.cons (V.aU E) (.cons (V.aU I) (.cons (V.og J) (.cons (V.aU L) (.cons (V.aU O) (.cons (V.aU Q) (.cons (V.aU T) (.cons (V.aU U) (.cons (V.aU Y) (.cons (V.aU Z) (.cons (V.aU kz) (.cons (V.aU kX) (.cons (V.aU mE) (.cons (V.aU nD) (.cons (V.aU jL) (.cons (V.dX qU) (.cons (V.aU r6) (.cons (V.aU r7) bZ.nil))))))))))))))))))))
 ·cases h
def amt(o:Nat)(cs:aa V)(x:MJ)(h:T5 o cs=some x):bZ cs (Dx o x):=by
 unfold T5 at h;split at h
 ·obtain⟨I,C,h⟩:=bind_some h;obtain⟨J,D,h⟩:=bind_some h;obtain⟨L,E,h⟩:=bind_some h;injection h with h;subst h;exact(.cons (V.aU C) (.cons (V.aU D) (.cons (V.aU E) bZ.nil)))
 ·cases h
def amu(o:Nat)(cs:aa V)(x:bN)(h:T6 o cs=some x):bZ cs (Gw o x):=by
 unfold T6 at h;split at h
 ·obtain⟨I,C,h⟩:=bind_some h;obtain⟨J,D,h⟩:=bind_some h;obtain⟨L,E,h⟩:=bind_some h;injection h with h;subst h;exact(.cons (V.dX C) (.cons (V.aU D) (.cons (V.aU E) bZ.nil)))
 ·cases h
def Dz{α:Type}{f:V->ah α}{g:α->V}(C:∀ x a,f x=some a->Wk x (g a)){cs:aa V}{x:α}(h:yE f cs=some x):bZ cs [g x]:=by
 unfold yE at h;split at h
 ·exact .cons (C _ _ h) .nil
 ·cases h
def amv{α:Type}{f:aa V->ah α}{g:α->aa V}(C:∀ x a,f x=some a->bZ x (g a)){cs:aa V}{x:α}(h:T7 f cs=some x):bZ cs (.bool true :: g x):=by
 unfold T7 at h;split at h
 ·exact .cons (.same _) (C _ _ h)
 ·cases h
def MO{α:Type}{n:Nat}{f:aa V->ah α}{g:α->aa V}(C:∀ x a,f x=some a->bZ x (g a)){cs:aa V}{x:α}(h:Dy n f cs=some x):bZ cs (.bool false :: .int .i64 (n:Int) :: g x):=by
 unfold Dy at h;split at h
 ·split at h
  next D=>subst D;exact .cons (.same _) (.cons (.same _) (C _ _ h))
  ·cases h
 ·cases h
def lQ:(t:TC) -> (o:Nat) -> (cs:aa V) -> (x:T t) -> dec t o cs=some x -> bZ cs (enc t o x)
 |.int,_,_,_,h=>Dz (λ_ _=>V.aU) h
 |.u8,_,_,_,h=>Dz (λ_ _=>V.alS) h
 |.bool,_,_,_,h=>Dz (g:=λn=>.bool n) (λ_ _=>V.og) h
 |.str,_,_,_,h=>Dz (g:=λn=>.str n) (λ_ _=>V.alT) h
 |.fM,o,cs,x,h=>alU o cs x h
 |.Addr,o,cs,x,h=>aaz o cs x h
 |.qR,o,cs,x,h=>alV o cs x h
 |.yf,o,cs,x,h=>alW o cs x h
 |.Command,o,cs,x,h=>aaA o cs x h
 |.kT,o,cs,x,h=>alX o cs x h
 |.kr,o,cs,x,h=>alY o cs x h
 |.gV,o,cs,x,h=>alZ o cs x h
 |.Event,o,cs,x,h=>al0 o cs x h
 |.kU,o,cs,x,h=>al1 o cs x h
 |.Cell,o,cs,x,h=>al2 o cs x h
 |.Array,o,cs,x,h=>al3 o cs x h
 |.r4,o,cs,x,h=>al4 o cs x h
 |.gD,o,cs,x,h=>al5 o cs x h
 |.oc,o,cs,x,h=>al6 o cs x h
 |.kV,o,cs,x,h=>al7 o cs x h
 |.di,o,cs,x,h=>aaB o cs x h
 |.fF,o,cs,x,h=>al8 o cs x h
 |.od,o,cs,x,h=>al9 o cs x h
 |.yg,o,cs,x,h=>ama o cs x h
 |.yh,o,cs,x,h=>amb o cs x h
 |.Power,o,cs,x,h=>amc o cs x h
 |.r5,o,cs,x,h=>amd o cs x h
 |.fN,o,cs,x,h=>ame o cs x h
 |.yj,o,cs,x,h=>amf o cs x h
 |.yl,o,cs,x,h=>amg o cs x h
 |.Receiver,o,cs,x,h=>amh o cs x h
 |.Node,o,cs,x,h=>ami o cs x h
 |.Tree,o,cs,x,h=>amj o cs x h
 |.ym,o,cs,x,h=>amk o cs x h
 |.qS,o,cs,x,h=>aml o cs x h
 |.yo,o,cs,x,h=>amm o cs x h
 |.Move,o,cs,x,h=>amn o cs x h
 |.lO,o,cs,x,h=>amo o cs x h
 |.oe,o,cs,x,h=>amp o cs x h
 |.Config,o,cs,x,h=>amq o cs x h
 |.lP,o,cs,x,h=>amr o cs x h
 |.cO,o,cs,x,h=>aaC o cs x h
 |.Act,o,cs,x,h=>ams o cs x h
 |.Fact,o,cs,x,h=>amt o cs x h
 |.qT,o,cs,x,h=>amu o cs x h
 |.sl t,o,_,_,h=>Dz (g:=λn=>.sl t o false n) (λ_ _=>V.dX) h
 |.kW,o,_,_,h=>amv (g:=yA o) (aaC o) h
 |.yp g,o,_,_,h=>MO (g:=λn=>[.int .i64 n]) (λ_ _ h=>Dz (g:=λn=>.int .i64 n) (λ_ _=>V.aU) h) h
 |.Dd g,o,_,_,h=>MO (g:=yz o) (aaB o) h
 |.yu g,o,_,_,h=>MO (g:=yw o) (aaz o) h
 |.fnCommand g,o,_,_,h=>MO (g:=yx o) (aaA o) h
def V.low(n:Nat):V->Bool
 |.sl t _ _ _=>Nat.ble (full t+2) n
 |_=>true
def MP(t:TC)(o:Nat)(x:T t):∀ y∈enc t o x,y.low (full t)=true:=by
 cases t<;>simp[enc,V.low,full,De,yw,Df,Gb,yx,Dg,Dh,Gc,Di,Gd,Ge,Gf,Dj,Gg,Gh,Gi,yz,Dk,Dl,Gj,Dm,Dn,Dp,Dq,Gk,Gl,Gm,Ds,Gn,Gq,Dt,Gr,Du,Gs,Gt,Dv,Dw,yA,Gu,Dx,Gw]
def V.plain:V->Bool
 |.int _ _|.bool _|.str _=>true
 |_=>false
def yG(t:TC)(o:Nat)(x:T t)(h:full t=0):∀ y∈enc t o x,y.plain=true:=by
 cases t<;>first|(simp[full]at h;done)|simp[enc,V.plain,De,yw,Df,yx,Dg,Dh,Di,Dj,yz,Dk,Dl,Dm,Dn,Dp,Dq,Ds,Dt,Du,Dv,Dw,Dx]
def V.jM:V->Bool
 |.nil=>false
 |_=>true
def Ub(t:TC)(o:Nat)(x:T t):∀ y∈enc t o x,y.jM=true:=by
 cases t<;>simp[enc,V.jM,De,yw,Df,Gb,yx,Dg,Dh,Gc,Di,Gd,Ge,Gf,Dj,Gg,Gh,Gi,yz,Dk,Dl,Gj,Dm,Dn,Dp,Dq,Gk,Gl,Gm,Ds,Gn,Gq,Dt,Gr,Du,Gs,Gt,Dv,Dw,yA,Gu,Dx,Gw]
def tcs:aa TC:=[.int,.u8,.bool,.str,.sl .int,.sl .bool,.sl .str,.fM,.Addr,.qR,.yf,.Command,.kT,.kr,.gV,.Event,.kU,.Cell,.Array,.r4,.gD,.oc,.kV,.di,.fF,.od,.yg,.yh,.Power,.r5,.fN,.yj,.yl,.Receiver,.Node,.Tree,.ym,.qS,.yo,.Move,.lO,.oe,.Config,.lP,.cO,.Act,.Fact,.qT]
def aaD(e:TypeId):ah TC:=tcs.find? λt=>Nat.beq (tid t) e
def amw{e:TypeId}{t:TC}(h:aaD e=some t):tid t=e:=cD (List.find?_some (p:=λt=>Nat.beq (tid t) e) h)
def V.gr(o:Nat):V->Bool
 |.sl _ C _ _=>C==o
 |_=>true
def vW(t:TC)(o:Nat)(x:T t):∀ y∈enc t o x,y.gr o=true:=by
 cases t<;>simp[enc,V.gr,De,yw,Df,Gb,yx,Dg,Dh,Gc,Di,Gd,Ge,Gf,Dj,Gg,Gh,Gi,yz,Dk,Dl,Gj,Dm,Dn,Dp,Dq,Gk,Gl,Gm,Ds,Gn,Gq,Dt,Gr,Du,Gs,Gt,Dv,Dw,yA,Gu,Dx,Gw]
def V.aD:V->Bool
 |.sl _ o _ _=>decide (o<2)
 |_=>true
def V.gy:V->V
 |.sl t _ q l=>.sl t 0 q l
 |x=>x
def amx(t:TC)(o:Nat)(x y:T t):(enc t o x).map (λv=>(v.plain,v.aD))=(enc t o y).map (λv=>(v.plain,v.aD)):=by cases t<;>rfl
def V.amy(x:V):x.gy.aD=true:=by cases x<;>simp[V.gy,V.aD]
def jB(t:TC)(o:Nat)(x:T t)(C:o<2)(j:Nat)(y:V)(h:(enc t o x)[j]?=some y):y.aD=true:=by
 have:=vW t o x y (fT h);cases y<;>simp_all [V.gr,V.aD]
def aaE(t:TC)(o:Nat)(x:T t):enc t 0 x=(enc t o x).map V.gy:=by cases t<;>rfl
def vX(t:TC)(o:Nat)(x:T t)(j:Nat)(y:V)(h:(enc t 0 x)[j]?=some y):∃ z,(enc t o x)[j]?=some z/\y=z.gy:=by
 rw[aaE t o x,dz]at h
 grind
def inner:Nat->Nat
 |0=>0
 |1=>1
 |n+2=>n
abbrev bG:=Nat->ah (aa Nat)
inductive RV (w:World) (B:Nat) (aj:bG):List Nat->V->Value->Prop
 |int (q:List Nat) (k:IntKind) (n:Int):RV w B aj q (.int k n) (.int k n)
 |bool (q:List Nat) (b:Bool):RV w B aj q (.bool b) (.bool b)
 |str (q:List Nat) (s:ByteArray):RV w B aj q (.str s) (.string s)
 |nil (q:List Nat):RV w B aj q .nil (.slice none 0 0)
 |cS (q:List Nat) (t:TC) (o:Nat):RV w B aj q (.sl t o false []) (.slice none 0 0)
 |cZ (q:List Nat) (t:TC) (o:Nat) (A:Addr) (c:Nat) (ho:o<2):RV w B aj q (.sl t o false []) (.slice (some A) 0 c)
 |de (q:List Nat) (t:TC) (o:Nat) (A:Addr) (c:Nat) (ho:o<2):RV w B aj q (.sl t o true []) (.slice (some A) 0 c)
 | aD (q:List Nat) (t:TC) (o:Nat) (qn:Bool) (l:List (T t)) (b off cap:Nat) (u:Nat->Nat->Value) (ho:o<2) (hl:aj b=none) (hb:b<w.heap.size) (h1:o=1->B<=b) (oW:l.length<=cap)
   (hc:∀i (h:i<l.length) j x,(enc t o l[i])[j]?=some x->w.cell? ⟨b,off+(i*aF t+j),none⟩=some (u i j))
   (hr:∀i (h:i<l.length) j x,(enc t o l[i])[j]?=some x->RV w B aj [] x (u i j)):RV w B aj q (.sl t o qn l) (.slice (some ⟨b,off,none⟩) l.length cap)
 | own (q:List Nat) (t:TC) (o:Nat) (qn:Bool) (l:List (T t)) (b cap:Nat) (cs:Array Value) (u:Nat->Nat->Value) (hl:aj b=some q) (hh:w.heap[b]?=some (.cells cs (tid t) (0,0)))
   (hs:cs.size=cap*aF t) (hn:l.length<=cap) (hm:cap<=maxLen/\(qn=true->cap=l.length))
   (hc:∀i (h:i<l.length) j x,(enc t o l[i])[j]?=some x->cs[i*aF t+j]?=some (u i j))
   (hr:∀i (h:i<l.length) j x,(enc t o l[i])[j]?=some x->RV w B aj (j::i::aF t::q) x (u i j)):RV w B aj q (.sl t (o+2) qn l) (.slice (some ⟨b,0,none⟩) l.length cap)
section
variable {w w':World} {B:Nat} {aj aE:bG}
def V.GL(n:Nat):V->V
 |.sl t _ q l=>.sl t n q l
 |x=>x
def amz(t:TC)(o n:Nat)(x:T t):enc t n x=(enc t o x).map (V.GL n):=by cases t<;>rfl
def V.fu(n:Nat):V->Prop
 |.sl t o _ _=>full t+2<=o/\full t+2<=n
 |_=>True
def RV.GL{q:aa Nat}{x:V}{v:Value}(h:RV w B aj q x v):∀ n,x.fu n -> RV w B aj q (x.GL n) v:=by
 induction h with
 |int=>exact λ_ _=>.int _ _ _
 |bool=>exact λ_ _=>.bool _ _
 |str=>exact λ_ _=>.str _ _
 |nil=>exact λ_ _=>.nil _
 |cS=>exact λ_ _=>.cS _ _ _
 |cZ q t o A c I=>exact λn C=>by have:=C.1;omega
 |de q t o A c I=>exact λn C=>by have:=C.1;omega
 |aD q t o J l b off cap u I hl hb L oW O Q T=>exact λn C=>by have:=C.1;omega
 | own q t o J l b cap cs u hl U Y C Z O Q T=>
  intro n hf;obtain⟨L,h2⟩:=hf;obtain⟨m,rfl⟩:∃m,n=m+2:=⟨n-2,by omega⟩
  have key:∀ (i:Nat) (h:i<l.length) (j:Nat) (x:V),(enc t m l[i])[j]?=some x -> ∃ y:V,(enc t o l[i])[j]?=some y/\y.GL m=x/\y.fu m:=by
   intro i h j x D;rw[amz t o m l[i],dz]at D;cases E:(enc t o l[i])[j]? with
   |none=>simp_all
   | some y=>
    rw[E]at D;injection D with D;refine⟨y,rfl,D,?_⟩;have g1:=vW t o l[i] y (fT E);have g2:=MP t o l[i] y (fT E);cases y with
    | sl t' o' q' l'=>
     have e:o'=o:=by simpa [V.gr]using g1
     have:=cL (show Nat.ble _ _=true from g2);exact⟨by omega,by omega⟩
    |_=>trivial
  refine .own _ _ _ _ _ _ _ cs u hl U Y C Z (λi h j x D=>?_) (λi h j x D=>?_)
  ·grind
  ·grind
def RV.wk{q:aa Nat}{x y:V}{v:Value}(h:RV w B aj q x v)(k:Wk x y):RV w B aj q y v:=by
 cases k with
 |same=>exact h
 |nil t o=>cases h;exact .cS _ _ _
 | gr t o Z I l J Y=>
  have h:=h.GL o ⟨Y,J⟩;cases h with
  |cS=>exact .cS _ _ _
  |cZ q t o A c C=>grind
  |de q t o A c C=>grind
  |aD q t o I l b off cap u C hl hb J U D E=>grind
  |own q t o I l b cap cs u hl L O Q T D E=>exact .own _ _ _ _ _ _ _ cs u hl L O Q ⟨T.1,λh=>by cases h⟩ D E
 | q t o l=>
  cases h with
  |de q t o A c C=>exact .cZ _ _ _ _ _ C
  |aD q t o I l b off cap u C hl hb J U D E=>exact .aD _ _ _ _ _ _ _ _ u C hl hb J U D E
  |own q t o I l b cap cs u hl L O Q T D E=>exact .own _ _ _ _ _ _ _ cs u hl L O Q ⟨T.1,λh=>by cases h⟩ D E
def RV.key{q E:aa Nat}{x:V}{v:Value}(h:RV w B aj q x v)(I:x.aD=true):RV w B aj E x v:=by
 cases h with
 |int=>exact .int _ _ _
 |bool=>exact .bool _ _
 |str=>exact .str _ _
 |nil=>exact .nil _
 |cS=>exact .cS _ _ _
 |cZ=>exact .cZ _ _ _ _ _ (by first|assumption|omega)
 |de=>exact .de _ _ _ _ _ (by first|assumption|omega)
 |aD q t o J l b off cap u L hl hb O Q C D=>exact .aD _ _ _ _ _ _ _ _ u L hl hb O Q C D
 |own q t o J l b cap cs u hl T U Y Z C D=>simp[V.aD]at I;omega
def mF:Value->Bool
 |.slice ..=>true
 |_=>false
def RV.Uc{q:aa Nat}{x:V}{u:Value}(h:RV w B aj q x u)(C:x.aD=false):mF u=true:=by
 cases h<;>first|rfl|cases C
def RV.one{q:aa Nat}{x:V}{u:Value}(h:RV w B aj q x u):u.oneCell'=true:=by
 cases h<;>rfl
def RV.fV{q:aa Nat}{x:V}{v:Value}(h:RV w B aj q x v)(J:w.heap.size <= w'.heap.size)(C:∀ b,b<w.heap.size -> w'.heap[b]?=w.heap[b]?/\aE b=aj b):RV w' B aE q x v:=by
 induction h with
 |int=>exact .int _ _ _
 |bool=>exact .bool _ _
 |str=>exact .str _ _
 |nil=>exact .nil _
 |cS=>exact .cS _ _ _
 |cZ=>exact .cZ _ _ _ _ _ (by first|assumption|omega)
 |de=>exact .de _ _ _ _ _ (by first|assumption|omega)
 | aD q t o L l b off cap u O hl hb Q T D U E=>
  exact .aD _ _ _ _ _ _ _ _ u O ((C b hb).2.trans hl) (kO hb J) Q T (λi h j x Y=>(kf (C b hb).1).trans (D i h j x Y)) E
 | own q t o L l b cap cs u hl I Z hn hm D U E=>
  have hb:b<w.heap.size:=(gd.1 I).1;exact .own _ _ _ _ _ _ _ cs u ((C b hb).2.trans hl) ((C b hb).1.trans I) Z hn hm D E
def RV.apart{q kt:aa Nat}{x:V}{v:Value}{bt:Nat}(h:RV w B aj q x v)(C:aj bt=some kt)(hq:¬ q <:+ kt \/ x.aD=true)(U:w.heap.size <= w'.heap.size)(O:∀ b,b≠bt -> w'.heap[b]?=w.heap[b]?):RV w' B aj q x v:=by
 induction h with
 |int=>exact .int _ _ _
 |bool=>exact .bool _ _
 |str=>exact .str _ _
 |nil=>exact .nil _
 |cS=>exact .cS _ _ _
 |cZ=>exact .cZ _ _ _ _ _ (by first|assumption|omega)
 |de=>exact .de _ _ _ _ _ (by first|assumption|omega)
 | aD q t o Y l b off cap u Q hl hb Z oW E hr I=>
  have J:b≠bt:=by rintro rfl;rw[hl]at C;cases C
  refine .aD _ _ _ _ _ _ _ _ u Q hl (kO hb U) Z oW (λi h j x D=>(kf (O b J)).trans (E i h j x D)) (λi h j x D=>I i h j x D (.inr (jB t o l[i] Q j x D)))
 | own q t o Y l b cap cs u hl hh L hn hm E hr I=>
  have T:¬ q <:+ kt:=by
   rcases hq with hq|hq
   ·exact hq
   ·simp[V.aD]at hq;omega
  have J:b≠bt:=by rintro rfl;rw[hl]at C;injection C with C;subst C;exact T (List.suffix_refl _)
  refine .own _ _ _ _ _ _ _ cs u hl ((O b J).trans hh) L hn hm E (λi h j x D=>I i h j x D (.inl λL=>T (List.IsSuffix.trans ⟨[j,i,aF t],rfl⟩ L)))
def RV.gy{q E:aa Nat}{x:V}{v:Value}(h:RV w B aj q x v){B':Nat}:RV w B' (λ_=>none) E x.gy v:=by
 induction h generalizing E with
 |int=>exact .int _ _ _
 |bool=>exact .bool _ _
 |str=>exact .str _ _
 |nil=>exact .nil _
 |cS=>exact .cS _ _ _
 |cZ=>exact .cZ _ _ _ _ _ (by first|assumption|omega)
 |de=>exact .de _ _ _ _ _ (by first|assumption|omega)
 | aD q t o L l b off cap u Y hl hb Z O I Q T=>
  refine .aD _ _ _ _ _ _ _ _ u (by omega) rfl hb (by omega) O (λi h j x C=>?_) (λi h j x C=>?_)
  ·obtain⟨y,D,_⟩:=vX t o l[i] j x C;simp_all
  ·obtain⟨y,D,rfl⟩:=vX t o l[i] j x C;simp_all
 | own q t o L l b cap cs u hl J hs U hm I Q T=>
  refine .aD _ _ _ _ _ _ _ _ u (by omega) rfl (gd.1 J).1 (by omega) U (λi h j x C=>?_) (λi h j x C=>?_)
  ·obtain⟨y,D,_⟩:=vX t o l[i] j x C;have:=I i h j y D;rw[fj,cell_of_row w b _ cs _ _ J];exact this
  ·obtain⟨y,D,rfl⟩:=vX t o l[i] j x C;simp_all
end
set_option linter.unusedVariables false
inductive Lf where
 |v (x:V)
 |own (k:List Nat)
 |dead
inductive A where
 |undef
 |skip
 |lf (x:Lf)
 |agg (cs:List Lf)
 |cR (xs:List (Bool×List Lf))
 |ptr (k:List Nat)
 |aG (r j:Nat)
 |gW (cs:List V)
 |kA (f:Nat) (cs:List V)
 |pk (r n:Nat)
 |view (k:List Nat) (s i j:Nat)
 |fn (f:Nat) (cap:List (Nat×Nat))
inductive aY where
 |aB (cs:List Lf)
 |sl (y:V)
 |mp (l:List (Int×Bool))
 |gh (xs:List A)
structure S where
 t:Nat->A
 m:Nat->Option aY
inductive Loc where
 |aB (b off:Nat)
 |dM (v:Value)
 |cc (us:List Value)
def addrAt(w:World)(aj:bG)(ρ:Nat->Loc):aa Nat->ah Addr
 | j :: i :: s :: [r]=>match ρ r with
  |.dM (.slice (some ⟨b,0,none⟩) _ _)=>if aj b=some [r]then some ⟨b,i*s+j,none⟩else none
  |_=>none
 | j :: i :: s :: q=>match (addrAt w aj ρ q).bind w.cell? with
  |some (.slice (some ⟨b,0,none⟩) _ _)=>if aj b=some q then some ⟨b,i*s+j,none⟩else none
  |_=>none
 |_=>none
def cN(w:World)(aj:bG)(ρ:Nat->Loc):aa Nat->ah Value
 | [r]=>match ρ r with
  |.dM v=>some v
  |_=>none
 |q=>(addrAt w aj ρ q).bind w.cell?
def dA(w:World)(B:Nat)(aj:bG)(ρ:Nat->Loc):Lf->Value->Prop
 |.v x,u=>x.aD=true/\RV w B aj [] x u
 |.own k,u=>mF u=true/\cN w aj ρ k=some u
 |.dead,_=>True
def dQ(w:World)(B:Nat)(aj:bG)(ρ:Nat->Loc)(cs:aa Lf)(us:Array Value):Prop:=
 us.size=cs.length/\∀(j:Nat) x,cs[j]?=some x->∃u,us[j]?=some u/\dA w B aj ρ x u
def RP(w:World)(B:Nat)(aj:bG)(ρ:Nat->Loc)(p:Bool×aa Lf)(u:Value):Prop:=
 match p with
 |(true,cs)=>∃us,u = .agg us/\dQ w B aj ρ cs us
 |(false,cs)=>dQ w B aj ρ cs #[u]
def p7:Nat:=4294967296
def MQ(b n:Nat):Value:=bif Nat.beq n p7 then .map (some b)else .slice (some ⟨b,0,none⟩) n n
def Ud{b n:Nat}(h:n<p7):MQ b n = .slice (some ⟨b,0,none⟩) n n:=by
 unfold MQ;cases hb:Nat.beq n p7 with
 |true=>simp_all
 |false=>rfl
def Ue(b:Nat):MQ b p7 = .map (some b):=rfl
def RF(w:World)(B:Nat)(aj:bG)(cs:aa V)(u:Value):Prop:=
 ∃b off,u = .pointer (some ⟨b,off,none⟩)/\b<w.heap.size/\aj b=none/\∀(j:Nat) x,cs[j]?=some x->x.aD=true/\∃v,w.cell? ⟨b,off+j,none⟩=some v/\RV w B aj [] x v
def RA(w:World)(B:Nat)(aj:bG)(ρ:Nat->Loc):A->Value->Prop
 |.undef,_=>True
 |.skip,u=>u=Go.undef
 |.lf x,u=>dA w B aj ρ x u
 |.agg cs,u=>RP w B aj ρ (true,cs) u
 |.cR xs,u=>∃us:Array Value,u = .tuple us/\us.size=xs.length/\∀(j:Nat) p,xs[j]?=some p->∃v,us[j]?=some v/\RP w B aj ρ p v
 |.ptr k,u=>∃ad,u = .pointer (some ad)/\addrAt w aj ρ k=some ad
 |.aG r j,u=>∃b off,ρ r = .aB b off/\u = .pointer (some ⟨b,off+j,none⟩)
 |.gW cs,u=>RF w B aj cs u
 |.kA f cs,u=>∃pv,u = .func (.func f) #[] #[pv]/\RF w B aj cs pv
 |.pk r n,u=>∃b,ρ r = .aB b 0/\u=MQ b n
 |.view k s i j,u=>∃A n c,cN w aj ρ k=some (.slice A n c)/\i<=j/\j<=n/\u=sliced A i j c s
 |.fn f cap,u=>∃C:Array Value,u = .func (.func f) #[] C/\C.size=cap.length/\∀(j:Nat) p,cap[j]?=some p->∃b off,ρ p.1 = .aB b off/\C[j]?=some (.pointer (some ⟨b,off+p.2,none⟩))
inductive eF (w:World) (B:Nat) (aj:bG) (ρ:Nat->Loc) (r:Nat):aY->Prop
 | aB (b off:Nat) (cells:Array Value) (e:TypeId) (cs:List Lf) (us:Nat->Value) (dj:ρ r = .aB b off) (hl:aj b=some [r]) (hh:w.heap[b]?=some (.cells cells e (0,0))) (hs:off+cs.length<=cells.size)
   (hc:∀(j:Nat) x,cs[j]?=some x->cells[off+j]?=some (us j)/\dA w B aj ρ x (us j)):eF w B aj ρ r (.aB cs)
 |sl (v:Value) (y:V) (dj:ρ r = .dM v) (hr:RV w B aj [r] y v):eF w B aj ρ r (.sl y)
 |mp (b clock:Nat) (es:Array MapEntry) (l:List (Int×Bool)) (dj:ρ r = .aB b 0) (hl:aj b=some [r]) (hh:w.heap[b]?=some (.map es clock)) (he:es.toList.map (λe=>(e.key,e.val))=l.map λp=>(.int .i64 p.1,.bool p.2)):eF w B aj ρ r (.mp l)
 |gh (us:List Value) (xs:List A) (dj:ρ r = .cc us) (hx:∀(j:Nat) x,xs[j]?=some x->RA w B aj ρ x (us.getD j undef)):eF w B aj ρ r (.gh xs)
def Qw(_:World):Prop:=True
structure amA (n:Nat) (L:bG) (w w':World):Prop where
 os:w'.os=w.os
 tape:w'.tape=w.tape
 output:w'.output=w.output
 size:w.heap.size<=w'.heap.size
 block:∀k,k<n->L k=none->w'.heap[k]?=w.heap[k]?
def Hd(w:World)(L:bG):Prop:=∀w',amA w.heap.size L w w'->Qw w'
def amB(w:World)(L:bG):Hd w L:=λ_ _=>trivial
structure Wd where
 w:World
 L:bG
 F:Nat->Option Loc
 held:Hd w L
 low:∀r,r<20000->F r=none
def Wd.heap(d:Wd):Array Obj:=d.w.heap
def Wd.of(w:World)(h:Hd w λ_=>none):Wd:=⟨w,λ_=>none,λ_=>none,h,λ_ _=>rfl⟩
structure ja (d:Wd) (w w':World):Prop where
 os:w'.os=w.os
 tape:w'.tape=w.tape
 output:w'.output=w.output
 size:w.heap.size<=w'.heap.size
 block:∀k,k<d.heap.size->d.L k=none->w'.heap[k]?=w.heap[k]?
def ja.trans{d:Wd}{a b c:World}(h:ja d a b)(k:ja d b c):ja d a c:=
 ⟨k.os.trans h.os,k.tape.trans h.tape,k.output.trans h.output,Nat.le_trans h.size k.size,λi hi hl=>(k.block i hi hl).trans (h.block i hi hl)⟩
def Wd.on(d:Wd){w:World}(h:ja d d.w w){L:bG}(D:∀ b k,L b=some k->d.heap.size<=b\/d.L b≠none):Hd w L:=λw' hb=>
 d.held w' ⟨hb.os.trans h.os,hb.tape.trans h.tape,hb.output.trans h.output,Nat.le_trans h.size hb.size,λk C hl=>by
  have e:L k=none:=by
   cases e:L k with
   |none=>rfl
   | some q=>
    rcases D k q e with h1|h1
    ·exact absurd C (Nat.not_lt.2 h1)
    ·exact absurd hl h1
  exact(hb.block k (kO C h.size) e).trans (h.block k C hl)⟩
def ja.of{d:Wd}{a b:World}{B:Nat}(h:Below B a b)(hB:d.heap.size<=B):ja d a b:=
 ⟨h.os,h.tape,h.output,h.size,λi hi _=>h.block i (kO hi hB)⟩
structure Rl (w0:Wd) (N:Nat) (aj:bG) (ρ:Nat->Loc) (σ:S) (a:Act) (w:World):Prop where
 below:ja w0 w0.w w
 cX:∀b k,aj b=some k->(w0.heap.size<=b\/w0.L b≠none)/\b<w.heap.size/\k≠[]
 root:∀r x,σ.m r=some x->eF w w0.heap.size aj ρ r x
 tmp:∀k,RA w w0.heap.size aj ρ (σ.t k) (a.tmps.getD k undef)
 size:a.tmps.size=N
 defers:a.defers=[]
 fix:∀r l,w0.F r=some l->ρ r=l
 dx:∀r,(r<N\/60000<=r)->w0.F r=none
def R(w0:Wd)(N:Nat)(σ:S)(a:Act)(w:World):Prop:=∃aj ρ,Rl w0 N aj ρ σ a w
/-! Reading along a key. -/
inductive uG (m:Nat->Option aY):List Nat->V->Prop
 |root (r:Nat) (y:V) (h:m r=some (.sl y)):uG m [r] y
 |elem (j i:Nat) (q:List Nat) (t:TC) (o:Nat) (qn:Bool) (l:List (T t)) (y:V) (h:uG m q (.sl t (o+2) qn l)) (hi:i<l.length) (hy:(enc t o l[i])[j]?=some y):uG m (j::i::aF t::q) y
section
variable {w w':World} {w0:Wd} {B N:Nat} {aj aE:bG} {ρ ρ':Nat->Loc} {m:Nat->ah aY} {σ:S} {a:Act}
def AQ{q:aa Nat}(j i s:Nat){b n c:Nat}(h:cN w aj ρ q=some (.slice (some ⟨b,0,none⟩) n c))(hl:aj b=some q):addrAt w aj ρ (j :: i :: s :: q)=some ⟨b,i*s+j,none⟩:=by
 match q,h,hl with
 | [r],h,hl=>
  simp[cN]at h;simp[addrAt]
  grind
 | x :: y :: q,h,hl=>
  simp[cN]at h;simp[addrAt,h,hl,if_true]
def MR{j i s:Nat}{q:aa Nat}:cN w aj ρ (j::i::s::q)=(addrAt w aj ρ (j::i::s::q)).bind w.cell?:=rfl
def uG.ok{k:aa Nat}{y:V}(h:uG m k y)(D:∀ r x,m r=some x -> eF w B aj ρ r x):∃ u,cN w aj ρ k=some u/\RV w B aj k y u:=by
 induction h with
 | root r y h=>
  cases D _ _ h with
  |sl v y E C=>exact⟨v,by simp[cN,E],C⟩
 | elem j i q t o Q l y h hi I J=>
  obtain⟨u,L,C⟩:=J;cases C with
  |cS=>simp at hi
  |cZ=>simp at hi
  |de=>simp at hi
  |aD _ _ _ _ _ _ _ _ _ T=>omega
  | own _ _ _ _ _ b cap cs us hl O U Y D Z C=>
   refine⟨us i j,?_,C i hi j y I⟩;rw[MR,AQ j i _ L hl];show w.cell? _=_;rw[cell_of_row w b _ cs _ _ O];simp_all
def vY:∀ (k:aa Nat) (ad:Addr),addrAt w aj ρ k=some ad -> ∃ j i s q,k=j :: i :: s :: q/\aj ad.block=some q/\ad.off=i*s+j/\ad.spot=none/\(∀ r,q=[r] -> ∃ v,ρ r = .dM v)
 |[],_,h=>by simp[addrAt]at h
 | [j,i,s,r],ad,h=>by
  simp only[addrAt]at h
  grind
 | j :: i :: s :: x :: y :: q,ad,h=>by
  simp only[addrAt]at h
  grind
def Uf(C:∀ b,b<w.heap.size -> w'.heap[b]?=w.heap[b]?/\aE b=aj b)(J:∀ b k,aj b=some k -> b<w.heap.size):∀ (k:aa Nat) (ad:Addr),addrAt w aj ρ k=some ad -> addrAt w' aE ρ k=some ad
 |[],_,h=>h
 |[_],_,h=>h
 |[_,_],_,h=>h
 |[_,_,_],_,h=>by simp only[addrAt]at h ⊢;exact h
 | [j,i,s,r],_,h=>by
  simp only[addrAt]at h ⊢
  grind
 | j :: i :: s :: x :: y :: q,ad,h=>by
  simp only[addrAt]at h ⊢;cases D:addrAt w aj ρ (x::y::q)with
  |none=>simp_all
  | some E=>
   rw[Uf C J _ _ D];rw[D]at h;cases I:w.cell? E with
   |none=>simp_all
   | some v=>
    have e:w'.cell? E=some v:=(kf (C _ (block_lt_of_cell I)).1).trans I
    grind
def aaF(D:∀ b,b<w.heap.size -> w'.heap[b]?=w.heap[b]?/\aE b=aj b)(E:∀ b k,aj b=some k -> b<w.heap.size)(k:aa Nat)(u:Value)(h:cN w aj ρ k=some u):cN w' aE ρ k=some u:=by
 match k,h with
 |[r],h=>exact h
 | x :: y :: q,h=>
  simp[cN]at h ⊢;cases C:addrAt w aj ρ _ with
  |none=>rw[C]at h;cases h
  | some ad=>
   rw[Uf D E _ _ C];rw[C]at h;exact(kf (D _ (block_lt_of_cell h)).1).trans h
def dA.fV{x:Lf}{u:Value}(h:dA w B aj ρ x u)(D:w.heap.size<=w'.heap.size)(C:∀ b,b<w.heap.size->w'.heap[b]?=w.heap[b]?/\aE b=aj b)(E:∀ b k,aj b=some k->b<w.heap.size):dA w' B aE ρ x u:=by
 cases x with
 |v x=>exact⟨h.1,h.2.fV D C⟩
 |own k=>exact⟨h.1,aaF C E _ _ h.2⟩
 |dead=>trivial
def dQ.fV{cs:aa Lf}{us:Array Value}(h:dQ w B aj ρ cs us)(C:w.heap.size<=w'.heap.size)(D:∀ b,b<w.heap.size->w'.heap[b]?=w.heap[b]?/\aE b=aj b)(E:∀ b k,aj b=some k->b<w.heap.size):dQ w' B aE ρ cs us:=
 ⟨h.1,λj x I=>let ⟨u,hu,r⟩:=h.2 j x I;⟨u,hu,r.fV C D E⟩⟩
def RP.fV{p:Bool×aa Lf}{u:Value}(h:RP w B aj ρ p u)(C:w.heap.size<=w'.heap.size)(D:∀ b,b<w.heap.size->w'.heap[b]?=w.heap[b]?/\aE b=aj b)(E:∀ b k,aj b=some k->b<w.heap.size):RP w' B aE ρ p u:=by
 obtain⟨b,cs⟩:=p;cases b with
 |true=>obtain⟨us,e,h⟩:=h;exact⟨us,e,h.fV C D E⟩
 |false=>exact dQ.fV h C D E
def RF.fV{cs:aa V}{u:Value}(h:RF w B aj cs u)(D:w.heap.size<=w'.heap.size)(C:∀ b,b<w.heap.size->w'.heap[b]?=w.heap[b]?/\aE b=aj b):RF w' B aE cs u:=by
 obtain⟨b,off,e,hb,hl,h⟩:=h
 refine⟨b,off,e,kO hb D,((C b hb).2).trans hl,λj x E=>?_⟩
 obtain⟨I,v,J,L⟩:=h j x E;exact⟨I,v,(kf (a:=⟨b,_,none⟩) (C b hb).1).trans J,L.fV D C⟩
def RA.fV{x:A}{u:Value}(h:RA w B aj ρ x u)(D:w.heap.size<=w'.heap.size)(C:∀ b,b<w.heap.size->w'.heap[b]?=w.heap[b]?/\aE b=aj b)(E:∀ b k,aj b=some k->b<w.heap.size):RA w' B aE ρ x u:=by
 cases x with
 |undef=>trivial
 |skip=>exact h
 |lf x=>exact dA.fV h D C E
 |agg cs=>exact RP.fV (p:=(true,cs)) h D C E
 |cR xs=>obtain⟨us,e,I,h⟩:=h;exact⟨us,e,I,λj p J=>let ⟨v,L,r⟩:=h j p J;⟨v,L,r.fV D C E⟩⟩
 |ptr k=>obtain⟨ad,e,h⟩:=h;exact⟨ad,e,Uf C E _ _ h⟩
 |view k s i j=>obtain⟨A,n,c,h,g⟩:=h;exact⟨A,n,c,aaF C E _ _ h,g⟩
 |pk r n=>exact h
 |aG r j=>exact h
 |gW cs=>exact RF.fV h D C
 |kA f cs=>obtain⟨pv,e,h⟩:=h;exact⟨pv,e,h.fV D C⟩
 |fn f cap=>exact h
def eF.fV{r:Nat}{x:aY}(h:eF w B aj ρ r x)(J:w.heap.size <= w'.heap.size)(C:∀ b,b<w.heap.size -> w'.heap[b]?=w.heap[b]?/\aE b=aj b)(L:∀ b k,aj b=some k -> b<w.heap.size):eF w' B aE ρ r x:=by
 cases h with
 | aB b off cells e cs us D hl E Q O=>
  have hb:=(gd.1 E).1;exact .aB b off cells e cs us D ((C b hb).2.trans hl) ((C b hb).1.trans E) Q (λj x I=>⟨(O j x I).1,(O j x I).2.fV J C L⟩)
 |sl v y D T=>exact .sl v y D (T.fV J C)
 | mp b c U l D hl E Y=>
  have hb:b<w.heap.size:=(gd.1 E).1;exact .mp b c U l D ((C b hb).2.trans hl) ((C b hb).1.trans E) Y
 |gh us xs D I=>exact .gh us xs D λj x Z=>(I j x Z).fV J C L
/-! A root's name is given anew: what named it before is forgotten. -/
def bK(d:Nat)(k:aa Nat):Bool:=k.getLast?==some d
def Lf.drop(d:Nat):Lf->Lf
 |.own k=>bif bK d k then .dead else .own k
 |x=>x
def A.drop(d:Nat):A->A
 |.lf x=>.lf (x.drop d)
 |.agg cs=>.agg (cs.map (Lf.drop d))
 |.cR xs=>.cR (xs.map λp=>(p.1,p.2.map (Lf.drop d)))
 |.ptr k=>bif bK d k then .undef else .ptr k
 |.aG r j=>bif Nat.beq r d then .undef else .aG r j
 |.pk r n=>bif Nat.beq r d then .undef else .pk r n
 |.view k s i j=>bif bK d k then .undef else .view k s i j
 |.fn f cap=>bif cap.any (λp=>Nat.beq p.1 d)then .undef else .fn f cap
 |x=>x
def aY.drop(d:Nat):aY->aY
 |.aB cs=>.aB (cs.map (Lf.drop d))
 |.gh xs=>.gh (xs.map (A.drop d))
 |x=>x
def Ug{d:Nat}(C:∀ r,r≠d->ρ' r=ρ r):∀ (k:aa Nat),bK d k=false->addrAt w aj ρ' k=addrAt w aj ρ k
 |[],_=>rfl
 |[_],_=>rfl
 |[_,_],_=>rfl
 |[_,_,_],_=>rfl
 | [j,i,s,r],h=>by
  have D:r≠d:=by rintro rfl;simp[bK]at h
  simp only[addrAt,C r D]
 | j :: i :: s :: x :: y :: q,h=>by
  have E:bK d (x::y::q)=false:=by simpa [bK]using h
  simp only[addrAt,Ug C (x::y::q) E]
def aaG{d:Nat}(C:∀ r,r≠d -> ρ' r=ρ r)(k:aa Nat)(h:bK d k=false):cN w aj ρ' k=cN w aj ρ k:=by
 match k,h with
 |[],_=>rfl
 | [r],h=>
  have D:r≠d:=by rintro rfl;simp[bK]at h
  simp[cN,C r D]
 |x::y::q,h=>simp[cN,Ug C _ h]
def dA.eC{d:Nat}(C:∀ r,r≠d->ρ' r=ρ r){x:Lf}{u:Value}(h:dA w B aj ρ x u):dA w B aj ρ' (x.drop d) u:=by
 cases x with
 |v x=>exact h
 |dead=>trivial
 | own k=>
  have e:Lf.drop d (.own k)=(bif bK d k then .dead else .own k):=rfl;rw[e];cases hl:bK d k with
  |true=>trivial
  |false=>exact⟨h.1,(aaG C k hl).trans h.2⟩
def dQ.eC{d:Nat}(E:∀ r,r≠d -> ρ' r=ρ r){cs:aa Lf}{us:Array Value}(h:dQ w B aj ρ cs us):dQ w B aj ρ' (cs.map (Lf.drop d)) us:=by
 refine⟨by rw[dB];exact h.1,λj x C=>?_⟩
 rw[dz]at C;cases D:cs[j]? with
 |none=>simp_all
 | some y=>
  rw[D]at C;injection C with C;subst C;obtain⟨u,I,r⟩:=h.2 j y D;exact⟨u,I,r.eC E⟩
def RP.eC{d:Nat}(C:∀ r,r≠d->ρ' r=ρ r){p:Bool×aa Lf}{u:Value}(h:RP w B aj ρ p u):RP w B aj ρ' (p.1,p.2.map (Lf.drop d)) u:=by
 obtain⟨b,cs⟩:=p;cases b with
 |true=>obtain⟨us,e,h⟩:=h;exact⟨us,e,h.eC C⟩
 |false=>exact dQ.eC C h
def RA.eC{d:Nat}(C:∀ r,r≠d -> ρ' r=ρ r){x:A}{u:Value}(h:RA w B aj ρ x u):RA w B aj ρ' (x.drop d) u:=by
 cases x with
 |undef=>trivial
 |skip=>exact h
 |lf x=>exact dA.eC C h
 |agg cs=>exact RP.eC (p:=(true,cs)) C h
 | cR xs=>
  obtain⟨us,e,I,h⟩:=h
  refine⟨us,e,by rw[dB];exact I,λj p D=>?_⟩
  rw[dz]at D;cases J:xs[j]? with
  |none=>grind
  | some y=>
   rw[J]at D;injection D with D;subst D;obtain⟨v,L,r⟩:=h j y J;exact⟨v,L,r.eC C⟩
 | ptr k=>
  have e:A.drop d (.ptr k)=(bif bK d k then .undef else .ptr k):=rfl;rw[e];cases hl:bK d k with
  |true=>trivial
  |false=>obtain⟨ad,e,h⟩:=h;exact⟨ad,e,(Ug C k hl).trans h⟩
 | view k s i j=>
  have e:A.drop d (.view k s i j)=(bif bK d k then .undef else .view k s i j):=rfl;rw[e];cases hl:bK d k with
  |true=>trivial
  |false=>obtain⟨A,n,c,h,g⟩:=h;exact⟨A,n,c,(aaG C k hl).trans h,g⟩
 | pk r n=>
  have e:A.drop d (.pk r n)=(bif Nat.beq r d then .undef else .pk r n):=rfl;rw[e];cases hl:Nat.beq r d with
  |true=>trivial
  | false=>
   have E:r≠d:=by rintro rfl;simp at hl
   obtain⟨b,e,h⟩:=h;exact⟨b,(C r E).trans e,h⟩
 | aG r j=>
  have e:A.drop d (.aG r j)=(bif Nat.beq r d then .undef else .aG r j):=rfl;rw[e];cases hl:Nat.beq r d with
  |true=>trivial
  | false=>
   have E:r≠d:=by rintro rfl;simp at hl
   obtain⟨b,off,e,h⟩:=h;exact⟨b,off,(C r E).trans e,h⟩
 |gW cs=>exact h
 |kA f cs=>exact h
 | fn f cap=>
  have e:A.drop d (.fn f cap)=(bif cap.any (λp=>Nat.beq p.1 d)then .undef else .fn f cap):=rfl;rw[e];cases hl:cap.any (λp=>Nat.beq p.1 d)with
  |true=>trivial
  | false=>
   obtain⟨O,e,I,h⟩:=h
   refine⟨O,e,I,λj p D=>?_⟩
   obtain⟨b,off,Q,T⟩:=h j p D;have E:p.1≠d:=by
    rintro rfl;have:=mC.1 hl p (fT D);simp at this
   exact⟨b,off,(C _ E).trans Q,T⟩
def eF.eC{d r:Nat}(E:∀ r,r≠d -> ρ' r=ρ r)(L:r≠d){x:aY}(h:eF w B aj ρ r x):eF w B aj ρ' r (x.drop d):=by
 cases h with
 | aB b off cells e cs us C hl O T Q=>
  refine .aB b off cells e _ us ((E r L).trans C) hl O (by rw[dB];exact T) (λj x D=>?_)
  rw[dz]at D;cases I:cs[j]? with
  |none=>simp_all
  | some y=>
   rw[I]at D;injection D with D;subst D;exact⟨(Q j y I).1,(Q j y I).2.eC E⟩
 |sl v y C U=>exact .sl v y ((E r L).trans C) U
 |mp b c Y l C hl O Z=>exact .mp b c Y l ((E r L).trans C) hl O Z
 | gh us xs C D=>
  refine .gh us _ ((E r L).trans C) (λj x J=>?_)
  rw[dz]at J;cases I:xs[j]? with
  |none=>simp_all
  | some y=>
   rw[I]at J;injection J with J;subst J;exact(D j y I).eC E
def bW{α:Type}(f:Nat->α)(d:Nat)(x:α):Nat->α:=λk=>bif Nat.beq k d then x else f k
def ck{α:Type}(f:Nat->α)(d:Nat)(x:α):bW f d x d=x:=by simp[bW]
def cB{α:Type}(f:Nat -> α)(d:Nat)(x:α){k:Nat}(h:k≠d):bW f d x k=f k:=by
 have:Nat.beq k d=false:=by
  cases hb:Nat.beq k d with
  |false=>rfl
  |true=>simp_all
 simp[bW,this,au]
def S.set(σ:S)(d:Nat)(x:A):S:={ σ with t:=bW σ.t d x }
def S.drop(σ:S)(d:Nat):S:=⟨λk=>(σ.t k).drop d,λr=>bif Nat.beq r d then none else (σ.m r).map (aY.drop d)⟩
def S.root(σ:S)(d:Nat)(x:aY):S:={ σ with m:=bW σ.m d (some x) }
def Rl.set{x:A}{v:Value}{d:Nat}(h:Rl w0 N aj ρ σ a w)(E:RA w w0.heap.size aj ρ x v)(D:d<N):Rl w0 N aj ρ (σ.set d x) (a.put (some d) v) w:=by
 refine⟨h.below,h.cX,h.root,λk=>?_,?_,h.defers,h.fix,h.dx⟩
 ·show RA w _ aj ρ (bW σ.t d x k) ((a.tmps.setIfInBounds d v).getD k undef);by_cases C:k=d
  ·subst C;rw[ck,ij,Array.getElem?_setIfInBounds_self];have:k<a.tmps.size:=by rw[h.size];exact D
   simp_all
  ·rw[cB _ _ _ C,ij,Array.getElem?_setIfInBounds_ne (Ne.symm C),<- ij];exact h.tmp k
 ·show (a.tmps.setIfInBounds d v).size=N;rw[Array.size_setIfInBounds];exact h.size
def Rl.grow(h:Rl w0 N aj ρ σ a w)(hb:Below w.heap.size w w')(hl:∀ b,b<w.heap.size -> aE b=aj b)(I:∀ b k,w.heap.size <= b -> aE b=some k -> b<w'.heap.size/\k≠[]):Rl w0 N aE ρ σ a w':=by
 have D:∀b,b<w.heap.size -> w'.heap[b]?=w.heap[b]?/\aE b=aj b:=λb E=>⟨hb.block b E,hl b E⟩
 refine⟨h.below.trans (.of hb h.below.size),λb k C=>?_,λr x J=>(h.root r x J).fV hb.size D (λb k hb=>(h.cX b k hb).2.1),λk=>(h.tmp k).fV hb.size D (λb k hb=>(h.cX b k hb).2.1),h.size,h.defers,h.fix,h.dx⟩
 rcases Nat.lt_or_ge b _ with L|p9
 ·rw[hl b L]at C;have:=h.cX b k C
  grind
 ·have:=I b k p9 C;exact⟨.inl (Nat.le_trans h.below.size p9),this.1,this.2⟩
def Rl.new{d:Nat}{x:aY}(h:Rl w0 N aj ρ σ a w)(l:Loc)(L:eF w w0.heap.size aj (bW ρ d l) d x)(I:w0.F d=none):Rl w0 N aj (bW ρ d l) ((σ.drop d).root d x) a w:=by
 have E:∀r,r≠d -> bW ρ d l r=ρ r:=λr D=>cB _ _ _ D
 refine⟨h.below,h.cX,λr y C=>?_,λk=>(h.tmp k).eC E,h.size,h.defers,λr J D=>(E r (by rintro rfl;rw[I]at D;cases D)).trans (h.fix r J D),h.dx⟩
 by_cases D:r=d
 ·subst D;have e:(bW (σ.drop r).m r _) r=some x:=ck _ _ _;have C:(bW (σ.drop r).m r _) r=some y:=C;simp_all
 ·have C:(bW (σ.drop d).m d _) r=some y:=C;rw[cB _ _ _ D]at C;have hb:Nat.beq r d=false:=by
   cases hb:Nat.beq r d with
   |false=>rfl
   |true=>simp_all
  simp only[S.drop,hb,au]at C;cases hm:σ.m r with
  |none=>simp_all
  | some z=>
   rw[hm]at C;injection C with C;subst C;exact(h.root r z hm).eC E D
end
def splice{α:Type}(l:aa α)(j:Nat)(xs:aa α):aa α:=l.take j++xs++l.drop (j+xs.length)
def tf{α:Type}(l:aa α)(j:Nat)(xs:aa α)(h:j+xs.length<=l.length):(splice l j xs).length=l.length:=by
 simp[splice];omega
def vZ{α:Type}(l:aa α)(j:Nat)(xs:aa α)(h:j+xs.length <= l.length)(n:Nat):
  (splice l j xs)[n]?=if n<j then l[n]? else if n<j+xs.length then xs[n-j]? else l[n]?:=by
 unfold splice
 grind
structure uH (w w':World) (bt:Nat):Prop where
 size:w'.heap.size=w.heap.size
 os:w'.os=w.os
 tape:w'.tape=w.tape
 output:w'.output=w.output
 block:∀k,k≠bt->w'.heap[k]?=w.heap[k]?
def MS(w:World)(b o:Nat)(l:aa Value):uH w (w.setCells b o l) b:=by
 have g:=aay b l o w;have s:=aax b l o w
 refine⟨s,g.os,g.tape,g.output,λk C=>?_⟩
 rcases Nat.lt_or_ge k _ with D|p9
 ·exact g.block k D (by intro e;injection e with e;exact C e)
 ·simp_all
section
variable {w w':World} {w0:Wd} {B N:Nat} {aj:bG} {ρ:Nat->Loc} {m m':Nat->ah aY} {σ:S} {a:Act} {bt:Nat} {kt:aa Nat}
def qV(w w':World)(aj:bG)(ρ:Nat->Loc):Prop:=∀k ad v,addrAt w aj ρ k=some ad->w.cell? ad=some v->mF v=true->w'.cell? ad=some v
def Uh(D:qV w w' aj ρ):∀ (k:aa Nat) (ad:Addr),addrAt w aj ρ k=some ad -> addrAt w' aj ρ k=some ad
 |[],_,h=>h
 |[_],_,h=>h
 |[_,_],_,h=>h
 |[j,i,s,r],_,h=>by simp only[addrAt]at h ⊢;exact h
 | j :: i :: s :: x :: y :: q,ad,h=>by
  simp only[addrAt]at h ⊢;cases C:addrAt w aj ρ (x::y::q)with
  |none=>simp_all
  | some I=>
   rw[Uh D _ _ C];rw[C]at h;cases E:w.cell? I with
   |none=>simp_all
   | some v=>
    simp only[Option.bind_some,E]at h;have J:mF v=true:=by
     split at h
     next e=>injection e with e;subst e;rfl
     ·cases h
    simp only[Option.bind_some,D _ _ _ C E J];exact h
def aaH(D:qV w w' aj ρ)(k:aa Nat)(u:Value)(E:mF u=true)(h:cN w aj ρ k=some u):cN w' aj ρ k=some u:=by
 match k,h with
 |[r],h=>exact h
 | x :: y :: q,h=>
  simp[cN]at h ⊢;cases C:addrAt w aj ρ _ with
  |none=>rw[C]at h;cases h
  | some ad=>
   rw[Uh D _ _ C];rw[C]at h;exact D _ _ _ C h E
def dA.wrote{x:Lf}{u:Value}(h:dA w B aj ρ x u)(C:uH w w' bt)(hl:aj bt=some kt)(D:qV w w' aj ρ):dA w' B aj ρ x u:=by
 cases x with
 |v x=>exact⟨h.1,h.2.apart hl (.inr h.1) (Nat.le_of_eq C.size.symm) C.block⟩
 |own k=>exact⟨h.1,aaH D k u h.1 h.2⟩
 |dead=>trivial
def dQ.wrote{cs:aa Lf}{us:Array Value}(h:dQ w B aj ρ cs us)(C:uH w w' bt)(hl:aj bt=some kt)(D:qV w w' aj ρ):dQ w' B aj ρ cs us:=
 ⟨h.1,λj x E=>let ⟨u,hu,r⟩:=h.2 j x E;⟨u,hu,r.wrote C hl D⟩⟩
def RP.wrote{p:Bool×aa Lf}{u:Value}(h:RP w B aj ρ p u)(C:uH w w' bt)(hl:aj bt=some kt)(D:qV w w' aj ρ):RP w' B aj ρ p u:=by
 obtain⟨b,cs⟩:=p;cases b with
 |true=>obtain⟨us,e,h⟩:=h;exact⟨us,e,h.wrote C hl D⟩
 |false=>exact dQ.wrote h C hl D
def RF.wrote{cs:aa V}{u:Value}(h:RF w B aj cs u)(C:uH w w' bt)(hl:aj bt=some kt):RF w' B aj cs u:=by
 obtain⟨b,off,e,hb,D,h⟩:=h;have I:b≠bt:=by rintro rfl;rw[hl]at D;cases D
 refine⟨b,off,e,by rw[C.size];exact hb,D,λj x J=>?_⟩
 obtain⟨E,v,L,O⟩:=h j x J;exact⟨E,v,(kf (C.block b I)).trans L,O.apart hl (.inr E) (Nat.le_of_eq C.size.symm) C.block⟩
def RA.wrote{x:A}{u:Value}(h:RA w B aj ρ x u)(C:uH w w' bt)(hl:aj bt=some kt)(D:qV w w' aj ρ):RA w' B aj ρ x u:=by
 cases x with
 |undef=>trivial
 |skip=>exact h
 |lf x=>exact dA.wrote h C hl D
 |agg cs=>exact RP.wrote (p:=(true,cs)) h C hl D
 |cR xs=>obtain⟨us,e,E,h⟩:=h;exact⟨us,e,E,λj p I=>let ⟨v,J,r⟩:=h j p I;⟨v,J,r.wrote C hl D⟩⟩
 |ptr k=>obtain⟨ad,e,h⟩:=h;exact⟨ad,e,Uh D _ _ h⟩
 |view k s i j=>obtain⟨A,n,c,h,g⟩:=h;exact⟨A,n,c,aaH D k _ rfl h,g⟩
 |pk r n=>exact h
 |aG r j=>exact h
 |gW cs=>exact RF.wrote h C hl
 |kA f cs=>obtain⟨pv,e,h⟩:=h;exact⟨pv,e,h.wrote C hl⟩
 |fn f cap=>exact h
def eF.wrote{r:Nat}{x:aY}(h:eF w B aj ρ r x)(E:uH w w' bt)(hl:aj bt=some kt)(Q:qV w w' aj ρ)(J:¬ [r] <:+ kt):eF w' B aj ρ r x:=by
 cases h with
 | aB b off cells e cs us D C L U T=>
  have O:b≠bt:=by rintro rfl;rw[hl]at C;injection C with C;subst C;exact J (List.suffix_refl _)
  exact .aB b off cells e cs us D C ((E.block b O).trans L) U (λj x I=>⟨(T j x I).1,(T j x I).2.wrote E hl Q⟩)
 |sl v y D Y=>exact .sl v y D (Y.apart hl (.inl J) (Nat.le_of_eq E.size.symm) E.block)
 | mp b c Z l D C L he=>
  have O:b≠bt:=by rintro rfl;rw[hl]at C;injection C with C;subst C;exact J (List.suffix_refl _)
  exact .mp b c Z l D C ((E.block b O).trans L) he
 |gh us xs D I=>exact .gh us xs D λj x hj=>(I j x hj).wrote E hl Q
def Rl.wrote(h:Rl w0 N aj ρ σ a w)(C:uH w w' bt)(hl:aj bt=some kt)(I:qV w w' aj ρ)(J:∀ r x,m' r=some x -> eF w' w0.heap.size aj ρ r x):Rl w0 N aj ρ ⟨σ.t,m'⟩ a w':=by
 have hb:=(h.cX bt kt hl).1;have O:∀ k,k<w0.heap.size -> w0.L k=none -> k≠bt:=by
  grind
 refine⟨⟨C.os.trans h.below.os,C.tape.trans h.below.tape,C.output.trans h.below.output,by rw[C.size];exact h.below.size,λk D E=>(C.block k (O k D E)).trans (h.below.block k D E)⟩,λb k Q=>?_,J,λk=>(h.tmp k).wrote C hl I,h.size,h.defers,h.fix,h.dx⟩
 rw[C.size];exact h.cX b k Q
def Ui{r C:Nat}(h:C≠r):¬ [C] <:+ [r]:=by
 intro D;have:=D.eq_of_length rfl;simp_all
def Rl.GM{r j:Nat}{cs xs:aa Lf}{us:Array Value}(h:Rl w0 N aj ρ σ a w)(hm:σ.m r=some (.aB cs))(Z:dQ w w0.heap.size aj ρ xs us)(hj:j+xs.length <= cs.length):
  ∃b off,ρ r = .aB b off/\w.there b (off+j) us.size/\Rl w0 N aj ρ ⟨σ.t,bW σ.m r (some (.aB (splice cs j xs)))⟩ a (w.setCells b (off+j) us.toList):=by
 have L:=h.root r _ hm;generalize D:aY.aB cs=x at L;cases L with
 |sl=>cases D
 |mp=>cases D
 |gh=>cases D
 | aB b off cells e eV u dj hl Q hs hc=>
  injection D with D;subst D;have hlen:us.size=xs.length:=Z.1;have lR:off+j+us.toList.length <= cells.size:=by rw[lM,hlen];omega
  have E:=MS w b (off+j) us.toList;obtain⟨O,gX,nE⟩:=F9 b e us.toList (off+j) w cells Q lR;have J:qV w (w.setCells b (off+j) us.toList) aj ρ:=by
   intro k ad v ha T gi;obtain⟨j',i',s',q,rfl,hq,_,_,hh'⟩:=vY k ad ha;have eI:ad.block≠b:=by
    intro e
    grind
   exact(kf (E.block _ eI)).trans T
  refine⟨b,off,dj,λn hn=>⟨?_,frozen_of_row w b _ cells e Q⟩,h.wrote E hl J λr' y I=>?_⟩
  ·rw[cell_of_row w b _ cells e _ Q];simp;omega
  ·by_cases U:r'=r
   ·subst U;rw[ck]at I;injection I with I;subst I
    refine .aB b off O e _ (λn=>if n<j then u n else if n<j+xs.length then us.getD (n-j) undef else u n) dj hl gX ?_ λn x C=>?_
    ·rw[tf _ _ _ hj,<- lM,nE]
     grind
    ·have e2:O[off+n]?=(splice cells.toList (off+j) us.toList)[off+n]?:=by
      rw[show O[off+n]?=O.toList[off+n]? by simp,nE];rfl
     rw[e2,vZ _ _ _ (by simpa using lR)];rw[vZ _ _ _ hj]at C;by_cases Y:n<j
     ·rw[bA];simp only[Y]at C ⊢;refine⟨?_,(hc n x C).2.wrote E hl J⟩;simp_all
     ·by_cases h2:n<j+xs.length
      ·rw[bM,bA (by rw[lM,hlen];omega)];simp only[Y,h2,if_true,if_false]at C ⊢;obtain⟨v,T,L⟩:=Z.2 (n-j) x C;have hg:us.getD (n-j) undef=v:=by rw[ij,T];rfl
       rw[hg];refine⟨?_,L.wrote E hl J⟩
       grind
      ·rw[bM,bM (by rw[lM];omega)];simp only[Y,h2]at C ⊢;refine⟨?_,(hc n x C).2.wrote E hl J⟩
       grind
   ·rw[cB _ _ _ U]at I;exact(h.root r' y I).wrote E hl J (Ui U)
inductive yH (m:Nat->Option aY):List Nat->V->(Nat->Option aY)->Prop
 |root (r:Nat) (y0 y:V) (h:m r=some (.sl y0)):yH m [r] y (bW m r (some (.sl y)))
 | elem (j i:Nat) (q:List Nat) (t:TC) (o:Nat) (qn:Bool) (l:List (T t)) (y:V) (e:T t) (m':Nat->Option aY) (h:uG m q (.sl t (o+2) qn l)) (hi:i<l.length) (hj:j<aF t)
   (hd:dec t o (splice (enc t o l[i]) j [y])=some e) (hp:yH m q (.sl t (o+2) qn (l.set i e)) m'):yH m (j::i::aF t::q) y m'
def Uj{α:Type}{a b c:aa α}(D:a <:+ c)(hb:b <:+ c)(h:a.length=b.length):a=b:=by
 obtain⟨x,E⟩:=D;obtain⟨y,C⟩:=hb;rw[<-E]at C;exact((List.append_inj' C h.symm).2).symm
def RV.MT{q:aa Nat}{t:TC}{o:Nat}{O:Bool}{l:aa (T t)}{i j:Nat}{xs:aa V}{e:T t}{b cap:Nat}{cs eV:Array Value}{u us:Nat -> Nat -> Value}
  (hl:aj b=some q) (hh:w'.heap[b]?=some (.cells eV (tid t) (0,0))) (hs:eV.size=cap*aF t) (hn:l.length <= cap) (Y:cap <= maxLen/\(O=true -> cap=l.length)) (hi:i<l.length) (hj:j+xs.length <= aF t)
  (hd:dec t o (splice (enc t o l[i]) j xs)=some e)
  (Z:∀D (h:D<l.length) (C:Nat) x,(enc t o l[D])[C]?=some x -> ¬ (D=i/\j <= C/\C<j+xs.length) -> eV[D*aF t+C]?=some (u D C)/\RV w' B aj (C::D::aF t::q) x (u D C))
  (hx:∀(n:Nat) x,xs[n]?=some x -> eV[i*aF t+(j+n)]?=some (us i (j+n))/\RV w' B aj ((j+n)::i::aF t::q) x (us i (j+n))):
  RV w' B aj q (.sl t (o+2) O (l.set i e)) (.slice (some ⟨b,0,none⟩) l.length cap):=by
 have hlen:(l.set i e).length=l.length:=jk;have key:∀ D (h:D<(l.set i e).length) (C:Nat) x,(enc t o (l.set i e)[D])[C]?=some x ->
   ∃v,eV[D*aF t+C]?=some v/\RV w' B aj (C::D::aF t::q) x v:=by
  intro D h C x I;rw[List.getElem_set]at I;by_cases hii:i=D
  ·subst hii;rw[bA rfl]at I;have hk:=lQ t o _ e hd;have r8:C<(enc t o e).length:=(dW.1 I).1;rw[<- hk.1]at r8;have E:=bX r8;generalize (splice (enc t o l[i]) j xs)[C]=y at E;have Q:=hk.2 C y x E I;rw[vZ _ _ _ (by rw[ku];exact hj)]at E;by_cases U:C<j
   ·rw[bA U]at E;obtain⟨J,L⟩:=Z i hi C y E (by omega);exact⟨_,J,L.wk Q⟩
   ·by_cases h2:C<j+xs.length
    ·rw[bM U,bA h2]at E;obtain⟨J,L⟩:=hx _ y E;rw[show j+(C-j)=C by omega]at J L;exact⟨_,J,L.wk Q⟩
    ·rw[bM U,bM h2]at E;obtain⟨J,L⟩:=Z i hi C y E (by omega);exact⟨_,J,L.wk Q⟩
  ·grind
 rw[<- hlen]
 refine .own q t o O (l.set i e) b cap eV (λD C=>(eV[D*aF t+C]?).getD undef) hl hh hs (by rw[hlen];exact hn) ⟨Y.1,λh=>by rw[hlen];exact Y.2 h⟩ (λD h C x I=>?_) (λD h C x I=>?_)
 ·grind
 ·obtain⟨v,hv,hr⟩:=key D h C x I;simp_all
def aaI{r:Nat}{q:aa Nat}(h:[r] <:+ q){C:Nat}(D:[C] <:+ q):C=r:=by
 have:=Uj D h rfl;injection this
def yH.ok{q:aa Nat}{y:V}(h:yH m q y m')(U:∀ r x,m r=some x -> eF w B aj ρ r x)(L:uH w w' bt)(hl:aj bt=some kt)(O:q <:+ kt)(hC:qV w w' aj ρ){I:Value}(D:cN w aj ρ q=some I)(Y:RV w' B aj q y I):
  ∀r x,m' r=some x -> eF w' B aj ρ r x:=by
 induction h generalizing I with
 | root r y0 y h=>
  intro Q x C;by_cases J:Q=r
  ·subst J;rw[ck]at C;injection C with C;subst C;simp only[cN]at D;cases Z:ρ Q with
   |aB b off=>grind
   |cc us=>grind
   | dM v=>
    rw[Z]at D;injection D with D;subst D;exact .sl v y Z Y
  ·rw[cB _ _ _ J]at C;exact(U Q x C).wrote L hl hC (λT=>J (aaI O T))
 | elem j i q t o qn l y e m' h hi hj hd hp ih=>
  obtain⟨AR,AS,gY⟩:=h.ok U;have hqk:q <:+ kt:=List.IsSuffix.trans ⟨[j,i,aF t],rfl⟩ O;cases gY with
  |cS=>simp at hi
  |cZ=>simp at hi
  |de=>simp at hi
  |aD _ _ _ _ _ _ _ _ _ ho=>omega
  | own _ _ _ _ _ b cap cs us E hh T hn r9 hc J=>
   have eI:b≠bt:=by
    rintro rfl;rw[hl]at E;injection E with E;subst E;have:=O.length_le
    grind
   have hz:=Nat.le_of_eq L.size.symm
   refine ih hqk AS (RV.MT (us:=λ_ _=>I) (u:=us) (cs:=cs) (xs:=[y]) E ((L.block b eI).trans hh) T hn r9 hi (show j+1 <= aF t from hj) hd (λi' h' j' x C MU=>⟨hc i' h' j' x C,(J i' h' j' x C).apart hl (.inl λnG=>MU ?_) hz L.block⟩) (λn x C=>?_))
   ·have:=Uj nG O rfl
    grind
   ·cases n with
    |succ n=>simp at C
    | zero=>
     simp at C;subst C;refine⟨?_,Y⟩;rw[MR,AQ j i _ AS E]at D;have D:w.cell? ⟨b,i*aF t+j,none⟩=some I:=D;rw[cell_of_row w b _ cs _ _ hh]at D;exact D
def RV.aaJ{q:aa Nat}{x:V}{v:Value}(h:RV w B aj q x v)(C:x.plain=true):mF v=false:=by
 cases h<;>first|rfl|cases C
def RV.th{q C:aa Nat}{x:V}{v:Value}{B':Nat}{aE:bG}(h:RV w B aj q x v)(D:x.plain=true):RV w' B' aE C x v:=by
 cases h<;>first|exact .int _ _ _|exact .bool _ _|exact .str _ _|cases D
def Rl.amC{j i:Nat}{q:aa Nat}{t:TC}{o:Nat}{qn:Bool}{l:aa (T t)}{xs:aa V}{us:Array Value}{e:T t}(h:Rl w0 N aj ρ σ a w)(hg:uG σ.m q (.sl t (o+2) qn l))(hi:i<l.length)(hj:j+xs.length <= aF t)
  (hd:dec t o (splice (enc t o l[i]) j xs)=some e) (hold:∀(n:Nat) x,n<xs.length -> (enc t o l[i])[j+n]?=some x -> x.plain=true) (hxp:∀x∈xs,x.plain=true) (mG:us.size=xs.length) (hx:∀(n:Nat) x,xs[n]?=some x -> ∃u,us[n]?=some u/\RV w w0.heap.size aj [] x u)
  (hp:yH σ.m q (.sl t (o+2) qn (l.set i e)) m'):
  ∃b,addrAt w aj ρ (j::i::aF t::q)=some ⟨b,i*aF t+j,none⟩/\w.there b (i*aF t+j) us.size/\Rl w0 N aj ρ ⟨σ.t,m'⟩ a (w.setCells b (i*aF t+j) us.toList):=by
 obtain⟨AR,AS,gY⟩:=hg.ok h.root;cases gY with
 |cS=>simp at hi
 |cZ=>simp at hi
 |de=>simp at hi
 |aD _ _ _ _ _ _ _ _ _ ho=>omega
 | own _ _ _ _ _ b cap cs u L U hs hn r9 Z hr=>
  have AT:i*aF t+aF t <= cap*aF t:=by
   have:(i+1)*aF t <= cap*aF t:=iN _ (by omega);rw[iC]at this;exact this
  have lR:i*aF t+j+us.toList.length <= cs.size:=by rw[lM,mG,hs];omega
  have O:=MS w b (i*aF t+j) us.toList;obtain⟨J,gX,nE⟩:=F9 b (tid t) us.toList (i*aF t+j) w cs U lR;have tj:∀ n,J[n]?=if n<i*aF t+j then cs[n]? else if n<i*aF t+j+xs.length then us[n-(i*aF t+j)]? else cs[n]?:=by
   intro n;have e2:J[n]?=(splice cs.toList (i*aF t+j) us.toList)[n]?:=by
    rw[show J[n]?=J.toList[n]? by simp,nE];rfl
   rw[e2,vZ _ _ _ (by simpa using lR),lM,mG];simp
  have GN:J.size=cs.size:=by
   rw[<- lM,nE];have:=tf cs.toList _ us.toList (by simpa using lR)
   grind
  have hC:qV w (w.setCells b (i*aF t+j) us.toList) aj ρ:=by
   intro k ad v ha D gi;by_cases eI:ad.block=b
   ·obtain⟨I,C,s',q',rfl,GO,amD,yI,_⟩:=vY k ad ha;have sg:ad=⟨b,ad.off,none⟩:=by cases ad;simp_all
    rw[sg,cell_of_row w b _ cs _ _ U]at D;rw[sg,cell_of_row _ b _ J _ _ gX,tj];by_cases h1:ad.off<i*aF t+j
    ·rw[bA h1];exact D
    ·by_cases h2:ad.off<i*aF t+j+xs.length
     ·exfalso;have hjs:ad.off-(i*aF t+j)<xs.length:=by omega
      have v5:j+(ad.off-(i*aF t+j))<(enc t o l[i]).length:=by rw[ku];omega
      have Y:=bX v5;generalize (enc t o l[i])[j+(ad.off-(i*aF t+j))]=y at Y;have uI:=hold _ y hjs Y;have Q:=Z i hi _ y Y;rw[show i*aF t+(j+(ad.off-(i*aF t+j)))=ad.off by omega]at Q;rw[D]at Q;injection Q with Q;have:=(hr i hi _ y Y).aaJ uI;rw[<- Q,gi]at this;cases this
     ·rw[bM h1,bM h2];exact D
   ·exact(kf (O.block _ eI)).trans D
  refine⟨b,AQ j i (aF t) AS L,λn yJ=>⟨?_,frozen_of_row w b _ cs _ U⟩,h.wrote O L hC (hp.ok h.root O L (List.suffix_refl _) hC AS ?_)⟩
  ·rw[cell_of_row w b _ cs _ _ U];simp;omega
  ·refine RV.MT (u:=u) (us:=λ_ n=>us.getD (n-j) undef) (cs:=cs) (xs:=xs) L gX (GN.trans hs) hn r9 hi hj hd (λC h' I x E MU=>?_) (λn x E=>?_)
   ·have r8:I<aF t:=by have:=(dW.1 E).1;rwa [ku]at this
    refine⟨?_,(hr C h' I x E).apart L (.inl λnG=>?_) (Nat.le_of_eq O.size.symm) O.block⟩
    ·rw[tj];have AU:¬ (¬ C*aF t+I<i*aF t+j/\C*aF t+I<i*aF t+j+xs.length):=by
      rintro⟨h1,h2⟩;rcases Nat.lt_trichotomy C i with ei|heq|DA
      ·have:(C+1)*aF t <= i*aF t:=iN _ ei;rw[iC]at this;omega
      ·subst heq
       grind
      ·have:(i+1)*aF t <= C*aF t:=iN _ DA;rw[iC]at this;omega
     split
     ·exact Z C h' I x E
     ·rw[bM];exact Z C h' I x E
    ·have:=nG.length_le;simp at this;omega
   ·obtain⟨v,D,AV⟩:=hx n x E;have yJ:n<xs.length:=(dW.1 E).1;have DB:us.getD (j+n-j) undef=v:=by rw[show j+n-j=n by omega,ij,D];rfl
    rw[DB,tj,bM,bA];refine⟨?_,AV.th (hxp x (fT E))⟩;rw[show i*aF t+(j+n)-(i*aF t+j)=n by omega];exact D
end
def Uk:Value->A
 |.bool b=>.lf (.v (.bool b))
 |.int k n=>.lf (.v (.int k n))
 |.string s=>.lf (.v (.str s))
 |.slice none 0 0=>.lf (.v .nil)
 |_=>.undef
def aI(σ:S):Operand->A
 |.tmp t=>σ.t t
 |.const v=>Uk v
 |.func f=>.fn f []
 |.global _=>.undef
def iu{X:Type}(N:Nat)(σ:S)(C:ah Tmp)(x:A)(k:S->ah X):ah X:=
 match C with
 |none=>k σ
 |some d=>bif Nat.blt d N then k (σ.set d x)else none
def lS(P:Program)(w0:Wd)(N:Nat)(o:Oper)(σ D:S):Prop:=
 ∀a w K Q,R w0 N σ a w->(∀C w',R w0 N D C w'->K C w')->o.wp P a w K Q
section
variable {P:Program} {w:World} {w0:Wd} {B N:Nat} {aj:bG} {ρ:Nat->Loc} {σ:S} {a:Act} {X:Type} {r:X} {k:S->ah X} {o:Oper}
def amE(v:Value):RA w B aj ρ (Uk v) v:=by
 unfold Uk;split
 ·exact⟨rfl,.bool _ _⟩
 ·exact⟨rfl,.int _ _ _⟩
 ·exact⟨rfl,.str _ _⟩
 ·exact⟨rfl,.nil _⟩
 ·trivial
def Rl.aI(h:Rl w0 N aj ρ σ a w)(x:Operand):RA w w0.heap.size aj ρ (aI σ x) (a.eval x):=by
 cases x with
 |tmp t=>exact h.tmp t
 |const v=>exact amE v
 |func f=>exact⟨#[],rfl,rfl,by simp⟩
 |global g=>trivial
def lS.val{x:A}(C:iu N σ o.dst x k=some r)(h:∀ aj ρ a w,Rl w0 N aj ρ σ a w -> ∃ v,(execOp a.eval o).run P w = .ok (.value v) w/\RA w w0.heap.size aj ρ x v):∃ J,k J=some r/\lS P w0 N o σ J:=by
 unfold iu at C;split at C
 ·rename_i D
  refine⟨σ,C,λa w K Q hR E=>?_⟩
  obtain⟨aj,ρ,hl⟩:=hR;obtain⟨v,I,L⟩:=h aj ρ a w hl;unfold Oper.wp;rw[I,Oper.upon_value,D];exact E _ _ ⟨aj,ρ,hl⟩
 ·rename_i d D;cases O:Nat.blt d N with
  |false=>simp_all
  | true=>
   rw[O]at C
   refine⟨_,C,λa w K Q hR E=>?_⟩
   obtain⟨aj,ρ,hl⟩:=hR;obtain⟨v,I,L⟩:=h aj ρ a w hl;unfold Oper.wp;rw[I,Oper.upon_value,D];exact E _ _ ⟨aj,ρ,hl.set L (by have:=cL O;omega)⟩
/-! Contents of leaves. -/
def gz{X:Type}(m:Nat->ah aY):aa Nat->(V->ah X)->ah X
 | [r],k=>match m r with
  |some (.sl y)=>k y
  |_=>none
 | j :: i :: s :: q,k=>gz m q λy=>match y with
  |.sl t (o+2) _ l=>if s=aF t then (if h:i<l.length then (match (enc t o l[i])[j]? with|some z=>k z|none=>none)else none)else none
  |_=>none
 |_,_=>none
def sj{m:Nat -> ah aY}:∀ (q:aa Nat) (k:V -> ah X),gz m q k=some r -> ∃ y,uG m q y/\k y=some r
 |[],_,h=>by simp[gz]at h
 | [x],k,h=>by
  simp only[gz]at h;split at h
  next y D=>exact⟨y,.root x y D,h⟩
  ·cases h
 | j :: i :: s :: q,k,h=>by
  obtain⟨y,D,C⟩:=sj q _ h;clear h;split at C
  ·split at C
   ·rename_i E;subst E;split at C
    ·rename_i hi;split at C
     next z I=>exact⟨z,.elem j i q _ _ _ _ z D hi I,C⟩
     ·cases C
    ·cases C
   ·cases C
  ·cases C
def iF{X:Type}(σ:S)(x:Lf)(k:V->ah X):ah X:=
 match x with
 |.v y=>k y
 |.own q=>gz σ.m q k
 |.dead=>none
def RV.part{q:aa Nat}{C:TC}{g:Nat}{O:Bool}{xs:aa (T C)}{A:ah Addr}{n c a h:Nat}(J:RV w B aj q (.sl C g O xs) (.slice A n c))(I:g<2)(h1:a <= h)(D:h <= xs.length):RV w B aj q (.sl C g false ((xs.take h).drop a)) (sliced A a h c (aF C))/\n=xs.length/\xs.length <= c:=by
 have hlen:((xs.take h).drop a).length=h-a:=by simp;omega
 cases J with
 | cS=>
  have:a=0:=by simp at D;omega
  have:h=0:=by simpa using D
  subst_vars
  exact⟨.cS _ _ _,rfl,eK _⟩
 | cZ=>
  have:h=0:=by simpa using D
  subst this;have:a=0:=by omega
  subst this;exact⟨by unfold sliced;split<;>exact .cZ _ _ _ _ _ I,rfl,Nat.zero_le _⟩
 | de=>
  have:h=0:=by simpa using D
  subst this;have:a=0:=by omega
  subst this;exact⟨by unfold sliced;split<;>exact .cZ _ _ _ _ _ I,rfl,Nat.zero_le _⟩
 |own=>omega
 | aD _ _ _ _ _ b off cap u Q hl hb hB U Y J=>
  refine⟨?_,rfl,U⟩;by_cases Z:a=h
  ·subst Z;have e0:=List.eq_nil_of_length_eq_zero (by rw[hlen];omega);rw[e0];unfold sliced;rw[Nat.sub_self];split<;>exact .cZ _ _ _ _ _ I
  ·unfold sliced;rw[bM,<- hlen];have My:(some (⟨b,off,none⟩:Addr)).map (·.add (a*aF C))=some ⟨b,off+a*aF C,none⟩:=by
    simp;unfold Addr.add;simp_all
   rw[My];have L:∀ i (hi:i<((xs.take h).drop a).length),((xs.take h).drop a)[i]=xs[a+i]'(by omega):=by
    intro i hi;simp_all
   refine .aD _ _ _ _ _ b (off+a*aF C) (c-a) (λi j=>u (a+i) j) Q hl hb hB (by omega) (λi hi j x E=>?_) (λi hi j x E=>?_)
   ·rw[L]at E;have:=Y _ _ j x E
    grind
   ·rw[L i]at E
    grind
def aaK(s i j:Nat):V->ah V
 |.sl t _ _ l=>bif Nat.beq s (aF t)then some (.sl t 0 false ((l.take j).drop i))else none
 |_=>none
def tq{X:Type}(σ:S)(q:aa Nat)(s i j:Nat)(k:V->ah X):ah X:=
 gz σ.m q λy=>match aaK s i j y with
  |some z=>k z
  |none=>none
def qa{X:Type}(σ:S)(y:A)(k:V->ah X):ah X:=
 match y with
 |.lf l=>iF σ l k
 |.view q s i j=>tq σ q s i j k
 |_=>none
def aaL{q:aa Nat}{s i j:Nat}{k:V -> ah X}(h:tq σ q s i j k=some r):∃ z,k z=some r/\z.aD=true /\ ∀ w0 N aj ρ a w,Rl w0 N aj ρ σ a w -> ∀ u,RA w w0.heap.size aj ρ (.view q s i j) u -> ∀ B',RV w B' (λ_=>none) [] z u:=by
 obtain⟨y,L,E⟩:=sj q _ h;clear h;split at E
 ·rename_i z C;unfold aaK at C;split at C
  ·rename_i t g O l;cases I:Nat.beq s (aF t)with
   |false=>simp_all
   | true=>
    rw[I,ak]at C;obtain rfl:=cD I;injection C with C;subst C
    refine⟨_,E,rfl,λw0 N aj ρ a w hR u Q B'=>?_⟩
    obtain⟨A,n,c,T,U,Z,rfl⟩:=Q;obtain⟨v,D,Y⟩:=L.ok hR.root;rw[T]at D;injection D with D;subst D;have J:RV w B' (λ_=>none) [] (.sl t 0 O l) (.slice A n c):=Y.gy;have hn:n=l.length:=by cases J<;>rfl
    exact(J.part (by omega) U (by omega)).1
  ·cases C
 ·cases E
def vK{X:Type}(x:A)(k:V->ah X):ah X:=
 match x with
 |.lf (.v y)=>k y
 |_=>none
def MV{x:A}{k:V -> ah X}(h:vK x k=some r):∃ y,x = .lf (.v y)/\k y=some r:=by
 unfold vK at h
 grind
def RV.gE{q:aa Nat}{k:IntKind}{n:Int}{u:Value}(h:RV w B aj q (.int k n) u):u = .int k n:=by cases h;rfl
def RV.yK{q:aa Nat}{n:Bool}{u:Value}(h:RV w B aj q (.bool n) u):u = .bool n:=by cases h;rfl
def RV.v7{q:aa Nat}{n:ByteArray}{u:Value}(h:RV w B aj q (.str n) u):u = .string n:=by cases h;rfl
/-! Arithmetic and comparison. -/
def bC(n:Nat):Bool:=decide (n<1073741824)
def nH{X:Type}(P:Program)(ty:TypeId)(op:BinOp)(x y:V)(k:V->ah X):ah X:=
 match x,y with
 | .int C a,.int D b=>match op with
  |.shl=>if b<0 then none else k (.int C (C.wrap (a*2 ^ (min b.toNat C.bits))))
  |.shr=>if b<0 then none else k (.int C (a.fdiv (2 ^ (min b.toNat C.bits))))
  | op=>if C=D then (match op with
   |.add=>k (.int C (C.wrap (a+b)))
   |.sub=>k (.int C (C.wrap (a-b)))
   |.mul=>k (.int C (C.wrap (a*b)))
   |.quo=>if b=0 then none else k (.int C (C.wrap (a.tdiv b)))
   |.rem=>if b=0 then none else k (.int C (a.tmod b))
   |.and=>k (.int C (bits .and C a b))
   |.or=>k (.int C (bits .or C a b))
   |.xor=>k (.int C (bits .xor C a b))
   |.andNot=>k (.int C (bits .andNot C a b))
   |.eql=>k (.bool (a==b))
   |.neq=>k (.bool (a != b))
   |.lss=>k (.bool (decide (a<b)))
   |.leq=>k (.bool (decide (a<=b)))
   |.gtr=>k (.bool (decide (a > b)))
   |.geq=>k (.bool (decide (a >= b)))
   |_=>none)else none
 | .bool a,.bool b=>match P.underlying ty with
  | some .bool=>(match op with
   |.eql=>k (.bool (a==b))
   |.neq=>k (.bool (!(a==b)))
   |_=>none)
  |_=>none
 | .str a,.str b=>match op with
  |.add=>bif bC (a.size+b.size)then k (.str (a++b))else none
  |.eql=>k (.bool (a.toList==b.toList))
  |.neq=>k (.bool (!(a.toList==b.toList)))
  |_=>none
 |_,_=>none
def amF{ty:TypeId}{op:BinOp}{x y:V}{k:V -> ah X}(h:nH P ty op x y k=some r):∃ z,k z=some r/\z.plain=true /\ ∀ (w:World) (B:Nat) (aj:bG) (E I:Operand) (q J:aa Nat) (u v:Value),RV w B aj q x u -> RV w B aj J y v ->
  ∃t,(do eqGuard op ty E I u v;binOp op ty u v:Sem Value).run P w = .ok t w/\RV w B aj [] z t:=by
 unfold nH at h;split at h
 ·rename_i Z a ky b;split at h
  ·split at h
   ·cases h
   ·rename_i hb
    refine⟨_,h,rfl,λw B aj E I q J u v C D=>?_⟩
    obtain rfl:=C.gE;obtain rfl:=D.gE;exact⟨_,by simp[eqGuard,binOp,Op.shift,hb],.int _ _ _⟩
  ·split at h
   ·cases h
   ·rename_i hb
    refine⟨_,h,rfl,λw B aj E I q J u v C D=>?_⟩
    obtain rfl:=C.gE;obtain rfl:=D.gE;exact⟨_,by simp[eqGuard,binOp,Op.shift,hb],.int _ _ _⟩
  ·rename_i Q T;split at h
   ·rename_i U;subst U;cases op
    case shl=>exact absurd rfl Q
    case shr=>exact absurd rfl T
    case quo=>
     by_cases hb:b=0
     ·simp only[hb,if_true]at h;cases h
     ·simp[hb]at h
      refine⟨_,h,rfl,λw B aj E I q J u v C D=>?_⟩
      obtain rfl:=C.gE;obtain rfl:=D.gE;exact⟨_,by simp[eqGuard,binOp,Op.intDiv,hb],.int _ _ _⟩
    case rem=>
     by_cases hb:b=0
     ·simp only[hb,if_true]at h;cases h
     ·simp[hb]at h
      refine⟨_,h,rfl,λw B aj E I q J u v C D=>?_⟩
      obtain rfl:=C.gE;obtain rfl:=D.gE;exact⟨_,by simp[eqGuard,binOp,Op.intDiv,hb],.int _ _ _⟩
    all_goals first
     | (refine⟨_,h,rfl,λw B aj E I q J u v C D=>?_⟩
        obtain rfl:=C.gE;obtain rfl:=D.gE
        first
         |(refine⟨_,?_,.int _ _ _⟩;simp[eqGuard,binOp,Op.intArith];done)
         |(refine⟨_,?_,.int _ _ _⟩;simp[eqGuard,binOp,intBits_and,intBits_or,intBits_xor,intBits_andNot];done)
         |(refine⟨_,?_,.bool _ _⟩;simp[eqGuard,binOp,Op.intCmp];done))
     |cases h
   ·cases h
 ·rename_i a b;split at h
  ·rename_i O;split at h
   ·refine⟨_,h,rfl,λw B aj E I q J u v C D=>?_⟩
    obtain rfl:=C.yK;obtain rfl:=D.yK;have e:binOp .eql ty (.bool a) (.bool b)=(do pure (.bool (<- Op.equal ty (.bool a) (.bool b)))):=rfl;have g:eqGuard .eql ty E I (.bool a) (.bool b)=pure ():=rfl;exact⟨_,by rw[e,g,fm,Sem.run_pure,ki,fm,run_equal_bool _ _ _ _ O];rfl,.bool _ _⟩
   ·refine⟨_,h,rfl,λw B aj E I q J u v C D=>?_⟩
    obtain rfl:=C.yK;obtain rfl:=D.yK;have e:binOp .neq ty (.bool a) (.bool b)=(do pure (.bool (!(<- Op.equal ty (.bool a) (.bool b))))):=rfl;have g:eqGuard .neq ty E I (.bool a) (.bool b)=pure ():=rfl;exact⟨_,by rw[e,g,fm,Sem.run_pure,ki,fm,run_equal_bool _ _ _ _ O];rfl,.bool _ _⟩
   ·cases h
  ·cases h
 ·rename_i a b;split at h
  ·cases L:bC (a.size+b.size)with
   |false=>rw[L]at h;cases h
   | true=>
    rw[L]at h
    refine⟨_,h,rfl,λw B aj E I q J u v C D=>?_⟩
    obtain rfl:=C.v7;obtain rfl:=D.v7;have hL':a.size+b.size<1073741824:=by simpa [bC]using L
    refine⟨_,?_,.str _ _⟩;have Y:IntKind.i64.max=9223372036854775807:=rfl;simp only[eqGuard,binOp,Op.stringOp,Y];simp;omega
  ·refine⟨_,h,rfl,λw B aj E I q J u v C D=>?_⟩
   obtain rfl:=C.v7;obtain rfl:=D.v7;exact⟨_,by simp[eqGuard,binOp,Op.stringOp],.bool _ _⟩
  ·refine⟨_,h,rfl,λw B aj E I q J u v C D=>?_⟩
   obtain rfl:=C.v7;obtain rfl:=D.v7;exact⟨_,by simp[eqGuard,binOp,Op.stringOp],.bool _ _⟩
  ·cases h
 ·cases h
def DC{X:Type}(op:UnOp)(x:V)(k:V->ah X):ah X:=
 match op,x with
 |.not,.bool b=>k (.bool (!b))
 |.neg,.int C n=>k (.int C (C.wrap (0-n)))
 |_,_=>none
def amG{op:UnOp}{x:V}{k:V->ah X}(h:DC op x k=some r):∃ z,k z=some r/\z.plain=true/\∀ (w:World) (B:Nat) (aj:bG) (q:aa Nat) (u:Value),RV w B aj q x u->∃ t,(Op.unary op u).run P w = .ok t w/\RV w B aj [] z t:=by
 unfold DC at h;split at h
 ·refine⟨_,h,rfl,λw B aj q u C=>?_⟩
  obtain rfl:=C.yK;exact⟨_,by simp[Op.unary],.bool _ _⟩
 ·refine⟨_,h,rfl,λw B aj q u C=>?_⟩
  obtain rfl:=C.gE;exact⟨_,by simp[Op.unary,Op.intArith],.int _ _ _⟩
 ·cases h
def V.GP{x:V}(h:x.plain=true):x.aD=true:=by cases x<;>first|rfl|cases h
end
def jm(P:Program)(t:TypeId):ah Nat:=(P.info? t).map (·.size)
def DD(P:Program)(t:TypeId):ah Bool:=
 match P.underlying t with
 |some (.struct _)|some (.array _ _)=>some true
 |some _=>some false
 |none=>none
def qb(P:Program)(t:TypeId):ah TypeId:=
 match P.underlying t with
 |some (.slice e)=>some e
 |_=>none
def GQ(P:Program)(s:TypeId)(f:Nat):ah Field:=
 match P.underlying s with
 |some (.struct C)=>C[f]?
 |_=>none
def kY{X:Type}(P:Program)(t:TypeId)(cs:aa Lf)(k:A->ah X):ah X:=
 match jm P t with
 | some n=>if cs.length=n then (match DD P t with
  |some true=>k (.agg cs)
  | some false=>(match cs with
   |[y]=>k (.lf y)
   |_=>none)
  |none=>none)else none
 |none=>none
def leaves(key:Nat->aa Nat):Nat->aa V->aa Lf
 |_,[]=>[]
 |j,z::C=>(bif z.aD then .v z else .own (key j))::leaves key (j+1) C
def jn{X:Type}(P:Program)(σ:S)(t:TypeId)(x:A)(k:A->ah X):ah X:=
 match jm P t with
 |none=>none
 | some n=>match x with
  | .aG r j=>(match σ.m r with
   |some (.aB cs)=>kY P t ((cs.drop j).take n) k
   |_=>none)
  |.gW cs=>kY P t ((cs.take n).map .v) k
  | .ptr (j :: i :: s :: q)=>gz σ.m q λy=>(match y with
   |.sl C (o+2) _ l=>if s=aF C then (if h:i<l.length then kY P t (leaves (λD=>D::i::s::q) j (((enc C o l[i]).drop j).take n)) k else none)else none
   |_=>none)
  |_=>none
section
variable {P:Program} {w:World} {w0:Wd} {B N:Nat} {aj:bG} {ρ:Nat->Loc} {σ:S} {a:Act} {X:Type} {r:X} {o:Oper}
def aaM(key:Nat -> aa Nat):∀ (j:Nat) (C:aa V) (n:Nat),(leaves key j C)[n]?=(C[n]?).map λz=>bif z.aD then .v z else .own (key (j+n))
 |_,[],n=>by simp[leaves]
 |j,z::C,0=>by simp[leaves]
 | j,z :: C,n+1=>by
  simp[leaves,List.getElem?_cons_succ,aaM]
  grind
def Ul{t:TypeId}{cs:aa Lf}{k:A -> ah X}(h:kY P t cs k=some r):∃ x,k x=some r /\ ∀ (w:World) (B:Nat) (aj:bG) (ρ:Nat -> Loc) (b o:Nat) (D:aa Value),dQ w B aj ρ cs D.toArray -> w.rangeAt b o D ->
  ∃v,(Instr.loadAt t (.pointer (some ⟨b,o,none⟩))).run P w = .ok v w/\RA w B aj ρ x v:=by
 unfold kY at h;split at h
 ·rename_i n L;split at h
  ·rename_i hlen;split at h
   ·rename_i C
    refine⟨_,h,λw B aj ρ b o D hl I=>?_⟩
    have J:D.length=n:=by have:=hl.1;simpa [hlen]using this
    unfold DD at C;split at C
    next T E=>exact⟨_,run_loadAt_mid w b o t D _ I E rfl (by rw[J];exact L),_,rfl,hl⟩
    next c e E=>exact⟨_,run_loadAt_mid w b o t D _ I E rfl (by rw[J];exact L),_,rfl,hl⟩
    ·cases C
    ·cases C
   ·rename_i C;split at h
    ·rename_i y
     refine⟨_,h,λw B aj ρ b o D hl I=>?_⟩
     have J:D.length=1:=by have:=hl.1;simpa using this
     obtain⟨v,rfl⟩:=List.length_eq_one_iff.1 J;have O:w.cell? ⟨b,o,none⟩=some v:=I 0 v rfl;obtain⟨u,E,hR⟩:=hl.2 0 y rfl;have:v=u:=by simpa using E
     subst this;refine⟨v,?_,hR⟩;unfold DD at C;split at C
     ·cases C
     ·cases C
     ·rename_i d U Y E;have Q:(isAgg t).run P w = .ok false w:=by
       unfold isAgg;rw[fm,gJ E];simp_all
      simp[Instr.loadAt,Instr.sureAddr,loadVar,fm,Q,load,Sem.run,O]
     ·cases C
    ·cases h
   ·cases h
  ·cases h
 ·cases h
def MW{α:Type}(l:aa α)(j n i:Nat)(x:α)(h:((l.drop j).take n)[i]?=some x):i<n/\l[j+i]?=some x:=by grind
def aaN{t:TypeId}{x:A}{k:A -> ah X}(h:jn P σ t x k=some r):∃ y,k y=some r /\ ∀ aj ρ a w,Rl w0 N aj ρ σ a w -> ∀ u,RA w w0.heap.size aj ρ x u ->
  ∃v,(Instr.loadAt t u).run P w = .ok v w/\RA w w0.heap.size aj ρ y v:=by
 unfold jn at h;split at h
 ·cases h
 ·rename_i n hn;split at h
  ·rename_i r' j;split at h
   ·rename_i cs jN;obtain⟨y,Q,T⟩:=Ul h
    refine⟨y,Q,λaj ρ a w hR u U=>?_⟩
    obtain⟨b,off,dj,rfl⟩:=U;have J:=hR.root r' _ jN;generalize O:aY.aB cs=x at J;cases J with
    |sl=>cases O
    |mp=>cases O
    |gh=>cases O
    | aB b' AX cells e eV us mH hl hh hs hc=>
     injection O with O;subst O;rw[dj]at mH;injection mH with e1 e2;subst e1 e2
     refine T w _ aj ρ b (off+j) (((cs.drop j).take n).mapIdx λi _=>us (j+i)) ⟨by simp,λi x C=>?_⟩ (λi v D=>?_)
     ·obtain⟨hi,qW⟩:=MW _ _ _ _ _ C;simp_all
     ·rw[List.getElem?_mapIdx]at D;cases C:((cs.drop j).take n)[i]? with
      |none=>rw[C]at D;cases D
      | some x=>
       rw[C]at D;injection D with D;subst D;obtain⟨hi,qW⟩:=MW _ _ _ _ _ C;rw[cell_of_row w b _ cells _ _ hh,Nat.add_assoc];simp_all
   ·cases h
  ·rename_i cs;obtain⟨y,Q,T⟩:=Ul h
   refine⟨y,Q,λaj ρ a w hR u U=>?_⟩
   obtain⟨b,off,rfl,hb,hl,hc⟩:=U;have uJ:∀ (i:Nat) (x:Lf),((cs.take n).map Lf.v)[i]?=some x -> ∃ z v,x = .v z/\z.aD=true/\w.cell? ⟨b,off+i,none⟩=some v/\RV w w0.heap.size aj [] z v:=by
    intro i x C;rw[dz]at C;cases I:(cs.take n)[i]? with
    |none=>rw[I]at C;cases C
    | some z=>
     rw[I]at C;injection C with C;rw[List.getElem?_take]at I;split at I
     ·obtain⟨sk,v,D,J⟩:=hc i z I
      grind
     ·cases I
   refine T w _ aj ρ b off (((cs.take n).map Lf.v).mapIdx λi _=>(w.cell? ⟨b,off+i,none⟩).getD undef) ⟨by simp,λi x C=>?_⟩ (λi v D=>?_)
   ·obtain⟨z,v,rfl,sk,D,J⟩:=uJ i x C;refine⟨v,?_,sk,J⟩;simp_all
   ·rw[List.getElem?_mapIdx]at D;cases C:((cs.take n).map Lf.v)[i]? with
    |none=>rw[C]at D;cases D
    |some x =>grind
  ·rename_i j i s q;obtain⟨y0,hg,L⟩:=sj _ _ h;clear h;split at L
   ·rename_i E o' qn l;split at L
    ·rename_i hs;subst hs;split at L
     ·rename_i hi;obtain⟨y,Q,T⟩:=Ul L
      refine⟨y,Q,λaj ρ a w hR u U=>?_⟩
      obtain⟨ad,rfl,sg⟩:=U;obtain⟨D,mI,nI⟩:=hg.ok hR.root;cases nI with
      |cS=>simp at hi
      |cZ=>simp at hi
      |de=>simp at hi
      |aD _ _ _ _ _ _ _ _ _ ho=>omega
      | own _ _ _ _ _ b cap cs us qc hh hs hn r9 hc J=>
       rw[AQ j i (aF E) mI qc]at sg;injection sg with sg;subst sg;have uJ:∀ (m:Nat) (x:Lf),(leaves (λY=>Y :: i :: aF E :: q) j (((enc E o' l[i]).drop j).take n))[m]?=some x -> cs[i*aF E+(j+m)]?=some (us i (j+m))/\dA w w0.heap.size aj ρ x (us i (j+m)):=by
        intro m x C;rw[aaM]at C;cases I:(((enc E o' l[i]).drop j).take n)[m]? with
        |none=>rw[I]at C;cases C
        | some z=>
         rw[I]at C;injection C with C;have C:(bif z.aD then Lf.v z else Lf.own ((j+m)::i::aF E::q))=x:=C;obtain⟨_,DE⟩:=MW _ _ _ _ _ I;have h3:=hc i hi _ z DE;have h4:=J i hi _ z DE;refine⟨h3,?_⟩;cases Z:z.aD with
         | true=>
          rw[Z]at C;subst C;exact⟨Z,h4.key Z⟩
         | false=>
          rw[Z]at C;have C:Lf.own ((j+m)::i::aF E::q)=x:=C;subst C;refine⟨?_,?_⟩
          ·exact h4.Uc Z
          ·rw[MR,AQ _ i _ mI qc];show w.cell? _=_;rw[cell_of_row w b _ cs _ _ hh];exact h3
       refine T w _ aj ρ b (i*aF E+j) ((leaves (λY=>Y::i::aF E::q) j (((enc E o' l[i]).drop j).take n)).mapIdx λm _=>us i (j+m)) ⟨by simp,λm x C=>?_⟩ (λm v D=>?_)
       ·simp[*]
       ·rw[List.getElem?_mapIdx]at D;cases C:(leaves (λY=>Y :: i :: aF E :: q) j (((enc E o' l[i]).drop j).take n))[m]? with
        |none=>rw[C]at D;cases D
        | some x=>
         rw[C]at D;injection D with D;subst D;rw[cell_of_row w b _ cs _ _ hh,Nat.add_assoc];simp_all
     ·cases L
    ·cases L
   ·cases L
  ·cases h
end
def A.yL:A->ah (aa Lf)
 |.lf x=>some [x]
 |.agg xs=>some xs
 |_=>none
def Lf.live:Lf->Bool
 |.dead=>false
 |_=>true
def Lf.pl:Lf->ah V
 |.v x=>bif x.plain then some x else none
 |_=>none
def qX:aa Lf->ah (aa V)
 |[]=>some []
 | x :: xs=>match x.pl,qX xs with
  |some y,some ys=>some (y::ys)
  |_,_=>none
def qd{X:Type}(m:Nat->ah aY):aa Nat->V->((Nat->ah aY)->ah X)->ah X
 | [r],y,k=>match m r with
  |some (.sl _)=>k (bW m r (some (.sl y)))
  |_=>none
 | j :: i :: s :: q,y,k=>gz m q λz=>match z with
  | .sl t (o+2) C l=>if s=aF t then (if h:i<l.length then (if j<aF t then (match dec t o (splice (enc t o l[i]) j [y])with
   |some e=>qd m q (.sl t (o+2) C (l.set i e)) k
   |none=>none)else none)else none)else none
  |_=>none
 |_,_,_=>none
def nJ{X:Type}(P:Program)(σ:S)(t:TypeId)(x y:A)(k:S->ah X):ah X:=
 match jm P t,y.yL with
 | some n,some xs=>if xs.length=n then (match x with
  | .aG r j=>(match σ.m r with
   |some (.aB cs)=>if j+n<=cs.length then (bif xs.all Lf.live then k ⟨σ.t,bW σ.m r (some (.aB (splice cs j xs)))⟩else none)else none
   |_=>none)
  | .ptr (j :: i :: s :: q)=>(match qX xs with
   |none=>none
   | some D=>gz σ.m q λy=>(match y with
    | .sl C (o+2) E l=>if s=aF C then (if h:i<l.length then (if j+D.length<=aF C then (bif (((enc C o l[i]).drop j).take D.length).all V.plain then (match dec C o (splice (enc C o l[i]) j D)with
     |some e=>qd σ.m q (.sl C (o+2) E (l.set i e)) λm=>k ⟨σ.t,m⟩
     |none=>none)else none)else none)else none)else none
    |_=>none))
  |_=>none)else none
 |_,_=>none
section
variable {P:Program} {w:World} {w0:Wd} {B N:Nat} {aj:bG} {ρ:Nat->Loc} {σ:S} {a:Act} {X:Type} {r:X} {o:Oper}
def aaO{m:Nat -> ah aY}:∀ (q:aa Nat) (y:V) (k:(Nat -> ah aY) -> ah X),qd m q y k=some r -> ∃ m',yH m q y m'/\k m'=some r
 |[],_,_,h=>by simp[qd]at h
 | [x],y,k,h=>by
  simp only[qd]at h;split at h
  next D E=>exact⟨_,.root x D y E,h⟩
  ·cases h
 | j :: i :: s :: q,y,k,h=>by
  simp only[qd]at h;obtain⟨z,I,C⟩:=sj q _ h;clear h;split at C
  ·split at C
   ·rename_i J;subst J;split at C
    ·rename_i hi;split at C
     ·rename_i L;split at C
      next e O=>obtain⟨m',Q,T⟩:=aaO q _ k C;exact⟨m',.elem j i q _ _ _ _ y e m' I hi L O Q,T⟩
      ·cases C
     ·cases C
    ·cases C
   ·cases C
  ·cases C
def MX:∀ (xs:aa Lf) (C:aa V),qX xs=some C -> xs=C.map .v /\ ∀ v∈C,v.plain=true
 | [],C,h=>by
  simp[qX]at h;subst h;exact⟨rfl,by simp⟩
 | x :: xs,C,h=>by
  unfold qX at h;split at h
  ·rename_i y ys D E;injection h with h;subst h;obtain⟨I,J⟩:=MX xs ys E;have:x = .v y/\y.plain=true:=by
    cases x with
    | v z=>
     unfold Lf.pl at D
     grind
    |own q=>cases D
    |dead=>cases D
   simp_all
  ·cases h
def amH{u:Value}(h:u.oneCell'=true):u.cells = #[u]:=by cases u<;>first|rfl|cases h
def dA.one{x:Lf}{u:Value}(h:dA w B aj ρ x u)(C:x.live=true):u.oneCell'=true:=by
 cases x with
 |v z=>exact h.2.one
 | own k=>
  have:=h.1;cases u<;>first|rfl|cases this
 |dead=>cases C
def GR{y:A}{xs:aa Lf}(h:y.yL=some xs)(D:xs.all Lf.live=true){u:Value}(C:RA w B aj ρ y u):dQ w B aj ρ xs u.cells/\u.cells.all (·.oneCell')=true:=by
 have key:∀ us:Array Value,dQ w B aj ρ xs us -> us.all (·.oneCell')=true:=by
  intro us E;rw[Array.all_eq_true];intro i hi;have J:=bX (by rw[<- E.1];exact hi);obtain⟨v,I,L⟩:=E.2 i _ J;have:us[i]=v:=by rw[Array.getElem?_eq_getElem hi]at I;injection I
  rw[this];exact L.one (cI.1 D _ (cU _))
 cases y with
 | lf x=>
  injection h with h;subst h;have C:dA w B aj ρ x u:=C;have O:=C.one (by simpa using D);have:dQ w B aj ρ [x] u.cells:=by
   rw[amH O]
   refine⟨rfl,λj y Q=>?_⟩
   grind
  simp_all
 | agg T=>
  injection h with h;subst h;obtain⟨us,rfl,h⟩:=C;exact⟨h,key _ h⟩
 |_=>cases h
def Um(w:World)(b o:Nat)(ty:TypeId)(v:Value)(D:w.there b o v.cells.size)(hi:(P.info? ty).map (·.size)=some v.cells.size)(I:v.cells.all (·.oneCell')=true):
  (Instr.storeAt ty (.pointer (some ⟨b,o,none⟩)) v).run P w = .ok () (w.setCells b o v.cells.toList):=by
 have:=run_storeCells_cells (P:=P) b o v.cells.toList 0 w (λj C=>by simpa using (D j (by simpa using C)).1) (λj C=>by simpa using (D j (by simpa using C)).2)
  (λv J=>(Array.all_eq_true_iff_forall_mem.1 I) v (by simpa using J))
 cases E:P.info? ty with
 |none=>simp_all
 | some i=>
  have L:v.cells.size=i.size:=by simp[E]at hi;omega
  simp[Instr.storeAt,Instr.sureAddr,storeVar,sizeOf,typeInfo,E,L,this]
def aaP{t:TypeId}{x y:A}{k:S -> ah X}(h:nJ P σ t x y k=some r):∃ dR,k dR=some r /\ ∀ aj ρ a w,Rl w0 N aj ρ σ a w -> ∀ u v,RA w w0.heap.size aj ρ x u -> RA w w0.heap.size aj ρ y v ->
  ∃w',(Instr.storeAt t u v).run P w = .ok () w'/\Rl w0 N aj ρ dR a w':=by
 unfold nJ at h;split at h
 ·rename_i n xs hn qY;split at h
  ·rename_i hlen;split at h
   ·rename_i r' j;split at h
    ·rename_i cs jN;split at h
     ·rename_i O;cases I:xs.all Lf.live with
      |false=>grind
      | true=>
       rw[I]at h
       refine⟨_,h,λaj ρ a w hR u v Q T=>?_⟩
       obtain⟨b,off,dj,rfl⟩:=Q;obtain⟨hl,U⟩:=GR qY I T;obtain⟨b',AX,mH,Y,Z⟩:=hR.GM jN hl (by rw[hlen];exact O);rw[dj]at mH;injection mH with e1 e2;subst e1 e2;exact⟨_,Um w b (off+j) t v Y (by rw[hl.1,hlen];exact hn) U,Z⟩
     ·cases h
    ·cases h
   ·rename_i j i s q;split at h
    ·cases h
    ·rename_i E lT;obtain⟨y0,hg,C⟩:=sj _ _ h;clear h;split at C
     ·rename_i t' o' qn l;split at C
      ·rename_i hs;subst hs;split at C
       ·rename_i hi;split at C
        ·rename_i O;cases hold:(((enc t' o' l[i]).drop j).take E.length).all V.plain with
         |false=>grind
         | true=>
          rw[hold,ak]at C;split at C
          ·rename_i e he;obtain⟨m',sn,h3⟩:=aaO q _ _ C
           refine⟨_,h3,λaj ρ a w hR u v Q T=>?_⟩
           obtain⟨ad,rfl,sg⟩:=Q;obtain⟨J,MY⟩:=MX xs E lT;have I:xs.all Lf.live=true:=by rw[J];simp[Lf.live]
           obtain⟨hl,U⟩:=GR qY I T;have AY:E.length=n:=by rw[<- hlen,J,dB]
           have q1:∀ (D:Nat) x,D<E.length -> (enc t' o' l[i])[j+D]?=some x -> x.plain=true:=by
            intro D x yJ hx;refine cI.1 hold x (fT (i:=D) ?_);simp_all
           have q2:∀ (D:Nat) x,E[D]?=some x -> ∃ L,v.cells[D]?=some L/\RV w w0.heap.size aj [] x L:=by
            intro D x hx;obtain⟨L,uK,gY⟩:=hl.2 D (.v x) (by rw[J,dz,hx];rfl);exact⟨L,uK,gY.2⟩
           obtain⟨b,hb,Y,Z⟩:=hR.amC (xs:=E) (us:=v.cells) hg hi O he q1 MY (by rw[hl.1,J,dB]) q2 sn;rw[sg]at hb;injection hb with hb;subst hb;exact⟨_,Um w b _ t v Y (by rw[hl.1,hlen];exact hn) U,Z⟩
          ·cases C
        ·cases C
       ·cases C
      ·cases C
     ·cases C
   ·cases h
  ·cases h
 ·cases h
end
def uL{X:Type}(P:Program)(s:TypeId)(x:A)(f:Nat)(k:A->ah X):ah X:=
 match GQ P s f with
 |none=>none
 | some C=>match jm P C.type with
  | some (_+1)=>(match x with
   |.aG r j=>k (.aG r (j+C.offset))
   |.gW cs=>k (.gW (cs.drop C.offset))
   |.ptr (j::i::s::q)=>k (.ptr ((j+C.offset)::i::s::q))
   |_=>none)
  |_=>none
def oX{X:Type}(P:Program)(σ:S)(t:TypeId)(x i:A)(k:A->ah X):ah X:=
 match qb P t with
 |none=>none
 | some e=>match jm P e,i with
  | some n,.lf (.v (.int _ iv))=>(match x with
   |.lf (.v (.sl C g _ l))=>if n=aF C then (bif Nat.blt g 2 then (if h:0<=iv/\iv.toNat<l.length then k (.gW (enc C g (l[iv.toNat]'h.2)))else none)else none)else none
   | .lf (.own q)=>gz σ.m q λy=>(match y with
    |.sl C g _ l=>if n=aF C then (if h:0<=iv/\iv.toNat<l.length then (bif Nat.blt g 2 then k (.gW (enc C g (l[iv.toNat]'h.2)))else k (.ptr (0::iv.toNat::aF C::q)))else none)else none
    |_=>none)
   |_=>none)
  |_,_=>none
def qZ{X:Type}(P:Program)(σ:S)(t:TypeId)(x:A)(k:A->ah X):ah X:=
 match x with
 | .lf y=>iF σ y λz=>(match z with
  |.sl _ _ _ l=>(match P.underlying t with|some (.slice _)=>k (.lf (.v (.int .i64 (l.length:Int))))|_=>none)
  |.nil=>(match P.underlying t with|some (.slice _)=>k (.lf (.v (.int .i64 0)))|_=>none)
  |.str s=>(match P.underlying t with|some .string=>k (.lf (.v (.int .i64 (s.size:Int))))|_=>none)
  |_=>none)
 |.view _ _ i j=>(match P.underlying t with|some (.slice _)=>k (.lf (.v (.int .i64 ((j-i:Nat):Int))))|_=>none)
 |_=>none
def so:Bool×aa Lf->ah A
 |(true,cs)=>some (.agg cs)
 |(false,[y])=>some (.lf y)
 |_=>none
def v8{X:Type}(x:A)(i:Nat)(k:A->ah X):ah X:=
 match x with
 | .cR xs=>match (xs[i]?).bind so with
  |some y=>k y
  |none=>none
 |_=>none
section
variable {P:Program} {w:World} {w0:Wd} {B N:Nat} {aj:bG} {ρ:Nat->Loc} {σ:S} {a:Act} {X:Type} {r:X} {o:Oper} {w':World} {aE:bG} {ρ':Nat->Loc} {d:Nat}
def amI(n:Nat){j i s:Nat}{q:aa Nat}{ad:Addr}(h:addrAt w aj ρ (j :: i :: s :: q)=some ad):addrAt w aj ρ ((j+n) :: i :: s :: q)=some ⟨ad.block,ad.off+n,none⟩:=by
 match q,h with
 | [r],h=>
  simp[addrAt]at h ⊢;split at h
  ·grind
  ·cases h
 | x :: y :: q,h=>
  simp[addrAt]at h ⊢;split at h
  ·grind
  ·cases h
def Un(w:World)(s:TypeId)(f:Nat)(C:Field)(n b off:Nat)(D:GQ P s f=some C)(E:jm P C.type=some (n+1)):
  (Instr.fieldAt s (.pointer (some ⟨b,off,none⟩)) f).run P w = .ok (.pointer (some ⟨b,off+C.offset,none⟩)) w:=by
 unfold GQ at D;split at D
 ·rename_i L J;unfold jm at E;cases I:P.info? C.type with
  |none=>simp_all
  | some i=>
   have hi:i.size=n+1:=by simpa [I]using E
   simp[Instr.fieldAt,gJ J,D,Instr.sureAddr,fieldPlace,sizeOf,typeInfo,I,hi,Addr.add_mid]
 ·cases D
def amJ{s:TypeId}{x:A}{f:Nat}{k:A -> ah X}(h:uL P s x f k=some r):∃ y,k y=some r /\ ∀ (w:World) (B:Nat) (aj:bG) (ρ:Nat -> Loc) (u:Value),RA w B aj ρ x u ->
  ∃v,(Instr.fieldAt s u f).run P w = .ok v w/\RA w B aj ρ y v:=by
 unfold uL at h;split at h
 ·cases h
 ·rename_i D E;split at h
  ·rename_i n I;split at h
   ·rename_i T j
    refine⟨_,h,λw B aj ρ u C=>?_⟩
    obtain⟨b,off,O,rfl⟩:=C;exact⟨_,Un w s f D n b _ E I,b,off,O,by rw[Nat.add_assoc]⟩
   ·rename_i cs
    refine⟨_,h,λw B aj ρ u C=>?_⟩
    obtain⟨b,off,rfl,hb,hl,U⟩:=C
    refine⟨_,Un w s f D n b _ E I,b,_,rfl,hb,hl,λj x Y=>?_⟩
    grind
   ·rename_i j i Z q
    refine⟨_,h,λw B aj ρ u C=>?_⟩
    obtain⟨ad,rfl,J⟩:=C;have Q:=amI D.offset J;obtain⟨_,_,_,_,_,_,_,L,_⟩:=vY _ _ J;obtain⟨b,off,sp⟩:=ad;simp only at L;subst L;exact⟨_,Un w s f D n b off E I,_,rfl,Q⟩
   ·cases h
  ·cases h
def Uo(w:World)(t e:TypeId)(n b off len cap:Nat)(I:IntKind)(iv:Int)(C:qb P t=some e)(D:jm P e=some n)(J:0 <= iv)(T:iv.toNat<len):
  (Instr.indexAt t (.slice (some ⟨b,off,none⟩) len cap) (.int I iv)).run P w = .ok (.pointer (some ⟨b,off+iv.toNat*n,none⟩)) w:=by
 unfold qb at C;split at C
 ·rename_i L O;injection C with C;subst C;unfold jm at D;cases E:P.info? L with
  |none=>simp_all
  | some i=>
   have hi:i.size=n:=by simpa [E]using D
   have Q:iv<len:=by omega
   simp[Instr.indexAt,gJ O,asIntOf,J,Q,sizeOf,typeInfo,E,hi,Addr.add_mid]
 ·cases C
def amK{t:TypeId}{x i:A}{k:A -> ah X}(h:oX P σ t x i k=some r):∃ y,k y=some r /\ ∀ aj ρ a w,Rl w0 N aj ρ σ a w -> ∀ u v,RA w w0.heap.size aj ρ x u -> RA w w0.heap.size aj ρ i v ->
  ∃p,(Instr.indexAt t u v).run P w = .ok p w/\RA w w0.heap.size aj ρ y p:=by
 unfold oX at h;split at h
 ·cases h
 ·rename_i e T;split at h
  ·rename_i n U iv Y;split at h
   ·rename_i Z g qn l;split at h
    ·rename_i AZ;subst AZ;cases D:Nat.blt g 2 with
     |false=>grind
     | true=>
      rw[D,ak]at h;split at h
      ·rename_i hb
       refine⟨_,h,λaj ρ a w hR u v E I=>?_⟩
       obtain rfl:=I.2.gE;have GS:g<2:=by have:=cL D;omega
       cases E.2 with
       |cS=>simp at hb
       |cZ=>simp at hb
       |de=>simp at hb
       |own=>grind
       | aD _ _ _ _ _ b off cap us ho hl MZ h1 oW hc Q=>
        refine⟨_,Uo w t e _ b off _ cap U iv T Y hb.1 hb.2,b,_,rfl,MZ,hl,λj x J=>⟨jB Z g _ GS j x J,us _ j,?_,Q _ hb.2 j x J⟩⟩
        grind
      ·cases h
    ·cases h
   ·rename_i q;obtain⟨y0,D,C⟩:=sj _ _ h;clear h;split at C
    ·rename_i Z L qn l;split at C
     ·rename_i AZ;subst AZ;split at C
      ·rename_i hb;cases O:Nat.blt L 2 with
       | true=>
        rw[O,ak]at C;have ho2:L<2:=cL O
        refine⟨_,C,λaj ρ a w hR u v E I=>?_⟩
        obtain rfl:=I.2.gE;obtain⟨AR,mI,nI⟩:=D.ok hR.root;have:AR=u:=by
         have h3:=E.2;simp_all
        subst this;cases nI with
        |cS=>simp at hb
        |cZ=>simp at hb
        |de=>simp at hb
        |own=>grind
        | aD _ _ _ _ _ b off cap us ho hl MZ h1 oW hc Q=>
         refine⟨_,Uo w t e _ b off _ cap U iv T Y hb.1 hb.2,b,_,rfl,MZ,hl,λj x J=>⟨jB Z L _ ho2 j x J,us _ j,?_,Q _ hb.2 j x J⟩⟩
         grind
       | false=>
        rw[O,au]at C;have ho2:¬ L<2:=λei=>by have h9:Nat.blt L 2=true:=iD ei;rw[h9]at O;cases O
        refine⟨_,C,λaj ρ a w hR u v E I=>?_⟩
        obtain rfl:=I.2.gE;obtain⟨AR,mI,nI⟩:=D.ok hR.root;have:AR=u:=by
         have h3:=E.2;simp_all
        subst this;cases nI with
        |cS=>simp at hb
        |cZ=>simp at hb
        |de=>simp at hb
        |aD _ _ _ _ _ _ _ _ _ ho=>omega
        | own _ _ _ _ _ b cap cs us qc hh hs yJ r9 hc Q=>
         refine⟨_,Uo w t e _ b 0 _ cap U iv T Y hb.1 hb.2,_,rfl,?_⟩;rw[AQ 0 _ _ mI qc];simp
      ·cases C
     ·cases C
    ·cases C
   ·cases h
  ·cases h
def amL{t ty:TypeId}{x:A}{k:A->ah X}(h:qZ P σ t x k=some r):∃ y,k y=some r/\∀ aj ρ a w,Rl w0 N aj ρ σ a w->∀ u,RA w w0.heap.size aj ρ x u->
  ∃v,(Builtin.len_ #[t] ty #[u]).run P w = .ok v w/\RA w w0.heap.size aj ρ y v:=by
 unfold qZ at h;split at h
 ·rename_i y;have key:∃ z,(∀ aj ρ a w,Rl w0 N aj ρ σ a w->∀ u,dA w w0.heap.size aj ρ y u->∃ q,RV w w0.heap.size aj q z u)/\(match z with
    |.sl _ _ _ l=>(match P.underlying t with|some (.slice _)=>k (.lf (.v (.int .i64 (l.length:Int))))|_=>none)
    |.nil=>(match P.underlying t with|some (.slice _)=>k (.lf (.v (.int .i64 0)))|_=>none)
    |.str s=>(match P.underlying t with|some .string=>k (.lf (.v (.int .i64 (s.size:Int))))|_=>none)
    |_=>none)=some r:=by
   cases y with
   |v z=>exact⟨z,λaj ρ a w _ u D=>⟨[],D.2⟩,h⟩
   |dead=>cases h
   | own q=>
    obtain⟨z,J,h⟩:=sj q _ h
    refine⟨z,λaj ρ a w hR u D=>?_,h⟩
    obtain⟨v,O,I⟩:=J.ok hR.root;have L:=D.2;rw[O]at L;injection L with L;subst L;exact⟨q,I⟩
  obtain⟨z,J,C⟩:=key;clear h;split at C
  ·rename_i Q g T l;split at C
   ·rename_i e E
    refine⟨_,C,λaj ρ a w hR u D=>?_⟩
    obtain⟨q,I⟩:=J aj ρ a w hR u D;cases I with
    |cS=>exact⟨_,by simp[Builtin.len_,gJ E,goInt],rfl,.int _ _ _⟩
    |cZ=>exact⟨_,by simp[Builtin.len_,gJ E,goInt],rfl,.int _ _ _⟩
    |de=>exact⟨_,by simp[Builtin.len_,gJ E,goInt],rfl,.int _ _ _⟩
    |aD=>exact⟨_,by simp[Builtin.len_,gJ E,goInt],rfl,.int _ _ _⟩
    |own=>exact⟨_,by simp[Builtin.len_,gJ E,goInt],rfl,.int _ _ _⟩
   ·cases C
  ·split at C
   ·rename_i e E
    refine⟨_,C,λaj ρ a w hR u D=>?_⟩
    obtain⟨q,I⟩:=J aj ρ a w hR u D;cases I;exact⟨_,by simp[Builtin.len_,gJ E,goInt],rfl,.int _ _ _⟩
   ·cases C
  ·split at C
   ·rename_i E
    refine⟨_,C,λaj ρ a w hR u D=>?_⟩
    obtain⟨q,I⟩:=J aj ρ a w hR u D;obtain rfl:=I.v7;exact⟨_,by simp[Builtin.len_,gJ E,goInt],rfl,.int _ _ _⟩
   ·cases C
  ·cases C
 ·split at h
  ·rename_i e E
   refine⟨_,h,λaj ρ a w hR u D=>?_⟩
   obtain⟨A,n,c,O,U,C,rfl⟩:=D;exact⟨_,by cases A<;>simp[sliced,Builtin.len_,gJ E,goInt],rfl,.int _ _ _⟩
  ·cases h
 ·cases h
def Up{p:Bool×aa Lf}{y:A}(h:so p=some y){u:Value}(C:RP w B aj ρ p u):RA w B aj ρ y u:=by
 unfold so at h;split at h
 ·injection h with h;subst h;exact C
 ·rename_i z;injection h with h;subst h;obtain⟨D,E,I⟩:=C.2 0 z rfl;have:u=D:=by simpa using E
  subst this;exact I
 ·cases h
def amM{x:A}{i:Nat}{k:A -> ah X}(h:v8 x i k=some r):∃ y,k y=some r /\ ∀ (w:World) (B:Nat) (aj:bG) (ρ:Nat -> Loc) (u:Value),RA w B aj ρ x u ->
  ∃v,(Instr.extract u i).run P w = .ok v w/\RA w B aj ρ y v:=by
 unfold v8 at h;split at h
 ·rename_i xs;split at h
  ·rename_i y C
   refine⟨y,h,λw B aj ρ u E=>?_⟩
   obtain⟨us,rfl,O,I⟩:=E;cases D:xs[i]? with
   |none=>simp_all
   | some p=>
    rw[D]at C;obtain⟨v,J,L⟩:=I i p D;exact⟨v,by simp[Instr.extract,J],Up C L⟩
  ·cases h
 ·cases h
def amN{k:aa Nat}(h:[d] <:+ k):bK d k=true:=by
 obtain⟨y,rfl⟩:=h;simp[bK]
def Uq{k:aa Nat}(h:bK d k=true):[d] <:+ k:=by
 have h:k.getLast?=some d:=by simpa [bK]using h
 obtain⟨y,C⟩:=List.getLast?_eq_some_iff.1 h;simp_all
def M0{j i s:Nat}{q:aa Nat}(C:q≠[]):bK d (j :: i :: s :: q)=bK d q:=by
 cases q with
 |nil=>simp_all
 |cons x q=>simp[bK]
structure uM (w w':World) (aj aE:bG) (d:Nat):Prop where
 size:w.heap.size<=w'.heap.size
 block:∀b,b<w.heap.size->aj b≠some [d]->w'.heap[b]?=w.heap[b]?
 v9:∀b,b<w.heap.size->aE b=aj b
 ne:∀b,aj b≠some []
def RV.lU{q:aa Nat}{x:V}{v:Value}(h:RV w B aj q x v)(C:uM w w' aj aE d)(hq:¬ [d] <:+ q \/ x.aD=true):RV w' B aE q x v:=by
 induction h with
 |int=>exact .int _ _ _
 |bool=>exact .bool _ _
 |str=>exact .str _ _
 |nil=>exact .nil _
 |cS=>exact .cS _ _ _
 |cZ=>exact .cZ _ _ _ _ _ (by first|assumption|omega)
 |de=>exact .de _ _ _ _ _ (by first|assumption|omega)
 | aD q t o Q l b off cap u L hl hb T U E Y I=>
  have J:aj b≠some [d]:=by rw[hl];simp
  exact .aD _ _ _ _ _ _ _ _ u L ((C.v9 b hb).trans hl) (kO hb C.size) T U (λi h j x D=>(kf (C.block b hb J)).trans (E i h j x D)) (λi h j x D=>I i h j x D (.inr (jB t o l[i] L j x D)))
 | own q t o Q l b cap cs u hl O Z hn hm E Y I=>
  have hb:b<w.heap.size:=(gd.1 O).1;have GO:¬ [d] <:+ q:=by
   rcases hq with hq|hq
   ·exact hq
   ·simp[V.aD]at hq;omega
  have J:aj b≠some [d]:=by
   grind
  refine .own _ _ _ _ _ _ _ cs u ((C.v9 b hb).trans hl) ((C.block b hb J).trans O) Z hn hm E (λi h j x D=>I i h j x D (.inl λnG=>GO ?_))
  have hq0:q≠[]:=by rintro rfl;exact C.ne b hl
  exact Uq ((M0 hq0).symm.trans (amN nG))
def amO{j i s:Nat}{q:aa Nat}(C:q≠[])(h:bK d (j :: i :: s :: q)=false):bK d q=false:=by
 cases q with
 |nil=>simp_all
 |cons x q=>simpa [bK]using h
def Ur(C:uM w w' aj aE d)(D:∀ b k,aj b=some k -> b<w.heap.size)(T:∀ r,r≠d -> ρ' r=ρ r):∀ (k:aa Nat) (ad:Addr),bK d k=false -> addrAt w aj ρ k=some ad -> addrAt w' aE ρ' k=some ad
 |[],_,_,h=>h
 |[_],_,_,h=>h
 |[_,_],_,_,h=>h
 |[_,_,_],_,_,h=>by simp only[addrAt]at h ⊢;exact h
 | [j,i,s,r],_,E,h=>by
  have U:r≠d:=by rintro rfl;simp[bK]at E
  simp only[addrAt,T r U]at h ⊢;split at h
  ·rename_i v b n c U;split at h
   next hl=>rw[bA ((C.v9 _ (D _ _ hl)).trans hl)];exact h
   ·cases h
  ·cases h
 | j :: i :: s :: x :: y :: q,ad,E,h=>by
  have I:=amO (by simp) E;simp only[addrAt]at h ⊢;cases J:addrAt w aj ρ (x::y::q)with
  |none=>grind
  | some L=>
   rw[Ur C D T _ _ I J];rw[J]at h;cases O:w.cell? L with
   |none=>grind
   | some v=>
    have Y:aj L.block≠some [d]:=by
     obtain⟨Z,i',s',q',e,hl,_⟩:=vY _ _ J;rw[hl];intro Q;injection Q with Q;subst Q;rw[e]at I;simp[bK]at I
    have e:w'.cell? L=some v:=(kf (C.block _ (block_lt_of_cell O) Y)).trans O;simp only[Option.bind_some,O]at h;simp only[Option.bind_some,e];split at h
    ·split at h
     next hl=>rw[bA ((C.v9 _ (D _ _ hl)).trans hl)];exact h
     ·cases h
    ·cases h
def aaQ(I:uM w w' aj aE d)(L:∀ b k,aj b=some k -> b<w.heap.size)(J:∀ r,r≠d -> ρ' r=ρ r)(k:aa Nat)(u:Value)(C:bK d k=false)(h:cN w aj ρ k=some u):cN w' aE ρ' k=some u:=by
 match k,C,h with
 | [r],C,h=>
  have O:r≠d:=by rintro rfl;simp[bK]at C
  simp[cN,J r O]at h ⊢;exact h
 | x :: y :: q,C,h=>
  simp[cN]at h ⊢;cases D:addrAt w aj ρ _ with
  |none=>rw[D]at h;cases h
  | some ad=>
   rw[Ur I L J _ _ C D];rw[D]at h;have Q:aj ad.block≠some [d]:=by
    obtain⟨T,U,Y,Z,e,hl,_⟩:=vY _ _ D;rw[hl];intro E;injection E with E;subst E;rw[e]at C;simp[bK]at C
   exact(kf (I.block _ (block_lt_of_cell h) Q)).trans h
def dA.lU{x:Lf}{u:Value}(h:dA w B aj ρ x u)(C:uM w w' aj aE d)(D:∀ b k,aj b=some k->b<w.heap.size)(E:∀ r,r≠d->ρ' r=ρ r):dA w' B aE ρ' (x.drop d) u:=by
 cases x with
 |v x=>exact⟨h.1,h.2.lU C (.inr h.1)⟩
 |dead=>trivial
 | own k=>
  have e:Lf.drop d (.own k)=(bif bK d k then .dead else .own k):=rfl;rw[e];cases hl:bK d k with
  |true=>trivial
  |false=>exact⟨h.1,aaQ C D E k u hl h.2⟩
def dQ.lU{cs:aa Lf}{us:Array Value}(h:dQ w B aj ρ cs us)(E:uM w w' aj aE d)(I:∀ b k,aj b=some k -> b<w.heap.size)(J:∀ r,r≠d -> ρ' r=ρ r):dQ w' B aE ρ' (cs.map (Lf.drop d)) us:=by
 refine⟨by rw[dB];exact h.1,λj x C=>?_⟩
 rw[dz]at C;cases D:cs[j]? with
 |none=>simp_all
 | some y=>
  rw[D]at C;injection C with C;subst C;obtain⟨u,L,r⟩:=h.2 j y D;exact⟨u,L,r.lU E I J⟩
def RP.lU{p:Bool×aa Lf}{u:Value}(h:RP w B aj ρ p u)(C:uM w w' aj aE d)(D:∀ b k,aj b=some k->b<w.heap.size)(E:∀ r,r≠d->ρ' r=ρ r):RP w' B aE ρ' (p.1,p.2.map (Lf.drop d)) u:=by
 obtain⟨b,cs⟩:=p;cases b with
 |true=>obtain⟨us,e,h⟩:=h;exact⟨us,e,h.lU C D E⟩
 |false=>exact dQ.lU h C D E
def RA.lU{x:A}{u:Value}(h:RA w B aj ρ x u)(C:uM w w' aj aE d)(J:∀ b k,aj b=some k -> b<w.heap.size)(E:∀ r,r≠d -> ρ' r=ρ r):RA w' B aE ρ' (x.drop d) u:=by
 cases x with
 |undef=>trivial
 |skip=>exact h
 |lf x=>exact dA.lU h C J E
 |agg cs=>exact RP.lU (p:=(true,cs)) h C J E
 | cR xs=>
  obtain⟨us,e,Q,h⟩:=h
  refine⟨us,e,by rw[dB];exact Q,λj p I=>?_⟩
  rw[dz]at I;cases Y:xs[j]? with
  |none=>grind
  | some y=>
   rw[Y]at I;injection I with I;subst I;obtain⟨v,L,r⟩:=h j y Y;exact⟨v,L,r.lU C J E⟩
 | ptr k=>
  have e:A.drop d (.ptr k)=(bif bK d k then .undef else .ptr k):=rfl;rw[e];cases hl:bK d k with
  |true=>trivial
  |false=>obtain⟨ad,e,h⟩:=h;exact⟨ad,e,Ur C J E k _ hl h⟩
 | view k s i j=>
  have e:A.drop d (.view k s i j)=(bif bK d k then .undef else .view k s i j):=rfl;rw[e];cases hl:bK d k with
  |true=>trivial
  |false=>obtain⟨A,n,c,h,g⟩:=h;exact⟨A,n,c,aaQ C J E k _ hl h,g⟩
 | pk r n=>
  have e:A.drop d (.pk r n)=(bif Nat.beq r d then .undef else .pk r n):=rfl;rw[e];cases hl:Nat.beq r d with
  |true=>trivial
  | false=>
   have D:r≠d:=by rintro rfl;simp at hl
   obtain⟨b,e,h⟩:=h;exact⟨b,(E r D).trans e,h⟩
 | aG r j=>
  have e:A.drop d (.aG r j)=(bif Nat.beq r d then .undef else .aG r j):=rfl;rw[e];cases hl:Nat.beq r d with
  |true=>trivial
  | false=>
   have D:r≠d:=by rintro rfl;simp at hl
   obtain⟨b,off,e,h⟩:=h;exact⟨b,off,(E r D).trans e,h⟩
 | gW cs=>
  obtain⟨b,off,e,hb,hl,h⟩:=h;have T:aj b≠some [d]:=by rw[hl];simp
  refine⟨b,off,e,kO hb C.size,(C.v9 b hb).trans hl,λj x U=>?_⟩
  obtain⟨O,v,L,D⟩:=h j x U;exact⟨O,v,(kf (C.block b hb T)).trans L,D.lU C (.inr O)⟩
 | kA f cs=>
  obtain⟨pv,Z,h⟩:=h;refine⟨pv,Z,?_⟩;obtain⟨b,off,e,hb,hl,h⟩:=h;have T:aj b≠some [d]:=by rw[hl];simp
  refine⟨b,off,e,kO hb C.size,(C.v9 b hb).trans hl,λj x U=>?_⟩
  obtain⟨O,v,L,D⟩:=h j x U;exact⟨O,v,(kf (C.block b hb T)).trans L,D.lU C (.inr O)⟩
 | fn f cap=>
  have e:A.drop d (.fn f cap)=(bif cap.any (λp=>Nat.beq p.1 d)then .undef else .fn f cap):=rfl;rw[e];cases hl:cap.any (λp=>Nat.beq p.1 d)with
  |true=>trivial
  | false=>
   obtain⟨vs,e,Q,h⟩:=h
   refine⟨vs,e,Q,λj p I=>?_⟩
   obtain⟨b,off,e2,h2⟩:=h j p I;have D:p.1≠d:=by
    rintro rfl;have:=mC.1 hl p (fT I);simp at this
   exact⟨b,off,(E _ D).trans e2,h2⟩
def eF.lU{r:Nat}(L:r≠d){x:aY}(h:eF w B aj ρ r x)(C:uM w w' aj aE d)(U:∀ b k,aj b=some k -> b<w.heap.size)(I:∀ r,r≠d -> ρ' r=ρ r):eF w' B aE ρ' r (x.drop d):=by
 have Z:¬ [d] <:+ [r]:=Ui (λe=>L e.symm);cases h with
 | aB b off cells e cs us D hl O hs Y=>
  have hb:b<w.heap.size:=(gd.1 O).1;have T:aj b≠some [d]:=by
   simp_all
  refine .aB b off cells e _ us ((I r L).trans D) ((C.v9 b hb).trans hl) ((C.block b hb T).trans O) (by rw[dB];exact hs) (λj x E=>?_)
  rw[dz]at E;cases J:cs[j]? with
  |none=>simp_all
  | some y=>
   rw[J]at E;injection E with E;subst E;exact⟨(Y j y J).1,(Y j y J).2.lU C U I⟩
 |sl v y D hr1=>exact .sl v y ((I r L).trans D) (hr1.lU C (.inl Z))
 | mp b c es l D hl O he=>
  have hb:b<w.heap.size:=(gd.1 O).1;have T:aj b≠some [d]:=by
   simp_all
  exact .mp b c es l ((I r L).trans D) ((C.v9 b hb).trans hl) ((C.block b hb T).trans O) he
 | gh us xs D E=>
  refine .gh us _ ((I r L).trans D) (λj x Q=>?_)
  rw[dz]at Q;cases J:xs[j]? with
  |none=>simp_all
  | some y=>
   rw[J]at Q;injection Q with Q;subst Q;exact(E j y J).lU C U I
def Rl.yM{x:aY}(h:Rl w0 N aj ρ σ a w)(O:w0.F d=none)(hb:ja w0 w w')(E:uM w w' aj aE d)(Q:∀ b k,w.heap.size <= b -> aE b=some k -> b<w'.heap.size/\k≠[])(I:∀ r,r≠d -> ρ' r=ρ r)(Y:eF w' w0.heap.size aE ρ' d x):
  Rl w0 N aE ρ' ((σ.drop d).root d x) a w':=by
 have L:=λb k hb=>(h.cX b k hb).2.1
 refine⟨h.below.trans hb,λb k J=>?_,λr y C=>?_,λk=>(h.tmp k).lU E L I,h.size,h.defers,λr T D=>(I r (by rintro rfl;rw[O]at D;cases D)).trans (h.fix r T D),h.dx⟩
 ·rcases Nat.lt_or_ge b w.heap.size with U | p9
  ·rw[E.v9 b U]at J;have:=h.cX b k J;exact⟨this.1,kO this.2.1 E.size,this.2.2⟩
  ·have:=Q b k p9 J;exact⟨.inl (Nat.le_trans h.below.size p9),this.1,this.2⟩
 ·by_cases D:r=d
  ·subst D;have C:(bW (σ.drop r).m r _) r=some y:=C;rw[ck]at C;simp_all
  ·have C:(bW (σ.drop d).m d (some x)) r=some y:=C;rw[cB _ _ _ D]at C;have hb:Nat.beq r d=false:=by
    cases hb:Nat.beq r d with
    |false=>rfl
    |true=>simp_all
   simp only[S.drop,hb,au]at C;cases hm:σ.m r with
   |none=>simp_all
   | some z=>
    rw[hm]at C;injection C with C;subst C;exact(h.root r z hm).lU D E L I
end
def gZ(q:Nat)(nk k:aa Nat):aa Nat:=bif bK q k then k.dropLast++nk else k
def bG.gZ(aj:bG)(q:Nat)(nk:aa Nat):bG:=λb=>(aj b).map (Proofs.YtglnbhiaknohlaaGreat.gZ q nk)
section
variable {P:Program} {w w':World} {w0:Wd} {B N:Nat} {aj aE:bG} {ρ ρ':Nat->Loc} {σ:S} {a:Act} {X:Type} {d q:Nat} {nk:aa Nat}
def aaR:gZ q nk [q]=nk:=by simp[gZ,bK]
def amP{k:aa Nat}(h:bK q k=false):gZ q nk k=k:=by simp[gZ,h]
def amQ{j i s:Nat}{k:aa Nat}(C:k≠[]):gZ q nk (j :: i :: s :: k)=j :: i :: s :: gZ q nk k:=by
 unfold gZ;rw[M0 C];cases bK q k with
 |false=>rfl
 | true=>
  cases k with
  |nil=>simp_all
  |cons x k=>simp
def aaS{k:aa Nat}(C:nk≠[])(D:k≠[]):gZ q nk k≠[]:=by
 unfold gZ;cases bK q k with
 |false=>simp_all
 |true=>simp[C]
def bG.Us{b:Nat}(h:aj b=none):aj.gZ q nk b=none:=by simp[bG.gZ,h]
def bG.aaT{b:Nat}{k:aa Nat}(h:aj b=some k):aj.gZ q nk b=some (Proofs.YtglnbhiaknohlaaGreat.gZ q nk k):=by simp[bG.gZ,h]
def bG.aaU{b:Nat}{k:aa Nat}(h:aj b=some k)(C:bK q k=false):aj.gZ q nk b=some k:=by rw[bG.aaT h,amP C]
def RV.gZ{k:aa Nat}{x:V}{v:Value}(h:RV w B aj k x v)(I:∀ b,aj b≠some []):RV w B (aj.gZ q nk) (Proofs.YtglnbhiaknohlaaGreat.gZ q nk k) x v:=by
 induction h with
 |int=>exact .int _ _ _
 |bool=>exact .bool _ _
 |str=>exact .str _ _
 |nil=>exact .nil _
 |cS=>exact .cS _ _ _
 |cZ=>exact .cZ _ _ _ _ _ (by first|assumption|omega)
 |de=>exact .de _ _ _ _ _ (by first|assumption|omega)
 | aD k t o J l b off cap u L hl hb O Q C T D=>
  exact .aD _ _ _ _ _ _ _ _ u L (bG.Us hl) hb O Q C (λi h j x E=>D i h j x E)
 | own k t o J l b cap cs u hl U Y Z hm C T D=>
  have hk:k≠[]:=by rintro rfl;exact I b hl
  refine .own _ _ _ _ _ _ _ cs u (bG.aaT hl) U Y Z hm C (λi h j x E=>?_)
  have:=D i h j x E;rw[amQ hk]at this;exact this
structure Rel (q:Nat) (aj aE:bG):Prop where
 ne:∀b,aj b≠some []
 none:∀b,aj b=none->aE b=Option.none
 fV:∀b k,aj b=some k->bK q k=false->aE b=some k
def GU(C:∀b,aj b≠some []):Rel q aj (aj.gZ q nk):=⟨C,λ_ h=>bG.Us h,λ_ _ h D=>bG.aaU h D⟩
def RV.rel(D:Rel q aj aE){k:aa Nat}{x:V}{v:Value}(h:RV w B aj k x v)(hk:bK q k=false\/x.aD=true):RV w B aE k x v:=by
 induction h with
 |int=>exact .int _ _ _
 |bool=>exact .bool _ _
 |str=>exact .str _ _
 |nil=>exact .nil _
 |cS=>exact .cS _ _ _
 |cZ=>exact .cZ _ _ _ _ _ (by first|assumption|omega)
 |de=>exact .de _ _ _ _ _ (by first|assumption|omega)
 | aD k t o O l b off cap u J hl hb Q T E U I=>
  exact .aD _ _ _ _ _ _ _ _ u J (D.none _ hl) hb Q T E (λi h j x C=>I i h j x C (.inr (jB t o l[i] J j x C)))
 | own k t o O l b cap cs u hl Y Z hn hm E U I=>
  have L:bK q k=false:=by
   rcases hk with hk|hk
   ·exact hk
   ·simp[V.aD]at hk;omega
  refine .own _ _ _ _ _ _ _ cs u (D.fV _ _ hl L) Y Z hn hm E (λi h j x C=>I i h j x C ?_)
  cases k with
  |nil=>exact absurd hl (D.ne b)
  |cons z k=>exact .inl (by rw[M0 (by simp)];exact L)
def Ut(C:Rel q aj aE):∀ (k:aa Nat) (ad:Addr),bK q k=false -> addrAt w aj ρ k=some ad -> addrAt w aE ρ k=some ad
 |[],_,_,h=>h
 |[_],_,_,h=>h
 |[_,_],_,_,h=>h
 | [j,i,s,r],_,D,h=>by
  have J:bK q [r]=false:=by simpa [bK]using D
  simp only[addrAt]at h ⊢;split at h
  ·rename_i v b n c e;split at h
   next hl=>rw[bA (C.fV _ _ hl J)];exact h
   ·cases h
  ·cases h
 | j :: i :: s :: x :: y :: k,ad,D,h=>by
  have E:bK q (x::y::k)=false:=by simpa [bK]using D
  simp only[addrAt]at h ⊢;cases I:addrAt w aj ρ (x::y::k)with
  |none=>simp_all
  | some L=>
   rw[Ut C _ _ E I];rw[I]at h;split at h
   ·rename_i v b n c e;split at h
    next hl=>rw[bA (C.fV _ _ hl E)];exact h
    ·cases h
   ·cases h
def Uu(E:Rel q aj aE)(k:aa Nat)(u:Value)(C:bK q k=false)(h:cN w aj ρ k=some u):cN w aE ρ k=some u:=by
 match k,C,h with
 |[r],_,h=>exact h
 | x :: y :: k,C,h=>
  simp[cN]at h ⊢;cases D:addrAt w aj ρ _ with
  |none=>rw[D]at h;cases h
  | some ad=>
   rw[Ut E _ _ C D];simp_all
def dA.rel(C:Rel q aj aE){x:Lf}{u:Value}(h:dA w B aj ρ x u):dA w B aE ρ (x.drop q) u:=by
 cases x with
 |v x=>exact⟨h.1,h.2.rel C (.inr h.1)⟩
 |dead=>trivial
 | own k=>
  have e:Lf.drop q (.own k)=(bif bK q k then .dead else .own k):=rfl;rw[e];cases hl:bK q k with
  |true=>trivial
  |false=>exact⟨h.1,Uu C k u hl h.2⟩
def dQ.rel(E:Rel q aj aE){cs:aa Lf}{us:Array Value}(h:dQ w B aj ρ cs us):dQ w B aE ρ (cs.map (Lf.drop q)) us:=by
 refine⟨by rw[dB];exact h.1,λj x C=>?_⟩
 rw[dz]at C;cases D:cs[j]? with
 |none=>simp_all
 | some y=>
  rw[D]at C;injection C with C;subst C;obtain⟨u,I,r⟩:=h.2 j y D;exact⟨u,I,r.rel E⟩
def RP.rel(C:Rel q aj aE){p:Bool×aa Lf}{u:Value}(h:RP w B aj ρ p u):RP w B aE ρ (p.1,p.2.map (Lf.drop q)) u:=by
 obtain⟨b,cs⟩:=p;cases b with
 |true=>obtain⟨us,e,h⟩:=h;exact⟨us,e,h.rel C⟩
 |false=>exact dQ.rel C h
def RA.rel(C:Rel q aj aE){x:A}{u:Value}(h:RA w B aj ρ x u):RA w B aE ρ (x.drop q) u:=by
 cases x with
 |undef=>trivial
 |skip=>exact h
 |lf x=>exact dA.rel C h
 |agg cs=>exact RP.rel C (p:=(true,cs)) h
 | cR xs=>
  obtain⟨us,e,Q,h⟩:=h
  refine⟨us,e,by rw[dB];exact Q,λj p D=>?_⟩
  rw[dz]at D;cases O:xs[j]? with
  |none=>simp_all
  | some y=>
   rw[O]at D;injection D with D;subst D;obtain⟨v,E,r⟩:=h j y O;exact⟨v,E,r.rel C⟩
 | ptr k=>
  have e:A.drop q (.ptr k)=(bif bK q k then .undef else .ptr k):=rfl;rw[e];cases hl:bK q k with
  |true=>trivial
  |false=>obtain⟨ad,e,h⟩:=h;exact⟨ad,e,Ut C k ad hl h⟩
 | view k s i j=>
  have e:A.drop q (.view k s i j)=(bif bK q k then .undef else .view k s i j):=rfl;rw[e];cases hl:bK q k with
  |true=>trivial
  |false=>obtain⟨A,n,c,h,r⟩:=h;exact⟨A,n,c,Uu C k _ hl h,r⟩
 | aG r j=>
  have e:A.drop q (.aG r j)=(bif Nat.beq r q then .undef else .aG r j):=rfl;rw[e];cases hl:Nat.beq r q with
  |true=>trivial
  |false=>exact h
 | pk r n=>
  have e:A.drop q (.pk r n)=(bif Nat.beq r q then .undef else .pk r n):=rfl;rw[e];cases hl:Nat.beq r q with
  |true=>trivial
  |false=>exact h
 | gW cs=>
  obtain⟨b,off,e,hb,hl,h⟩:=h
  refine⟨b,off,e,hb,C.none _ hl,λj x J=>?_⟩
  obtain⟨I,v,E,L⟩:=h j x J;exact⟨I,v,E,L.rel C (.inr I)⟩
 | kA f cs=>
  obtain⟨pv,T,h⟩:=h;refine⟨pv,T,?_⟩;obtain⟨b,off,e,hb,hl,h⟩:=h
  refine⟨b,off,e,hb,C.none _ hl,λj x J=>?_⟩
  obtain⟨I,v,E,L⟩:=h j x J;exact⟨I,v,E,L.rel C (.inr I)⟩
 | fn f cap=>
  have e:A.drop q (.fn f cap)=(bif cap.any (λp=>Nat.beq p.1 q)then .undef else .fn f cap):=rfl;rw[e];cases hl:cap.any (λp=>Nat.beq p.1 q)with
  |true=>trivial
  |false=>exact h
def eF.rel(I:Rel q aj aE){r:Nat}(T:r≠q){x:aY}(h:eF w B aj ρ r x):eF w B aE ρ r (x.drop q):=by
 have L:bK q [r]=false:=by simpa [bK]using λe=>T e
 cases h with
 | aB b off cells e cs us C hl O U Q=>
  refine .aB b off cells e _ us C (I.fV _ _ hl L) O (by rw[dB];exact U) (λj x D=>?_)
  rw[dz]at D;cases E:cs[j]? with
  |none=>simp_all
  | some y=>
   rw[E]at D;injection D with D;subst D;exact⟨(Q j y E).1,(Q j y E).2.rel I⟩
 |sl v y C Y=>exact .sl v y C (Y.rel I (.inl L))
 |mp b c Z l C hl O he=>exact .mp b c Z l C (I.fV _ _ hl L) O he
 | gh us xs C D=>
  refine .gh us _ C (λj x J=>?_)
  rw[dz]at J;cases E:xs[j]? with
  |none=>simp_all
  | some y=>
   rw[E]at J;injection J with J;subst J;exact(D j y E).rel I
def Rl.we(h:Rl w0 N aj ρ σ a w):∀b,aj b≠some []:=λb hb=>(h.cX b [] hb).2.2 rfl
def Rl.rel(h:Rl w0 N aj ρ σ a w)(E:Rel q aj aE)(J:∀ b k,aE b=some k -> (∃ D,aj b=some D)/\k≠[]):Rl w0 N aE ρ (σ.drop q) a w:=by
 refine⟨h.below,λb k L=>?_,λr x C=>?_,λk=>(h.tmp k).rel E,h.size,h.defers,h.fix,h.dx⟩
 ·obtain⟨⟨D,hl⟩,Q⟩:=J b k L;have:=h.cX b D hl;simp_all
 ·have C:(bif Nat.beq r q then none else (σ.m r).map _)=some x:=C;cases hb:Nat.beq r q with
  |true=>simp_all
  | false=>
   rw[hb]at C;have O:r≠q:=by rintro rfl;simp at hb
   cases I:σ.m r with
   |none=>simp_all
   | some y=>
    rw[I]at C;injection C with C;subst C;exact(h.root r y I).rel E O
def Rl.amR{z:V}(h:Rl w0 N aj ρ σ a w)(J:σ.m q=some (.sl z))(L:nk≠[]):∃ u,ρ q = .dM u/\Rl w0 N (aj.gZ q nk) ρ (σ.drop q) a w/\RV w w0.heap.size (aj.gZ q nk) nk z u:=by
 have E:=h.we;have I:=h.root q _ J;generalize C:aY.sl z=x at I;cases I with
 |aB=>cases C
 |mp=>cases C
 |gh=>cases C
 | sl u y O Q=>
  injection C with C;subst C
  refine⟨u,O,h.rel (GU E) λb k D=>?_,?_⟩
  ·unfold bG.gZ at D;cases hl:aj b with
   |none=>simp_all
   | some T=>
    rw[hl]at D;injection D with D;subst D;exact⟨⟨T,rfl⟩,aaS L (λe=>E b (by rw[hl,e]))⟩
  ·have:=Q.gZ (q:=q) (nk:=nk) E
   rwa [aaR]at this
def hD(r:Nat)(key:Nat->aa Nat):Nat->Nat->aa Lf->S->ah (aa V×S)
 |_,_,[],σ=>some ([],σ)
 |f+1,j,.v x::xs,σ=>(hD r key f (j+1) xs σ).map λp=>(x::p.1,p.2)
 | f+1,j,.own [q] :: xs,σ=>match σ.m q with
  |some (.sl z)=>bif Nat.beq q r then none else (hD r key f (j+1) (xs.map (Lf.drop q)) (σ.drop q)).map λp=>(z::p.1,p.2)
  |_=>none
 |_,_,_,_=>none
def M1{r:Nat}{key:Nat -> aa Nat}(Y:∀ j,bK r (key j)=true):∀ (f j:Nat) (xs:aa Lf) (σ C:S) (D:aa V),hD r key f j xs σ=some (D,C) -> ∀ aj ρ a w,Rl w0 N aj ρ σ a w -> ∀ us:aa Value,dQ w w0.heap.size aj ρ xs us.toArray ->
  ∃ aE,Rl w0 N aE ρ C a w/\D.length=xs.length/\(∀ (n:Nat) x,D[n]?=some x -> ∃ u,us[n]?=some u/\RV w w0.heap.size aE (key (j+n)) x u)/\(∀ k x v,bK r k=true -> RV w w0.heap.size aj k x v -> RV w w0.heap.size aE k x v) /\
   (∀x,σ.m r=some (.sl x) -> C.m r=some (.sl x))/\(∀k u,bK r k=true -> cN w aj ρ k=some u -> cN w aE ρ k=some u)/\(∀b,aj b=some [r] -> aE b=some [r])/\(∀b,aj b=none -> aE b=none)
 | 0,j,[],σ,C,D,h,aj,ρ,a,w,hR,us,E=>by
  simp only[hD,iE,Prod.mk.injEq]at h;obtain⟨rfl,rfl⟩:=h;exact⟨aj,hR,rfl,by simp,λ_ _ _ _ h=>h,λ_ h=>h,λ_ _ _ h=>h,λ_ h=>h,λ_ h=>h⟩
 | f+1,j,[],σ,C,D,h,aj,ρ,a,w,hR,us,E=>by
  simp only[hD,iE,Prod.mk.injEq]at h;obtain⟨rfl,rfl⟩:=h;exact⟨aj,hR,rfl,by simp,λ_ _ _ _ h=>h,λ_ h=>h,λ_ _ _ h=>h,λ_ h=>h,λ_ h=>h⟩
 |0,j,x::xs,σ,C,D,h,aj,ρ,a,w,hR,us,E=>by simp[hD]at h
 | f+1,j,x :: xs,σ,C,D,h,aj,ρ,a,w,hR,us,E=>by
  obtain⟨O,us,rfl⟩:∃ O M3,us=O :: M3:=by
   cases us with
   |nil=>have:=E.1;simp at this
   |cons O us=>grind
  have Q:dA w w0.heap.size aj ρ x O:=by
   obtain⟨u,e,h⟩:=E.2 0 x rfl;simp at e;subst e;exact h
  have mG:dQ w w0.heap.size aj ρ xs us.toArray:=⟨by have:=E.1;simpa using this,λn y I=>by
   obtain⟨u,e,h⟩:=E.2 (n+1) y I;exact⟨u,by simpa using e,h⟩⟩
  cases x with
  | v x=>
   simp only[hD,Option.map_eq_some_iff]at h;obtain⟨⟨Z,oh⟩,h,e⟩:=h;simp only[Prod.mk.injEq]at e;obtain⟨rfl,rfl⟩:=e;obtain⟨aE,T,U,h3,J,h5⟩:=M1 Y f (j+1) xs σ oh Z h aj ρ a w hR us mG
   refine⟨aE,T,by simp[U],λn y I=>?_,J,h5⟩
   cases n with
   | zero=>
    simp at I;subst I;refine⟨O,rfl,J _ _ _ (Y _) (Q.2.key Q.1)⟩
   | succ n=>
    obtain⟨u,e,h⟩:=h3 n y (by simpa using I);exact⟨u,by simpa using e,by rw[show j+(n+1)=j+1+n by omega];exact h⟩
  |dead=>simp[hD]at h
  | own k=>
   match k,Q,h with
   |[],_,h=>simp[hD]at h
   |_::_::_,_,h=>simp[hD]at h
   | [q],Q,h=>
    simp only[hD]at h;split at h
    ·rename_i z hz;cases Uv:Nat.beq q r with
     |true=>rw[Uv]at h;cases h
     | false=>
      rw[Uv,au,Option.map_eq_some_iff]at h;obtain⟨⟨Z,oh⟩,amS,e⟩:=h;simp only[Prod.mk.injEq]at e;obtain⟨rfl,rfl⟩:=e;have eI:q≠r:=by rintro rfl;simp at Uv
      have hkj:key j≠[]:=by intro e;have:=Y j;rw[e]at this;simp[bK]at this
      obtain⟨u,dj,gA,nI⟩:=hR.amR hz hkj;have GV:u=O:=by
       have J:=Q.2;simp only[cN,dj]at J;injection J
      subst GV;have om:∀ k,bK r k=true -> bK q k=false:=by
       intro k L;cases hq:bK q k with
       |false=>rfl
       | true=>
        exfalso;have T:=Uq L;have U:=Uq hq;exact eI (aaI T U)
      obtain⟨aE,T,U,h3,J,h5,h6,h7,h8⟩:=M1 Y f (j+1) (xs.map (Lf.drop q)) (σ.drop q) oh Z amS _ ρ a w gA us (mG.rel (GU hR.we))
      refine⟨aE,T,by simp[U],λn y I=>?_,λk x v L hv=>J _ _ _ L (hv.rel (GU hR.we) (.inl (om k L))),λx hx=>h5 x ?_,λk v L hv=>h6 k v L (Uu (GU hR.we) k v (om k L) hv),λb hb=>h7 b (bG.aaU hb (by simpa [bK]using λe=>eI e.symm)),λb hb=>h8 b (bG.Us hb)⟩
      ·cases n with
       |zero =>grind
       | succ n=>
        obtain⟨u,e,h⟩:=h3 n y (by simpa using I);exact⟨u,by simpa using e,by rw[show j+(n+1)=j+1+n by omega];exact h⟩
      ·have hb:Nat.beq r q=false:=by
        cases hb:Nat.beq r q with
        |false=>rfl
        |true=>exact absurd (cD hb).symm eI
       simp only[S.drop,hb,au,hx,kP,aY.drop]
    ·cases h
end
def iG:Value->Lf
 |.int k n=>.v (.int k n)
 |.bool b=>.v (.bool b)
 |.string s=>.v (.str s)
 |.slice none 0 0=>.v .nil
 |_=>.dead
def zeroV:Value->ah V
 |.int k n=>some (.int k n)
 |.bool b=>some (.bool b)
 |.string s=>some (.str s)
 |.slice none 0 0=>some .nil
 |_=>none
def GW:aa Value->ah (aa V)
 |[]=>some []
 | v :: C=>match zeroV v,GW C with
  |some x,some xs=>some (x::xs)
  |_,_=>none
def zeroOf(P:Program)(e:TypeId):ah Value:=(P.info? e).bind (·.zero)
def bytesOf(P:Program)(e:TypeId):ah Nat:=(P.info? e).map (·.bytes)
def iw{X:Type}(N:Nat)(σ:S)(d:Nat)(x:aY)(y:A)(k:S->ah X):ah X:=
 bif Nat.blt d N then k (((σ.drop d).root d x).set d y)else none
def sq{X:Type}(P:Program)(N:Nat)(σ:S)(d:Nat)(e:TypeId)(k:S->ah X):ah X:=
 match zeroOf P e with
 |some z=>iw N σ d (.aB (z.cells.toList.map iG)) (.aG d 0) k
 |none=>none
def uN(P:Program)(t:TypeId):ah (TypeId×TC):=
 match qb P t with
 |none=>none
 | some e=>match aaD e,jm P e,bytesOf P e with
  |some C,some n,some b=>bif Nat.beq n (aF C)&&Nat.ble b 65536 then some (e,C)else none
  |_,_,_=>none
def M4(P:Program)(e:TypeId)(C:TC):ah (T C):=
 match zeroOf P e with
 |none=>none
 | some z=>match GW z.cells.toList with
  |none=>none
  |some D=>dec C (full C) D
def A0{X:Type}(P:Program)(N:Nat)(σ:S)(d:Nat)(t:TypeId)(l c:A)(k:S->ah X):ah X:=
 match uN P t,l,c with
 | some (e,C),.lf (.v (.int _ n)),.lf (.v (.int _ c))=>match M4 P e C with
  |none=>none
  |some z=>if 0<=n/\n<=c/\c<1073741824 then iw N σ d (.sl (.sl C (full C+2) false (List.replicate n.toNat z))) (.lf (.own [d])) k else none
 |_,_,_=>none
def V.M5(t:TC):V->ah (aa (T t))
 |.sl C _ _ l=>if h:C=t then some (h ▸ l)else none
 |.nil=>some []
 |_=>none
def qe{X:Type}(P:Program)(N:Nat)(σ:S)(d:Nat)(t:TypeId)(x y:A)(k:S->ah X):ah X:=
 match uN P t with
 | some (e,C)=>bif Nat.beq (full C) 0&&(zeroOf P e).any (λz=>Nat.beq z.cells.size (aF C))then qa σ y λD=>(match D.M5 C with
  |none=>none
  | some l2=>match x with
   |.lf (.v .nil)=>bif bC l2.length then iw N σ d (.sl (.sl C 2 false l2)) (.lf (.own [d])) k else none
   | .lf (.own [r])=>(match σ.m r with
    |some (.sl (.sl E (o+2) q l))=>if h:E=C then (bif Nat.blt d N&&(Nat.blt r N ||Nat.ble 60000 r)&&bC (l.length+l2.length)then k (((σ.drop r).root r (.sl (.sl C (o+2) false ((h ▸ l)++l2)))).set d (.lf (.own [r])))else none)else none
    |_=>none)
   |_=>none)else none
 |none=>none
section
variable {P:Program} {w w':World} {w0:Wd} {B N:Nat} {aj aE:bG} {ρ ρ':Nat->Loc} {σ:S} {a:Act} {X:Type} {d:Nat} {r:X} {q:Nat} {o:Oper}
def M6(v:Value):dA w B aj ρ (iG v) v:=by
 unfold iG;split
 ·exact⟨rfl,.int _ _ _⟩
 ·exact⟨rfl,.bool _ _⟩
 ·exact⟨rfl,.str _ _⟩
 ·exact⟨rfl,.nil _⟩
 ·trivial
def aaV{v:Value}{x:V}(h:zeroV v=some x)(q:aa Nat):RV w B aj q x v:=by
 unfold zeroV at h;split at h<;>first|(injection h with h;subst h;first|exact .int _ _ _|exact .bool _ _|exact .str _ _|exact .nil _)|cases h
def Uw:∀ (C:aa Value) (xs:aa V),GW C=some xs -> xs.length=C.length /\ ∀ (j:Nat) x,xs[j]?=some x -> ∃ v,C[j]?=some v/\zeroV v=some x
 | [],xs,h=>by
  simp[GW]at h;simp_all
 | v :: C,xs,h=>by
  unfold GW at h;split at h
  ·rename_i y ys E D;injection h with h;subst h;obtain⟨I,J⟩:=Uw C ys D
   grind
  ·cases h
def ja.aaW(w0:Wd)(w:World)(o:Obj)(h:w0.heap.size<=w.heap.size):ja w0 w (w.alloc o):=.of ((Below.refl w0.heap.size w).alloc h o) (eK _)
def Rl.DF{c:Array Value}{e:TypeId}{x:aY}{ρ':Nat -> Loc}(h:Rl w0 N aj ρ σ a w)(D:w0.F d=none)(E:∀ r,r≠d -> ρ' r=ρ r)
  (I:eF (w.alloc (.cells c e)) w0.heap.size (bW aj w.heap.size (some [d])) ρ' d x):Rl w0 N (bW aj w.heap.size (some [d])) ρ' ((σ.drop d).root d x) a (w.alloc (.cells c e)):=by
 refine h.yM D (ja.aaW w0 w _ h.below.size) ⟨by simp,λb hb _=>Below.heap_alloc w _ b hb,λb hb=>cB _ _ _ (by omega),λb hb=>(h.cX b [] hb).2.2 rfl⟩ (λb k hb C=>?_) E I
 by_cases e:b=w.heap.size
 ·subst e;rw[ck]at C;injection C with C;subst C;simp_all
 ·rw[cB _ _ _ e]at C;have:=(h.cX b k C).2.1;omega
def oY{x:aY}{y:A}{k:S -> ah X}(h:iw N σ d x y k=some r):d<N/\k (((σ.drop d).root d x).set d y)=some r:=by
 unfold iw at h;cases C:Nat.blt d N with
 |false=>simp_all
 |true=>simp_all
def amT{e:TypeId}{k:S -> ah X}(h:sq P N σ d e k=some r):∃ E,k E=some r /\ ∀ aj ρ a w,Rl w0 N aj ρ σ a w -> ∃ w' aE ρ' v,(Instr.alloc e true (.tuple #[])).run P w = .ok v w'/\Rl w0 N aE ρ' E (a.put (some d) v) w':=by
 unfold sq at h;split at h
 ·rename_i z D;obtain⟨I,h⟩:=oY h
  refine⟨_,h,λaj ρ a w hR=>?_⟩
  have O:(Instr.alloc e true (.tuple #[])).run P w = .ok (.pointer (some ⟨w.heap.size,0,none⟩)) (w.alloc (.cells z.cells e)):=by
   unfold zeroOf at D;cases hi:P.info? e with
   |none=>simp_all
   | some i=>
    have D:i.zero=some z:=by simpa [hi]using D
    simp[Instr.alloc,zeroValue,typeInfo,hi,D,newVar,newRow]
  refine⟨_,bW aj w.heap.size (some [d]),bW ρ d (.aB w.heap.size 0),_,O,(hR.DF (hR.dx d (.inl I)) (λr Q=>cB _ _ _ Q) ?_).set ⟨w.heap.size,0,ck _ _ _,rfl⟩ I⟩
  refine .aB w.heap.size 0 z.cells e _ (λj=>z.cells.getD j undef) (ck _ _ _) (ck _ _ _) (heap_alloc_new w _) (by simp) λj x C=>?_
  rw[dz]at C;cases J:z.cells.toList[j]? with
  |none=>simp_all
  | some v=>
   rw[J]at C;injection C with C;subst C;have L:z.cells[j]?=some v:=by simpa using J
   have T:z.cells.getD j undef=v:=by rw[ij,L];rfl
   rw[T,fj];exact⟨L,M6 v⟩
 ·cases h
def yN{t e:TypeId}{C:TC}(h:uN P t=some (e,C)):P.underlying t=some (.slice e)/\tid C=e /\ ∃ i,P.info? e=some i/\i.size=aF C/\i.bytes <= 65536:=by
 unfold uN at h;split at h
 ·cases h
 ·rename_i I D;split at h
  ·rename_i J n b L O hb;cases E:(Nat.beq n (aF J)&&Nat.ble b 65536)with
   |false=>simp_all
   | true=>
    rw[E,ak]at h;injection h with h;injection h with Q T;subst Q T;rw[aO]at E;refine⟨?_,amw L,?_⟩
    ·unfold qb at D;split at D
     ·simp_all
     ·cases D
    ·unfold jm at O;unfold bytesOf at hb;cases hi:P.info? I with
     |none=>simp_all
     |some i =>simp_all
  ·cases h
def aaX(z:Array Value)(n i j:Nat)(C:j<z.size)(h:i*z.size+j<n):(madeCells z n)[i*z.size+j]?=some z[j]:=by
 have D:(i*z.size+j) % z.size=j:=by rw[Nat.add_comm,Nat.add_mul_mod_self_right,Nat.mod_eq_of_lt C]
 simp[madeCells,Array.getElem?_map,Array.getElem?_range,h,if_true,kP,D];simp[C]
def amU{t:TypeId}{l c:A}{k:S -> ah X}(h:A0 P N σ d t l c k=some r):∃ Y,k Y=some r /\ ∀ aj ρ a w,Rl w0 N aj ρ σ a w -> ∀ u v,RA w w0.heap.size aj ρ l u -> RA w w0.heap.size aj ρ c v ->
  ∃w' aE ρ' x,(Instr.makeSlice t u v).run P w = .ok x w'/\Rl w0 N aE ρ' Y (a.put (some d) x) w':=by
 unfold A0 at h;split at h
 ·rename_i e D kl n kc c q5;split at h
  ·cases h
  ·rename_i z E;split at h
   ·rename_i hb;obtain⟨Z,h⟩:=oY h
    refine⟨_,h,λaj ρ a w hR u v hu O=>?_⟩
    obtain rfl:=hu.2.gE;obtain rfl:=O.2.gE;obtain⟨iO,ht,i,hi,ga,kZ⟩:=yN q5;unfold M4 at E;split at E
    ·cases E
    ·rename_i C DG;split at E
     ·cases E
     ·rename_i vs lT;have oZ:i.zero=some C:=by unfold zeroOf at DG;simpa [hi]using DG
      obtain⟨sr,lV⟩:=Uw _ _ lT;have Q:=lQ D (full D) vs z E;have L:C.cells.size=aF D:=by rw[<- ku D (full D) z,<- Q.1,sr];simp
      have Ti:(i.bytes:Int)*c <= 281474976710656:=by
       have h1:(i.bytes:Int) <= 65536:=by omega
       have h2:i.bytes*c <= 65536*c:=Int.mul_le_mul_of_nonneg_right h1 (by omega);omega
      have dZ:=run_make (P:=P) w t e i C iO hi oZ kl kc n c hb.1 hb.2.1 Ti (by omega);rw[ga,<- L]at dZ
      refine⟨_,bW aj w.heap.size (some [d]),bW ρ d (.dM (.slice (some ⟨w.heap.size,0,none⟩) n.toNat c.toNat)),_,dZ,(hR.DF (hR.dx d (.inl Z)) (λr hr=>cB _ _ _ hr) ?_).set ⟨rfl,?_⟩ Z⟩
      ·refine .sl _ _ (ck _ _ _) ?_;have hlen:(List.replicate n.toNat z).length=n.toNat:=by simp
       have:=RV.own (w:=w.alloc (.cells (madeCells C.cells (c.toNat*C.cells.size)) e)) (B:=w0.heap.size) (aj:=bW aj w.heap.size (some [d])) [d] D (full D) false (List.replicate n.toNat z) w.heap.size c.toNat (madeCells C.cells (c.toNat*C.cells.size)) (λ_ j=>C.cells.getD j undef)
        (ck _ _ _) (by rw[ht];exact heap_alloc_new w _) (by rw[size_madeCells,L]) (by rw[hlen];omega) ⟨by unfold maxLen;omega,λh=>by cases h⟩ (λT h' j x I=>?_) (λT h' j x I=>?_)
       ·rw[hlen]at this;exact this
       ·rw[List.getElem_replicate]at I;have J:j<aF D:=by have:=(dW.1 I).1;rwa [ku]at this
        rw[hlen]at h';rw[<- L]at J;rw[<- L,aaX C.cells _ T j J (by
         have:(T+1)*C.cells.size <= c.toNat*C.cells.size:=iN _ (by omega);rw[iC]at this;omega)]
        simp[ij,J]
       ·rw[List.getElem_replicate]at I;have J:j<(enc D (full D) z).length:=(dW.1 I).1;rw[<- Q.1]at J;have U:=bX J;generalize vs[j]=y at U;obtain⟨v,O,Ux⟩:=lV j y U;have AR:C.cells[j]?=some v:=by simpa using O
        have hg:C.cells.getD j undef=v:=by rw[ij,AR];rfl
        rw[hg];exact(aaV Ux _).wk (Q.2 j y x U I)
      ·simp[cN,ck]
   ·cases h
 ·cases h
def DH(t:TC)(h:full t=0)(o C:Nat)(x:T t):enc t o x=enc t C x:=by
 have key:∀ o,enc t o x=enc t 0 x:=by
  intro o;rw[aaE t o x];have:=yG t o x h
  conv=>lhs;rw[<- List.map_id (enc t o x)]
  apply lN;intro y D;have E:=this y D;cases y<;>first|rfl|cases E
 simp_all
def wg(u:Nat->Nat->Value)(n s:Nat):aa Value:=(List.range (n*s)).map λk=>u (k / s) (k % s)
def aaY(u:Nat -> Nat -> Value)(n s i j:Nat)(hi:i<n)(C:j<s):(wg u n s)[i*s+j]?=some (u i j):=by
 have D:i*s+j<n*s:=by
  have:(i+1)*s <= n*s:=iN _ hi
  grind
 have E:(i*s+j) / s=i:=by rw[Nat.add_comm,Nat.add_mul_div_right _ _ (by omega),Nat.div_eq_of_lt C,fj]
 have I:(i*s+j) % s=j:=by rw[Nat.add_comm,Nat.add_mul_mod_self_right,Nat.mod_eq_of_lt C]
 simp[wg,D,E,I]
def M7(u:Nat -> Nat -> Value)(n s k:Nat)(v:Value)(D:0<s)(h:(wg u n s)[k]?=some v):∃ i j,k=i*s+j/\i<n/\j<s/\v=u i j:=by
 have C:k<n*s:=by
  have:=(dW.1 h).1
  simpa [wg]using this
 refine⟨k / s,k % s,by rw[Nat.mul_comm];exact(Nat.div_add_mod k s).symm,Nat.div_lt_of_lt_mul (by rw[Nat.mul_comm];exact C),Nat.mod_lt _ D,?_⟩;simp[wg,dz,List.getElem?_range C,kP,iE]at h;simp_all
def A1(t:TC)(o:Nat)(x:T t)(j:Nat)(C:j<aF t):∃y,(enc t o x)[j]?=some y:=⟨_,bX (by rw[ku];exact C)⟩
def wh(t:TC)(l:aa (T t))(C:aa Value):Prop:=
 ∀i (hi:i<l.length) (o j:Nat) x,(enc t o l[i])[j]?=some x->∃v,C[i*aF t+j]?=some v/\v.oneCell'=true/\∀(w':World) (B':Nat) (aE:bG) (D:aa Nat),RV w' B' aE D x v
def RV.reads{q:aa Nat}{t:TC}{g:Nat}{qn:Bool}{l:aa (T t)}{u:Value}(h:RV w B aj q (.sl t g qn l) u)(O:full t=0):
  ∃A c news,u = .slice A l.length c/\Reads w w.heap.size (aF t) A l.length news/\(∀v∈news,v.oneCell'=true)/\wh t l news:=by
 cases h with
 |cS=>exact⟨none,0,[],rfl,Reads.none_,by simp,λi hi=>by simp at hi⟩
 |cZ=>exact⟨_,_,[],rfl,⟨by simp,λh=>by simp at h⟩,by simp,λi hi=>by simp at hi⟩
 |de=>exact⟨_,_,[],rfl,⟨by simp,λh=>by simp at h⟩,by simp,λi hi=>by simp at hi⟩
 | aD _ _ _ _ _ b off cap us ho hl hb h1 oW U J=>
  have L:∀ i (hi:i<l.length) j,j<aF t -> (us i j).oneCell'=true:=by
   intro i hi j C;obtain⟨y,I⟩:=A1 t g l[i] j C;exact(J i hi j y I).one
  refine⟨_,cap,wg us l.length (aF t),rfl,⟨by simp[wg],λY=>⟨b,off,rfl,hb,λk v E=>?_⟩⟩,λv E=>?_,λi hi o j x D=>?_⟩
  ·obtain⟨i,j,rfl,hi,C,rfl⟩:=M7 us _ _ k v (oV t) E;obtain⟨y,I⟩:=A1 t g l[i] j C;exact U i hi j y I
  ·obtain⟨k,Q⟩:=List.mem_iff_getElem?.1 E;obtain⟨i,j,rfl,hi,C,rfl⟩:=M7 us _ _ k v (oV t) Q;exact L i hi j C
  ·have C:j<aF t:=by have:=(dW.1 D).1;rwa [ku]at this
   rw[DH t O o g]at D
   refine⟨us i j,aaY us _ _ i j hi C,L i hi j C,λw' B' aE q'=>(J i hi j x D).th (yG t g l[i] O x (fT D))⟩
 | own _ _ o _ _ b cap cs us hl Z hs Y hm U J=>
  have L:∀ i (hi:i<l.length) j,j<aF t -> (us i j).oneCell'=true:=by
   intro i hi j C;obtain⟨y,I⟩:=A1 t o l[i] j C;exact(J i hi j y I).one
  refine⟨_,cap,wg us l.length (aF t),rfl,⟨by simp[wg],λY=>⟨b,0,rfl,(gd.1 Z).1,λk v E=>?_⟩⟩,λv E=>?_,λi hi o' j x D=>?_⟩
  ·obtain⟨i,j,rfl,hi,C,rfl⟩:=M7 us _ _ k v (oV t) E;obtain⟨y,I⟩:=A1 t o l[i] j C;rw[fj,cell_of_row w b _ cs _ _ Z];simp_all
  ·obtain⟨k,Q⟩:=List.mem_iff_getElem?.1 E;obtain⟨i,j,rfl,hi,C,rfl⟩:=M7 us _ _ k v (oV t) Q;exact L i hi j C
  ·have C:j<aF t:=by have:=(dW.1 D).1;rwa [ku]at this
   rw[DH t O o' o]at D
   refine⟨us i j,aaY us _ _ i j hi C,L i hi j C,λw' B' aE q'=>(J i hi j x D).th (yG t o l[i] O x (fT D))⟩
def RV.aaZ{q:aa Nat}{t:TC}{o:Nat}{D:Bool}{l:aa (T t)}{u:Value}(h:RV w B aj q (.sl t (o+2) D l) u)(E:full t=0){B':Nat}(hB:∀ b,aj b=some q -> B' <= b):
  ∃xs,w.ownsRow B' (tid t) (aF t) u l.length xs/\(∀b,u.ownBlock=some b -> aj b=some q)/\(D=true -> u.ownBlock≠none)/\wh t l xs:=by
 cases h with
 |cZ=>omega
 |de=>omega
 |cS=>exact⟨[],⟨by simp,.inl ⟨rfl,rfl⟩⟩,by simp[Value.ownBlock],by simp,λi hi=>by simp at hi⟩
 |aD _ _ _ _ _ _ _ _ _ ho=>omega
 | own _ _ _ _ _ b cap cs us hl J L O Q hc I=>
  refine⟨cs.toList.take _,⟨?_,.inr ⟨b,cap,cs,rfl,hB b hl,J,O,Q.1,L,rfl⟩⟩,λU Y=>?_,λ_=>by simp[Value.ownBlock],λi hi Z j x C=>?_⟩
  ·simp_all
  ·have:b=U:=by simpa [Value.ownBlock]using Y
   simp_all
  ·have hj:j<aF t:=by have:=(dW.1 C).1;rwa [ku]at this
   have ei:i*aF t+j<l.length*aF t:=by
    have:(i+1)*aF t <= l.length*aF t:=iN _ hi;rw[iC]at this;omega
   rw[DH t E Z o]at C
   refine⟨us i j,?_,(I i hi j x C).one,λw' B' aE q'=>(I i hi j x C).th (yG t o l[i] E x (fT C))⟩
   grind
def wh.append{t:TC}{l l2:aa (T t)}{xs ys:aa Value}(h:wh t l xs)(E:wh t l2 ys)(hl:xs.length=l.length*aF t):wh t (l++l2) (xs++ys):=by
 intro i hi o j x C;by_cases D:i<l.length
 ·rw[List.getElem_append_left D]at C;obtain⟨v,I,r⟩:=h i D o j x C
  grind
 ·rw[List.getElem_append_right (by omega)]at C;have J:i-l.length<l2.length:=by rw[List.length_append]at hi;omega
  obtain⟨v,I,r⟩:=E _ J o j x C;refine⟨v,?_,r⟩;have e:i*aF t+j=xs.length+((i-l.length)*aF t+j):=by
   rw[hl,Nat.sub_mul];have:l.length*aF t <= i*aF t:=iN _ (by omega);omega
  grind
def Uy{q:aa Nat}{t:TC}{o:Nat}{l:aa (T t)}{u:Value}{xs:aa Value}{B':Nat}(h:w.ownsRow B' (tid t) (aF t) u l.length xs)(D:wh t l xs)(hl:∀ b,u.ownBlock=some b -> aj b=some q):
  RV w B aj q (.sl t (o+2) false l) u:=by
 rcases h.2 with ⟨rfl,E⟩|⟨b,cap,cs,rfl,hB,I,J,L,O,U⟩
 ·have:=List.eq_nil_of_length_eq_zero E;subst this;exact .cS _ _ _
 ·have Y:∀ i _ j x,(enc t o l[i])[j]?=some x -> ∃ v,cs[i*aF t+j]?=some v /\ ∀ w' B' aE Q,RV w' B' aE Q x v:=by
   intro i hi j x C;obtain⟨v,Z,_,r⟩:=D i hi o j x C
   grind
  refine .own q t o false l b cap cs (λi j=>(cs[i*aF t+j]?).getD undef) (hl b rfl) I O J ⟨L,λh=>by cases h⟩ (λi hi j x C=>?_) (λi hi j x C=>?_)
  ·grind
  ·grind
def Rl.append{t e ty:TypeId}{C:TC}{i:TypeInfo}{z:Value}{rr o g:Nat}{q qn:Bool}{l l2:aa (T C)}{u v:Value}{q':aa Nat}{Bx:Nat}{Uz:bG}(h:Rl w0 N aj ρ σ a w)(hF:w0.F rr=none)(iO:P.underlying t=some (.slice e))(ht:tid C=e)(hi:P.info? e=some i)(hz:i.zero=some z)
  (ga:i.size=aF C) (kZ:i.bytes <= 65536) (o6:z.cells.size=aF C) (hf:full C=0) (hd:RV w w0.heap.size aj [rr] (.sl C (o+2) q l) u) (hs:RV w Bx Uz q' (.sl C g qn l2) v) (hlen:l.length+l2.length<1073741824):
  ∃D w' aE,(Builtin.append_ #[t,t] ty #[u,v]).run P w = .ok D w'/\Rl w0 N aE (bW ρ rr (.dM D)) ((σ.drop rr).root rr (.sl (.sl C (o+2) false (l++l2)))) a w'/\mF D=true:=by
 subst ht;obtain⟨xs,yO,O,GX,jb⟩:=hd.aaZ hf (B':=0) (λb _=>Nat.zero_le b);obtain⟨A,c,news,rfl,wj,o7,GY⟩:=hs.reads hf;have gX:(l.length+l2.length)*i.bytes <= 140737488355328:=by
  have h1:(l.length+l2.length)*i.bytes <= 1073741824*65536:=Nat.mul_le_mul (by omega) kZ;omega
 obtain⟨D,w',dZ,J,I,lW⟩:=Tg (P:=P) w 0 t ty (tid C) i z (aF C) i.bytes iO hi hz ga rfl o6 (oV C) u l.length xs yO _ A l2.length c news wj o7 (by unfold maxLen;omega) gX (Nat.zero_le _);have GZ:(l++l2).length=l.length+l2.length:=List.length_append;rw[<- GZ]at J;have A3:=jb.append GY yO.1;have gi:mF D=true:=by rcases J.2 with ⟨rfl,_⟩|⟨_,_,_,rfl,_⟩<;>rfl
 have Q:Below 0 w w':=(Below.refl 0 w).grown I (Nat.zero_le _) (λ_ _=>Nat.zero_le _);have su:ja w0 w w':=⟨Q.os,Q.tape,Q.output,Q.size,λk E hL=>I.block k (kO E h.below.size) (λL=>by
  rcases(h.cX k _ (O k L.symm)).1 with h1|h1
  ·exact absurd E (Nat.not_lt.2 h1)
  ·exact h1 hL)⟩
 by_cases U:D.ownBlock=some w.heap.size
 ·have ei:w.heap.size<w'.heap.size:=by
   rcases J.2 with ⟨rfl,_⟩|⟨b,cap,cs,rfl,_,hh,_⟩
   ·cases U
   ·have:b=w.heap.size:=by simpa [Value.ownBlock]using U
    grind
  refine⟨D,w',bW aj w.heap.size (some [rr]),dZ,h.yM hF su ⟨I.size,λb hb Y=>I.block b hb (λL=>Y (O b L.symm)),λb hb=>cB _ _ _ (by omega),λb hb=>(h.cX b [] hb).2.2 rfl⟩ (λb k hb E=>?_) (λr Z=>cB _ _ _ Z) (.sl D _ (ck _ _ _) (Uy J A3 (λb hb=>?_))),gi⟩
  ·by_cases e:b=w.heap.size
   ·subst e;rw[ck]at E
    grind
   ·rw[cB _ _ _ e]at E;have:=(h.cX b k E).2.1;omega
  ·rw[U]at hb;injection hb with hb;subst hb;exact ck _ _ _
 ·have UA:D.ownBlock=u.ownBlock:=by
   rcases lW with lW|lW
   ·exact lW
   ·exact absurd lW U
  refine⟨D,w',aj,dZ,h.yM hF su ⟨I.size,λb hb Y=>I.block b hb (λL=>Y (O b L.symm)),λ_ _=>rfl,λb hb=>(h.cX b [] hb).2.2 rfl⟩ (λb k hb E=>?_) (λr Z=>cB _ _ _ Z) (.sl D _ (ck _ _ _) (Uy J A3 (λb hb=>O b (by rw[<- UA];exact hb)))),gi⟩
  have:=(h.cX b k E).2.1;omega
def UB{t:TC}{x:V}{l:aa (T t)}(h:x.M5 t=some l){q:aa Nat}{u:Value}(C:RV w B aj q x u):∃ g D,RV w B aj q (.sl t g D l) u:=by
 unfold V.M5 at h;split at h
 ·grind
 ·injection h with h;subst h;cases C;exact⟨0,false,.cS _ _ _⟩
 ·cases h
def UC{x:Lf}{k:V -> ah X}(h:iF σ x k=some r):∃ y,(∀ aj ρ a w,Rl w0 N aj ρ σ a w -> ∀ u,dA w w0.heap.size aj ρ x u -> ∃ q,RV w w0.heap.size aj q y u)/\k y=some r:=by
 cases x with
 |v z=>exact⟨z,λaj ρ a w _ u C=>⟨[],C.2⟩,h⟩
 |dead=>cases h
 | own q=>
  obtain⟨z,D,h⟩:=sj q _ h
  refine⟨z,λaj ρ a w hR u C=>?_,h⟩
  obtain⟨v,E,I⟩:=D.ok hR.root;have J:=C.2
  grind
def aa0{y:A}{k:V -> ah X}(h:qa σ y k=some r):∃ z,(∀ aj ρ a w,Rl w0 N aj ρ σ a w -> ∀ u,RA w w0.heap.size aj ρ y u -> ∃ q B' aE,RV w B' aE q z u)/\k z=some r:=by
 unfold qa at h;split at h
 ·obtain⟨z,C,D⟩:=UC h;exact⟨z,λaj ρ a w hR u E=>let ⟨q,I⟩:=C aj ρ a w hR u E;⟨q,_,_,I⟩,D⟩
 ·obtain⟨z,D,_,C⟩:=aaL h;exact⟨z,λaj ρ a w hR u E=>⟨[],0,_,C _ _ _ _ _ _ hR u E 0⟩,D⟩
 ·cases h
def amV{t ty:TypeId}{x y:A}{k:S -> ah X}(h:qe P N σ d t x y k=some r):∃ dR,k dR=some r /\ ∀ aj ρ a w,Rl w0 N aj ρ σ a w -> ∀ u v,RA w w0.heap.size aj ρ x u -> RA w w0.heap.size aj ρ y v ->
  ∃w' aE ρ' z,(Builtin.append_ #[t,t] ty #[u,v]).run P w = .ok z w'/\Rl w0 N aE ρ' dR (a.put (some d) z) w':=by
 unfold qe at h;split at h
 ·rename_i e tc q5;obtain⟨iO,ht,i,hi,ga,kZ⟩:=yN q5;cases L:(Nat.beq (full tc) 0&&(zeroOf P e).any (λz=>Nat.beq z.cells.size (aF tc)))with
  |false=>grind
  | true=>
   rw[L,ak]at h;rw[aO]at L;have hf:=cD L.1;obtain⟨z,hz,O⟩:=(Option.any_eq_true _ _).1 L.2;have O:=cD O;have oZ:i.zero=some z:=by unfold zeroOf at hz;simpa [hi]using hz
   obtain⟨yv,M8,C⟩:=aa0 (w0:=w0) (N:=N) h;clear h;split at C
   ·cases C
   ·rename_i l2 lV;split at C
    ·cases D:bC l2.length with
     |false=>grind
     | true=>
      rw[D,ak]at C;have D:l2.length<1073741824:=by simpa [bC]using D
      obtain⟨Q,h3⟩:=oY C
      refine⟨_,h3,λaj ρ a w hR u v J T=>?_⟩
      have J:u = .slice none 0 0:=by cases J.2;rfl
      subst J;obtain⟨q',_,_,E⟩:=M8 aj ρ a w hR v T;obtain⟨g,qn,E⟩:=UB lV E;obtain⟨U,w',aE,Y,Z,gi⟩:=hR.append (ty:=ty) (rr:=d) (o:=0) (q:=false) (l:=[]) (hR.dx d (.inl Q)) iO ht hi oZ ga kZ O hf (.cS _ _ _) E (by simpa using D);exact⟨w',aE,_,U,Y,Z.set ⟨gi,by simp[cN,ck]⟩ Q⟩
    ·rename_i rr;split at C
     ·rename_i t' o q l hm;split at C
      ·rename_i lX;subst lX;cases D:(Nat.blt d N&&(Nat.blt rr N || Nat.ble 60000 rr)&&bC (l.length+l2.length))with
       |false=>grind
       | true=>
        rw[D,ak]at C;rw[aO,aO,eB]at D;have G0:l.length+l2.length<1073741824:=by simpa [bC]using D.2
        have Q:d<N:=by have:=cL D.1.1;omega
        have wm:rr<N \/ 60000 <= rr:=D.1.2.imp (λh=>by have:=cL h;omega) (λh=>cL h)
        refine⟨_,C,λaj ρ a w hR u v J T=>?_⟩
        obtain⟨q',_,_,E⟩:=M8 aj ρ a w hR v T;obtain⟨g,qn,E⟩:=UB lV E;have gF:=hR.root rr _ hm;generalize I:aY.sl (.sl t' (o+2) q l)=x at gF;cases gF with
        |aB=>cases I
        |mp=>cases I
        |gh=>cases I
        | sl uu y dj hr=>
         injection I with I;subst I;have GV:uu=u:=by
          have h4:=J.2;simp only[cN,dj]at h4;simp_all
         subst GV;obtain⟨U,w',aE,Y,Z,gi⟩:=hR.append (ty:=ty) (hR.dx rr wm) iO ht hi oZ ga kZ O hf hr E G0;exact⟨w',aE,_,U,Y,Z.set ⟨gi,by simp[cN,ck]⟩ Q⟩
      ·cases C
     ·cases C
    ·cases C
 ·cases h
def Rl.aa1{t:TC}{g p:Nat}{U:Bool}{l ys:aa (T t)}{news:aa Value}(h:Rl w0 N aj ρ σ a w)(hm:σ.m q=some (.sl (.sl t (g+2) U l)))(hf:full t=0)(hp:p+ys.length <= l.length)(om:0<l.length)(jb:wh t ys news)(q6:news.length=ys.length*aF t):
  ∃ b cap,ρ q = .dM (.slice (some ⟨b,0,none⟩) l.length cap)/\l.length <= cap/\(∀ n,n<news.length -> (w.cell? ⟨b,p*aF t+n,none⟩).isSome=true/\w.frozen? ⟨b,p*aF t+n,none⟩=false) /\
   Rl w0 N aj ρ ⟨σ.t,bW σ.m q (some (.sl (.sl t (g+2) U (splice l p ys))))⟩ a (w.setCells b (p*aF t) news):=by
 have gF:=h.root q _ hm;generalize L:aY.sl (.sl t (g+2) U l)=x at gF;cases gF with
 |aB=>cases L
 |mp=>cases L
 |gh=>cases L
 | sl v y dj lY=>
  injection L with L;subst L;cases lY with
  |cS=>exact absurd om (Nat.lt_irrefl 0)
  |cZ=>exact absurd om (Nat.lt_irrefl 0)
  |de=>exact absurd om (Nat.lt_irrefl 0)
  |aD _ _ _ _ _ _ _ _ _ ho=>omega
  | own _ _ _ _ _ b cap cs u qc Y hs hn r9 hc Z=>
   have AT:(p+ys.length)*aF t <= cap*aF t:=iN _ (by omega);rw[Nat.add_mul]at AT;have lR:p*aF t+news.length <= cs.size:=by rw[q6,hs];exact AT
   have hW:=MS w b (p*aF t) news;obtain⟨I,gX,nE⟩:=F9 b (tid t) news (p*aF t) w cs Y lR;have tj:∀ n,I[n]?=if n<p*aF t then cs[n]? else if n<p*aF t+news.length then news[n-p*aF t]? else cs[n]?:=by
    intro n;have e2:I[n]?=(splice cs.toList (p*aF t) news)[n]?:=by
     rw[show I[n]?=I.toList[n]? by simp,nE];rfl
    rw[e2,vZ _ _ _ (by simpa using lR)];simp
   have GN:I.size=cs.size:=by
    rw[<- lM,nE];have:=tf cs.toList (p*aF t) news (by simpa using lR);simp only[splice]at this;simp_all
   have tu:=oV t;have hC:qV w (w.setCells b (p*aF t) news) aj ρ:=by
    intro k ad v ha E gi;by_cases eI:ad.block=b
    ·obtain⟨D,C,s',q',rfl,GO,amD,yI,_⟩:=vY k ad ha;have sg:ad=⟨b,ad.off,none⟩:=by cases ad;simp_all
     rw[sg,cell_of_row w b _ cs _ _ Y]at E;rw[sg,cell_of_row _ b _ I _ _ gX,tj];by_cases O:ad.off<p*aF t
     ·rw[bA O];exact E
     ·by_cases h2:ad.off<p*aF t+news.length
      ·exfalso;have hk:ad.off=(ad.off / aF t)*aF t+ad.off % aF t:=by rw[Nat.mul_comm];exact(Nat.div_add_mod _ _).symm
       have ei:ad.off<l.length*aF t:=by
        have:(p+ys.length)*aF t <= l.length*aF t:=iN _ hp;rw[Nat.add_mul]at this;omega
       have hi:ad.off / aF t<l.length:=Nat.div_lt_of_lt_mul (by rw[Nat.mul_comm];exact ei);obtain⟨y,hy⟩:=A1 t g l[ad.off / aF t] (ad.off % aF t) (Nat.mod_lt _ tu);have h3:=hc _ hi _ y hy;rw[<- hk,E]at h3;injection h3 with h3;have:=(Z _ hi _ y hy).aaJ (yG t g _ hf y (fT hy));rw[<- h3,gi]at this;cases this
      ·rw[bM O,bM h2];exact E
    ·exact(kf (hW.block _ eI)).trans E
   have AS:cN w aj ρ [q]=some (.slice (some ⟨b,0,none⟩) l.length cap):=by simp only[cN,dj]
   refine⟨b,cap,dj,hn,λn yJ=>⟨?_,frozen_of_row w b _ cs _ Y⟩,h.wrote hW qc hC ((yH.root q _ _ hm).ok h.root hW qc (List.suffix_refl _) hC AS ?_)⟩
   ·rw[cell_of_row w b _ cs _ _ Y];simp;omega
   ·have hlen:(splice l p ys).length=l.length:=tf l p ys hp;have key:∀ C (h:C<(splice l p ys).length) (D:Nat) x,(enc t g (splice l p ys)[C])[D]?=some x -> ∃ v,I[C*aF t+D]?=some v/\RV (w.setCells b (p*aF t) news) w0.heap.size aj (D :: C :: aF t :: [q]) x v:=by
     intro C h' D x Q;have r8:D<aF t:=by have:=(dW.1 Q).1;rwa [ku]at this
     have J:=bX h';generalize (splice l p ys)[C]=e at J Q;rw[vZ l p ys hp]at J;have uI:=yG t g e hf x (fT Q);have old:l[C]?=some e -> ∃ v,cs[C*aF t+D]?=some v/\RV (w.setCells b (p*aF t) news) w0.heap.size aj (D :: C :: aF t :: [q]) x v:=λhle=>by
      obtain⟨hi,rfl⟩:=dW.1 hle;exact⟨_,hc C hi D x Q,(Z C hi D x Q).th uI⟩
     by_cases O:C<p
     ·rw[bA O]at J;have ei:(C+1)*aF t <= p*aF t:=iN _ O;rw[iC]at ei;rw[tj,bA];exact old J
     ·rw[bM O]at J;by_cases h2:C<p+ys.length
      ·rw[bA h2]at J;obtain⟨hi,rfl⟩:=dW.1 J;obtain⟨v,E,_,nI⟩:=jb (C-p) hi g D x Q;have aC8:(C-p)*aF t=C*aF t-p*aF t:=Nat.sub_mul _ _ _;have hle:p*aF t <= C*aF t:=iN _ (by omega);have ei:=(dW.1 E).1;refine⟨v,?_,nI _ _ _ _⟩;rw[tj,bM,bA,<- E];congr 1;omega
      ·rw[bM h2]at J;have p9:(p+ys.length)*aF t <= C*aF t:=iN _ (by omega);rw[Nat.add_mul]at p9;rw[tj,bM,bM (by rw[q6];omega)];exact old J
    rw[<- hlen]
    refine .own [q] t g U (splice l p ys) b cap I (λC D=>(I[C*aF t+D]?).getD undef) qc gX (GN.trans hs) (by rw[hlen];exact hn) ⟨r9.1,λh=>by rw[hlen];exact r9.2 h⟩ (λC h D x qW=>?_) (λC h D x qW=>?_)
    ·obtain⟨v,E,_⟩:=key C h D x qW;rw[E];rfl
    ·obtain⟨v,E,Z⟩:=key C h D x qW;rw[E];exact Z
def aa2(b i c s:Nat):sliced (some ⟨b,0,none⟩) 0 i c s = .slice (some ⟨b,0,none⟩) i c:=by
 unfold sliced;split
 ·rfl
 ·rw[kP,Addr.add_lit];simp
def A4{X:Type}(P:Program)(N:Nat)(σ:S)(d:Nat)(t:TypeId)(x y:A)(k:S->ah X):ah X:=
 match x,y with
 | .view [q] s 0 i,.view [E] I j m=>(match uN P t with
  | some (e,C)=>bif Nat.beq E q&&Nat.beq s (aF C)&&Nat.beq I (aF C)&&Nat.beq (full C) 0&&Nat.blt d N then (match σ.m q with
   |some (.sl (.sl D (o+2) J l))=>bif Nat.beq (full D) 0&&Nat.beq (aF D) (aF C)then (if i<=j/\j<=m/\m<=l.length/\0<l.length then k ((σ.root q (.sl (.sl D (o+2) J (splice l i ((l.take m).drop j))))).set d (.view [q] s 0 (i+(m-j))))else none)else none
   |_=>none)else none
  |none=>none)
 |_,_=>none
def amW{t ty:TypeId}{x y:A}{k:S -> ah X}(h:A4 P N σ d t x y k=some r):∃ dR,k dR=some r /\ ∀ aj ρ a w,Rl w0 N aj ρ σ a w -> ∀ u v,RA w w0.heap.size aj ρ x u -> RA w w0.heap.size aj ρ y v ->
  ∃w' aE ρ' z,(Builtin.append_ #[t,t] ty #[u,v]).run P w = .ok z w'/\Rl w0 N aE ρ' dR (a.put (some d) z) w':=by
 unfold A4 at h;split at h
 ·rename_i q s i q' s' j m;split at h
  ·rename_i e D q5;obtain⟨iO,ht,inf,hi,J,kZ⟩:=yN q5;cases Y:(Nat.beq q' q&&Nat.beq s (aF D)&&Nat.beq s' (aF D)&&Nat.beq (full D) 0&&Nat.blt d N)with
   |false=>grind
   | true=>
    rw[Y,ak]at h;simp only[aO]at Y;obtain⟨⟨⟨⟨c1,c2⟩,c3⟩,c4⟩,c5⟩:=Y;obtain rfl:=cD c1;obtain rfl:=cD c2;obtain rfl:=cD c3;have hd:d<N:=by have:=cL c5;omega
    split at h
    ·rename_i L g qn l hm;cases O:(Nat.beq (full L) 0&&Nat.beq (aF L) (aF D))with
     |false=>grind
     | true=>
      rw[O,ak]at h;rw[aO]at O;have hf:=cD O.1;have Q:=cD O.2;split at h
      ·rename_i hb;obtain⟨b1,b2,b3,b4⟩:=hb
       refine⟨_,h,λaj ρ a w hR u v hu hv=>?_⟩
       obtain⟨A,n,c,hva,a1,a2,rfl⟩:=hu;obtain⟨A',n',c',T,a1',a2',rfl⟩:=hv;rw[hva]at T;injection T with T;injection T with C Z e3;subst C Z e3
       -- what is moved
       have gF:=hR.root q' _ hm;generalize E:aY.sl (.sl L (g+2) qn l)=x at gF;cases gF with
       |aB=>cases E
       |mp=>cases E
       |gh=>cases E
       | sl wo y dj lY=>
        injection E with E;subst E;have M9:wo = .slice A n c:=by
         simp only[cN,dj]at hva;simp_all
        subst M9;have Na:RV w 0 (λ_=>none) [] (.sl L 0 qn l) (.slice A n c):=lY.gy;have hn:n=l.length:=by cases Na<;>rfl
        obtain⟨hp,wq,q7⟩:=Na.part (a:=j) (h:=m) (by omega) b2 (by omega);obtain⟨A2,c2,news,gi,wj,o7,jb⟩:=hp.reads hf;have hlen:((l.take m).drop j).length=m-j:=by rw[List.length_drop,fP];omega
        obtain⟨b,cap,U,oW,o8,gA⟩:=hR.aa1 hm hf (p:=i) (ys:=(l.take m).drop j) (news:=news) (by rw[hlen];omega) b4 jb (by rw[hlen];exact hlen ▸ wj.1);rw[dj]at U;injection U with U;injection U with C Z e3;subst C Z e3;rw[hlen]at gi;have Nb:sliced (some ⟨b,0,none⟩) 0 i c (aF D) = .slice (some ⟨b,0,none⟩) i c:=aa2 b i c _;obtain⟨ad,wo⟩:∃ ad,sliced (some ⟨b,0,none⟩) j m c (aF D) = .slice (some ad) (m-j) (c-j):=by
         unfold sliced;by_cases hcj:c=j
         ·grind
         ·grind
        have UD:A2=some ad:=by
         grind
        subst UD;have q6:news.length=(m-j)*inf.size:=by rw[wj.1,hlen,J,Q]
        have dZ:=run_append_room_cells (P:=P) w t ty e inf iO hi b 0 i c ad (m-j) (c-j) news q6 (λk u I=>by
         have tv:=(dW.1 I).1;have tu:0<((l.take m).drop j).length:=by
          rcases Nat.eq_zero_or_pos ((l.take m).drop j).length with h0|h0
          ·grind
          ·exact h0
         obtain⟨b',AX,C,_,uO⟩:=wj.2 tu;injection C with C;subst C;rw[Addr.add_lit];exact uO k u I) o7 (by omega) (λk I=>by rw[fj,J,<- Q];exact(o8 k I).1) (λk I=>by rw[fj,J,<- Q];exact(o8 k I).2)
        refine⟨_,aj,ρ,_,by rw[Nb,wo];exact dZ,?_⟩;rw[fj,J,<- Q];exact gA.set ⟨some ⟨b,0,none⟩,l.length,c,by simp only[cN,dj],Nat.zero_le _,by omega,(aa2 b _ c _).symm⟩ hd
      ·cases h
    ·cases h
  ·cases h
 ·cases h
def amX{t:TypeId}{x y:A}{k:S -> ah X}(h:A4 P N σ d t x y k=some r):∃ D,k D=some r /\ ∀ (X:Type) (k:S -> ah X),A4 P N σ d t x y k=k D:=by
 unfold A4 at h;split at h
 ·rename_i q s i L O j m;split at h
  ·rename_i e C Q;cases E:(Nat.beq L q&&Nat.beq s (aF C)&&Nat.beq O (aF C)&&Nat.beq (full C) 0&&Nat.blt d N)with
   |false=>simp_all
   | true=>
    rw[E,ak]at h;split at h
    ·rename_i I g U l T;cases J:(Nat.beq (full I) 0&&Nat.beq (aF I) (aF C))with
     |false=>simp_all
     | true=>
      rw[J,ak]at h;split at h
      ·rename_i hb
       refine⟨_,h,λX k=>?_⟩
       simp only[A4,Q,E,T,J,ak];simp_all
      ·cases h
    ·cases h
  ·cases h
 ·cases h
def A5{X:Type}(P:Program)(σ:S)(t:TypeId)(x:A)(k:S->ah X):ah X:=
 match x with
 | .view [q] s i j=>(match uN P t with
  | some (e,C)=>(match M4 P e C with
   | some z=>(match σ.m q with
    |some (.sl (.sl D (o+2) E l))=>if h:C=D then (bif Nat.beq s (aF C)&&Nat.beq (full C) 0 then (if i<=j/\j<=l.length then k (σ.root q (.sl (.sl D (o+2) E (splice l i (List.replicate (j-i) (h ▸ z))))))else none)else none)else none
    |_=>none)
   |none=>none)
  |none=>none)
 |_=>none
def amY{t ty:TypeId}{x:A}{k:S->ah X}(h:A5 P σ t x k=some r):∃ dR,k dR=some r/\∀ aj ρ a w,Rl w0 N aj ρ σ a w->∀ u,RA w w0.heap.size aj ρ x u->
  ∃w',(Builtin.clear_ #[t] ty #[u]).run P w = .ok (.tuple #[]) w'/\Rl w0 N aj ρ dR a w':=by
 unfold A5 at h;split at h
 ·rename_i q s i j;split at h
  ·rename_i e C q5;obtain⟨iO,ht,inf,hi,ga,kZ⟩:=yN q5;split at h
   ·rename_i z O;split at h
    ·rename_i t' g Z l hm;split at h
     ·rename_i lX;subst lX;cases Q:(Nat.beq s (aF C)&&Nat.beq (full C) 0)with
      |false=>rw[Q]at h;cases h
      | true=>
       rw[Q,ak]at h;rw[aO]at Q;obtain rfl:=cD Q.1;have hf:=cD Q.2;split at h
       ·rename_i hb
        refine⟨_,h,λaj ρ a w hR u hu=>?_⟩
        obtain⟨A,n,c,T,a1,a2,rfl⟩:=hu;unfold M4 at O;split at O
        ·cases O
        ·rename_i D DG;split at O
         ·cases O
         ·rename_i vs lT;have oZ:inf.zero=some D:=by unfold zeroOf at DG;simpa [hi]using DG
          obtain⟨sr,lV⟩:=Uw _ _ lT;have E:=lQ C (full C) vs z O;have o6:D.cells.size=aF C:=by rw[<-ku C (full C) z,<-E.1,sr];simp
          have hzr:∀w:World,(zeroValue e).run P w = .ok D w:=λw=>by simp[zeroValue,typeInfo,hi,oZ]
          rcases Nat.eq_zero_or_pos (j-i)with h0|h0
          ·have yI:splice l i (List.replicate (j-i) z)=l:=by rw[h0];simp[splice]
           refine⟨w,?_,?_⟩
           ·unfold sliced;rw[h0];cases (if c=i then A else A.map (·.add (i*aF C)))<;>simp[Builtin.clear_,gJ iO]
           ·show Rl w0 N aj ρ (σ.root q (.sl (.sl C (g+2) Z (splice l i (List.replicate (j-i) z))))) a w;rw[yI];have:σ.root q (.sl (.sl C (g+2) Z l))=σ:=by
             unfold S.root;have:bW σ.m q (some (.sl (.sl C (g+2) Z l)))=σ.m:=by
              funext k;by_cases E:k=q
              ·subst E;rw[ck,hm]
              ·rw[cB _ _ _ E]
             rw[this]
            rw[this];exact hR
          ·have o9:(Builtin.zeroCells D.cells (j-i))=madeCells D.cells ((j-i)*D.cells.size):=rfl;have jb:wh C (List.replicate (j-i) z) (Builtin.zeroCells D.cells (j-i)).toList:=by
            intro i' h' o' I x J;rw[List.getElem_replicate]at J;have hj:I<aF C:=by have:=(dW.1 J).1;rwa [ku]at this
            rw[nh]at h';have r8:=hj;rw[<-o6]at r8;have U:(Builtin.zeroCells D.cells (j-i)).toList[i'*aF C+I]?=some D.cells[I]:=by
             rw[o9,Array.getElem?_toList,<-o6];exact aaX D.cells _ i' I r8 (by
              have:(i'+1)*D.cells.size<=(j-i)*D.cells.size:=iN _ (by omega);rw[iC]at this;omega)
            rw[DH C hf o' (full C)]at J;have G1:I<(enc C (full C) z).length:=(dW.1 J).1;rw[<-E.1]at G1;have hy:=bX G1;generalize vs[I]=y at hy;obtain⟨v,Y,Ux⟩:=lV I y hy;have L:D.cells[I]=v:=by
             have e1:D.cells.toList[I]?=some D.cells[I]:=by simp[r8]
             rw[e1]at Y;injection Y
            have nI:∀(w':World) (B':Nat) (aE:bG) (q':aa Nat),RV w' B' aE q' x v:=λw' B' aE q'=>(aaV Ux _).wk (E.2 I y x hy J)
            exact⟨_,U,by rw[L];exact(nI w 0 (λ_=>none) []).one,λw' B' aE q'=>by rw[L];exact nI _ _ _ _⟩
           have q6:(Builtin.zeroCells D.cells (j-i)).toList.length=(List.replicate (j-i) z).length*aF C:=by rw[o9,nh,lM,size_madeCells,o6]
           obtain⟨b,cap,dj,oW,U,gA⟩:=hR.aa1 hm hf (p:=i) (ys:=List.replicate (j-i) z) (by rw[nh];omega) (by omega) jb q6;simp only[cN,dj]at T;injection T with T;injection T with e1 e2 e3;subst e1 e2 e3;refine⟨_,?_,gA⟩;have gi:sliced (some ⟨b,0,none⟩) i j cap (aF C) = .slice (some ⟨b,i*aF C,none⟩) (j-i) (cap-i):=by
            unfold sliced;rw[bM,kP,Addr.add_lit,fj]
           have ld:=run_storeCells_cells (P:=P) b (i*aF C) (Builtin.zeroCells D.cells (j-i)).toList 0 w (λk E=>(U k E).1) (λk E=>(U k E).2) (λv Y=>by
            obtain⟨k,E⟩:=List.mem_iff_getElem?.1 Y;have tv:=(dW.1 E).1;rw[q6,nh]at tv;have tu:=oV C;obtain⟨x,J⟩:=A1 C 0 z (k % aF C) (Nat.mod_lt _ tu);have ei:k / aF C<(List.replicate (j-i) z).length:=by rw[nh];exact Nat.div_lt_of_lt_mul (by rw[Nat.mul_comm];exact tv)
            obtain⟨v',L,o7,_⟩:=jb (k / aF C) ei 0 (k % aF C) x (by rw[List.getElem_replicate];exact J);rw[Nat.mul_comm,Nat.div_add_mod,E]at L;injection L with L;rw[L];exact o7)
           simp only[Nat.add_zero]at ld;rw[gi];obtain⟨n',yJ⟩:∃n',j-i=n'+1:=⟨j-i-1,by omega⟩
           rw[yJ]at ld ⊢;simp[Builtin.clear_,gJ iO,hzr,ld]
       ·cases h
     ·cases h
    ·cases h
   ·cases h
  ·cases h
 ·cases h
def amZ{t:TypeId}{x:A}{k:S -> ah X}(h:A5 P σ t x k=some r):∃ C,k C=some r /\ ∀ (X:Type) (k:S -> ah X),A5 P σ t x k=k C:=by
 unfold A5 at h;split at h
 ·rename_i q s i j;split at h
  ·rename_i e D I;split at h
   ·rename_i z J;split at h
    ·rename_i Q g T l L;split at h
     ·rename_i O;subst O;cases E:(Nat.beq s (aF D)&&Nat.beq (full D) 0)with
      |false=>simp_all
      | true=>
       rw[E,ak]at h;split at h
       ·rename_i hb
        refine⟨_,h,λX k=>?_⟩
        simp only[A5,I,J,L,E,ak,dite_true];simp_all
       ·cases h
     ·cases h
    ·cases h
   ·cases h
  ·cases h
 ·cases h
end
def yP(place:Nat->ah (Nat×Nat))(cells:aa Lf):aa (Nat×A)->ah (aa Lf)
 |[]=>some cells
 | (i,x) :: rest=>match place i,x.yL with
  |some (off,n),some xs=>if xs.length=n/\off+n<=cells.length then (bif xs.all Lf.live then yP place (splice cells off xs) rest else none)else none
  |_,_=>none
def aa3(P:Program)(t:TypeId):ah (Nat->ah (Nat×Nat)):=
 match P.underlying t with
 |some (.array _ e)=>(P.info? e).map λC=>λi=>some (i*C.size,C.size)
 |some (.struct fields)=>(fields.toList.mapM (λf=>(P.info? f.type).map λi=>(f.offset,i.size))).map λps=>(ps.toArray[·]?)
 |_=>none
def uP{X:Type}(P:Program)(σ:S)(t:TypeId)(parts:aa (Nat×Operand))(k:A->ah X):ah X:=
 match zeroOf P t,aa3 P t with
 | some z,some pl=>match yP pl (z.cells.toList.map iG) (parts.map λp=>(p.1,aI σ p.2))with
  |some cs=>k (.agg cs)
  |none=>none
 |_,_=>none
def Lf.asV:Lf->ah V
 |.v x=>some x
 |_=>none
def uQ:aa Lf->ah (aa V)
 |[]=>some []
 | x :: xs=>match x.asV,uQ xs with
  |some y,some ys=>some (y::ys)
  |_,_=>none
def G2(t:TC)(g:Nat):Nat->aa V->ah (aa (T t))
 |0,[]=>some []
 |0,_=>none
 | n+1,C=>match dec t g (C.take (aF t)),G2 t g n (C.drop (aF t))with
  |some x,some xs=>some (x::xs)
  |_,_=>none
def A6{X:Type}(P:Program)(N:Nat)(σ:S)(d:Nat)(t:TypeId)(len:Nat)(parts:aa (Nat×Operand))(k:S->ah X):ah X:=
 match uN P t with
 | some (e,C)=>match zeroOf P e with
  | some z=>bif Nat.beq (full C) 0&&Nat.beq z.cells.size (aF C)&&Nat.blt (len*aF C) 16777217 then (match yP (λi=>some (i*aF C,aF C)) (List.replicate len (z.cells.toList.map iG)).flatten (parts.map λp=>(p.1,aI σ p.2))with
   | some cs=>(match uQ cs with
    | some D=>(match G2 C 0 len D with
     |some l=>iw N σ d (.sl (.sl C 2 true l)) (.lf (.own [d])) k
     |none=>none)
    |none=>none)
   |none=>none)else none
  |none=>none
 |none=>none
section
variable {P:Program} {w w':World} {w0:Wd} {B N:Nat} {aj aE:bG} {ρ ρ':Nat->Loc} {σ:S} {a:Act} {X:Type} {d:Nat} {r:X}
def aa4(off:Nat):∀ (l:aa Value) (n:Nat) (cs:Array Value),off+n+l.length <= cs.size ->
  ((l.zipIdx n).foldl (λ(cs:Array Value) (p:Value×Nat)=>cs.setIfInBounds (off+p.2) p.1) cs).toList=splice cs.toList (off+n) l
 |[],n,cs,_=>by simp[splice]
 | v :: l,n,cs,h=>by
  simp at h;rw[List.zipIdx_cons,List.foldl_cons,aa4 off l (n+1) _ (by simp;omega)];have C:off+n<cs.toList.length:=by simp;omega
  simp only[splice,Array.toList_setIfInBounds,List.length_cons];have D:(cs.toList.set (off+n) v).take (off+(n+1))=cs.toList.take (off+n)++[v]:=by
   rw[show off+(n+1)=off+n+1 by omega,List.take_succ_eq_append_getElem (by simpa using C),List.getElem_set_self,List.take_set_of_le (eK _)]
  have E:(cs.toList.set (off+n) v).drop (off+(n+1)+l.length)=cs.toList.drop (off+(n+1)+l.length):=by
   rw[List.drop_set_of_lt (by omega)]
  grind
def dQ.splice{cs xs:aa Lf}{D E:Array Value}(h:dQ w B aj ρ cs D)(I:dQ w B aj ρ xs E){off:Nat}(J:off+xs.length <= cs.length){L:Array Value}(Q:L.toList=Proofs.YtglnbhiaknohlaaGreat.splice D.toList off E.toList):dQ w B aj ρ (Proofs.YtglnbhiaknohlaaGreat.splice cs off xs) L:=by
 have T:off+E.toList.length <= D.toList.length:=by rw[lM,lM,I.1,h.1];exact J
 refine⟨?_,λj x C=>?_⟩
 ·rw[tf _ _ _ J,<- lM,Q,tf _ _ _ T,lM,h.1]
 ·have e:L[j]?=(Proofs.YtglnbhiaknohlaaGreat.splice D.toList off E.toList)[j]?:=by rw[<- Q,Array.getElem?_toList]
  rw[e,vZ _ _ _ T,lM,I.1];rw[vZ _ _ _ J]at C;by_cases O:j<off
  ·simp[O,Array.getElem?_toList]at C ⊢;exact h.2 j x C
  ·by_cases U:j<off+xs.length
   ·simp[O,U,Array.getElem?_toList]at C ⊢;exact I.2 _ x C
   ·simp[O,U,Array.getElem?_toList]at C ⊢;exact h.2 j x C
def Nc{place:Nat -> ah (Nat×Nat)}:∀ (parts:aa (Nat×A)) (cells:aa Lf) (C:Array Value) (D:aa (Nat×Value)) (out:aa Lf),yP place cells parts=some out -> dQ w B aj ρ cells C -> D.length=parts.length ->
  (∀(j:Nat) p q,parts[j]?=some p -> D[j]?=some q -> p.1=q.1/\RA w B aj ρ p.2 q.2) -> ∃E,Instr.fill place C D=some E/\dQ w B aj ρ out E
 | [],cells,C,D,out,h,hR,hl,I=>by
  have:D=[]:=List.eq_nil_of_length_eq_zero hl;subst this;injection h with h;subst h;exact⟨C,rfl,hR⟩
 | (i,x) :: rest,cells,C,D,out,h,hR,hl,I=>by
  cases D with
  |nil=>simp at hl
  | cons v D=>
   obtain⟨i',v⟩:=v;obtain⟨e,J⟩:=I 0 _ _ rfl rfl;simp only at e J;subst e;unfold yP at h;split at h
   ·rename_i off n xs Q T;split at h
    ·rename_i hb;cases L:xs.all Lf.live with
     |false=>grind
     | true=>
      rw[L,ak]at h;obtain⟨O,_⟩:=GR T L J;have U:v.cells.size=n:=by rw[O.1];exact hb.1
      have lR:¬ (off+v.cells.size > C.size):=by rw[U,hR.1];omega
      have Y:(v.cells.zipIdx.foldl (λ(cs:Array Value) (p:Value×Nat)=>cs.setIfInBounds (off+p.2) p.1) C).toList=Proofs.YtglnbhiaknohlaaGreat.splice C.toList off v.cells.toList:=by
       have:=aa4 off v.cells.toList 0 C (by rw[lM];omega);rw[<- Array.foldl_toList,Array.toList_zipIdx];exact this
      have Z:=hR.splice O (off:=off) (by rw[hb.1];exact hb.2) Y;obtain⟨E,sk,gA⟩:=Nc rest _ _ D out h Z (by simpa using hl) (λj p q hp' GO=>I (j+1) p q (by simpa using hp') (by simpa using GO));refine⟨E,?_,gA⟩;have eI:(v.cells.size≠n || off+v.cells.size > C.size)=false:=by
       grind
      simp only[Instr.fill,Q];rw[bM (by rw[eI];simp)];exact sk
    ·cases h
   ·cases h
def am0(z:Value):dQ w B aj ρ (z.cells.toList.map iG) z.cells:=by
 refine⟨by simp,λj x C=>?_⟩
 rw[dz]at C;cases D:z.cells.toList[j]? with
 |none=>simp_all
 | some v=>
  rw[D]at C;injection C with C;subst C;exact⟨v,by simpa using D,M6 v⟩
def am1{t:TypeId}{parts:Array (Nat×Operand)}{k:A -> ah X}(h:uP P σ t parts.toList k=some r):∃ y,k y=some r /\ ∀ aj ρ a w,Rl w0 N aj ρ σ a w ->
  ∃v,(Instr.build t (parts.map λ(i,x)=>(i,a.eval x))).run P w = .ok v w/\RA w w0.heap.size aj ρ y v:=by
 unfold uP at h;split at h
 ·rename_i z pl E C;split at h
  ·rename_i cs U
   refine⟨_,h,λaj ρ a w hR=>?_⟩
   obtain⟨O,Q,Y⟩:=Nc (w:=w) (B:=w0.heap.size) (aj:=aj) (ρ:=ρ) _ _ z.cells (parts.toList.map λp=>(p.1,a.eval p.2)) cs U (am0 z) (by simp) (λj p q D I=>by
    rw[dz]at D I;cases T:parts.toList[j]? with
    |none=>rw[T]at D;cases D
    | some x=>
     rw[T]at D I;injection D with D;injection I with I;subst D I;exact⟨rfl,hR.aI x.2⟩)
   refine⟨_,run_build (P:=P) w t _ O ?_,O,rfl,Y⟩;have Z:(parts.map λ(i,x)=>(i,a.eval x)).toList=parts.toList.map λp=>(p.1,a.eval p.2):=by simp
   rw[Z];unfold zeroOf at E;unfold Program.built;cases hi:P.info? t with
   |none=>simp[hi]at E
   | some i=>
    have E:i.zero=some z:=by simpa [hi]using E
    unfold aa3 at C;split at C
    ·rename_i n e J;cases L:P.info? e with
     |none=>simp[L]at C
     | some ie=>
      rw[L]at C;injection C with C;subst C;simp[J,E,L];exact Q
    ·rename_i fields J;cases D:fields.toList.mapM (λf=>(P.info? f.type).map λi=>(f.offset,i.size))with
     |none=>rw[D]at C;cases C
     | some ps=>
      rw[D]at C;injection C with C;subst C;simp only[J,E,D];exact Q
    ·cases C
  ·cases h
 ·cases h
def Nd:∀ (cs:aa Lf) (C:aa V),uQ cs=some C->cs=C.map .v
 |[],C,h=>by injection h with h;subst h;rfl
 | x :: xs,C,h=>by
  unfold uQ at h;split at h
  next y ys D E=>injection h with h;subst h;rw[Nd xs ys E,List.map_cons];cases x<;>first|(injection D with D;rw[D])|cases D
  ·cases h
def UE(t:TC)(g:Nat):∀ (n:Nat) (C:aa V) (l:aa (T t)),G2 t g n C=some l -> l.length=n/\C.length=n*aF t /\ ∀ i (hi:i<l.length) (j:Nat) x,(enc t g l[i])[j]?=some x -> ∃ y,C[i*aF t+j]?=some y/\Wk y x
 | 0,[],l,h=>by
  injection h with h;subst h;exact⟨rfl,by simp,λi hi=>by simp at hi⟩
 |0,_::_,l,h=>by cases h
 | n+1,C,l,h=>by
  unfold G2 at h;split at h
  ·rename_i x xs I J;injection h with h;subst h;obtain⟨L,U,Y⟩:=UE t g n _ xs J;have D:=lQ t g _ x I;have hlen:(C.take (aF t)).length=aF t:=by rw[D.1,ku]
   have Z:aF t <= C.length:=by rw[fP]at hlen;omega
   refine⟨by simp[L],?_,λi hi j y E=>?_⟩
   ·grind
   ·cases i with
    | zero=>
     have O:j<aF t:=by have:=(dW.1 E).1;rwa [ku]at this
     have Q:=bX (by rw[hlen];exact O);refine⟨_,?_,D.2 j _ y Q E⟩;simp_all
    |succ i =>grind
  ·cases h
end
end Go.Proofs.YtglnbhiaknohlaaGreat
