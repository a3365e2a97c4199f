/-
  Running the program over pure contents, and that it follows (part 1). Nothing here is a claim.
-/
import Derived.Test.YtglnbhiaknohlaaGreatAppend
import Derived.Test.YtglnbhiaknohlaaGreatLaws
import Derived.Handy
import Derived.Great.BuildSlice
import Derived.ArgAppend
set_option linter.unusedSimpArgs false
namespace Go.Proofs.YtglnbhiaknohlaaGreat
open Go.RowKit
set_option linter.defProp false
abbrev aa:=List
abbrev aj:=Option
abbrev af:=Unit
def ak:=@cond_true
def ei:=@Bool.or_eq_true
def aM:=@Bool.and_eq_true
def ck:=@Nat.eq_of_beq_eq_true
def cI:=@Nat.le_of_ble_eq_true
def ga:=@List.mem_of_getElem?
def dw:=@List.getElem?_map
def kI:=@Nat.lt_of_lt_of_le
def kJ:=@World.cell?_of_block
def gd:=@Array.getElem?_eq_some_iff
def fo:=@Nat.zero_add
theorem br.{u}{c:Prop}{h:Decidable c}(k:c:=by omega){α:Sort u}{t e:α}:ite c t e=t:=if_pos k
def dh:=@List.length_map
def kK:=@List.any_eq_false
def aq:=@cond_false
def iu:=@Array.getD_eq_getD_getElem?
def lW:=@Array.length_toList
def oc:=@Array.getElem?_toList
theorem bE.{u}{c:Prop}{h:Decidable c}(k:¬c:=by omega){α:Sort u}{t e:α}:ite c t e=e:=if_neg k
def iw:=@List.length_set
def dQ:=@List.getElem?_eq_some_iff
def bO:=@List.getElem?_eq_getElem
def eB:=@Nat.le_refl
def iN:=@Nat.mul_le_mul_right
def gH:=@Nat.succ_mul
def iO:=@Nat.zero_le
def jj:=@Option.map_some
def fq:=@Sem.run_bind
def kL:=@Result.andThen_ok
def gT:=@run_underlying
def bF:=@congrArg
def fQ:=@List.mem_cons
def cE:=@List.all_eq_true
def cO:=@List.getElem_mem
def iP:=@Nat.ble_eq_true_of_le
def iy:=@Option.some.injEq
def lX:=@List.map_congr_left
def fF:=@List.length_take
def o8:=@List.length_append
def mO:=@List.length_replicate
def lY:=@List.length_cons
def od:=@decide_eq_false_iff_not
def en:=@List.getD_eq_getElem?_getD
def o9:=@Bool.or_eq_false_iff
def gy:=@Bool.not_eq_true'
def lZ:=@List.map_append
theorem az.{u}{c:Prop}{h:Decidable c}(k:c:=by omega){α:Sort u}{t:c->α}{e:¬c->α}:dite c t e=t k:=dif_pos k
def oe:=@List.mem_singleton
def iz:=@List.length_singleton
def jH:=@List.nil_append
def eV:=@List.mem_range
def jI:=@List.getElem_range
def cr:=@Bool.true_and
theorem aP{p:Prop}[Decidable p](k:p:=by omega):decide p=true:=decide_eq_true k
def gf:=@decide_eq_true_eq
def bB:=@Bool.not_true
def qg:=@Int.tmod_eq_emod_of_nonneg
theorem aW{p:Prop}[Decidable p](k:¬p:=by omega):decide p=false:=decide_eq_false k
def bu:=@Int.toNat_natCast
def iA:=@List.take_length
def dY:=@Sum.elim_inl
def bT:=@Int.natCast_zero
def fy:=@Int.eq_ofNat_of_zero_le
def kM:=@beq_self_eq_true
def ju:=@List.mem_iff_getElem
def l5:=@List.findIdx?_eq_some_iff_getElem
def cY:=@List.length_range
def gU:=@Bool.not_false
def jJ:=@Bool.false_and
def qh:=@Int.tdiv_eq_ediv_of_nonneg
def fz:=@beq_iff_eq
set_option linter.unusedVariables false
set_option linter.unusedSimpArgs false
structure aO where
 cq:Int
 aC:Int
 rows:Int
 aN:Int
structure aL where
 ax:Int
 row:Int
 bR:Int
structure ld where
 order:Int
 hash:Bool
structure MA where
 owner:List Int
structure aH where
 kind:Int
 ax:Int
 row:Int
 bR:Int
structure dc where
 jX:Int
 rp:Int
 gI:Int
 nE:Int
 jY:Int
 lu:Int
 nG:Int
 nH:Int
 jK:Int
 wr:Int
 pg:Int
 pn:Int
 sx:Int
 pq:Int
 qi:Int
 xp:Int
 xs:Int
structure fC where
 open_:Bool
 row:Int
structure cM where
 aC:List fC
 bh:Int
structure fG where
 at_:Int
 cmd:aH
structure dF where
 last:List Int
 bg:List Int
structure bZ where
 symbols:List Int
 iX:Bool
structure dx where
 cells:List bZ
 bC:List Int
 bz:List Int
structure lz where
 bC:Int
 bz:Int
structure cx where
 rows:List Int
 counts:List Int
 c7:Int
structure dG where
 bP:Int
 map:List Int
structure cZ where
 aJ:List Int
 wait:Int
 dN:Bool
structure aX where
 id:Int
 dB:Int
 line:Int
 write:Bool
 data:Int
 at_:Int
structure cz where
 weight:Int
 fL:Int
structure gJ where
 on:Bool
 low:Int
 high:Int
structure MB where
 owner:List Int
 length:Int
structure MC where
 id:Int
 at_:Int
structure eT where
 state:Int
 since:Int
 idle:Int
structure og where
 down:Int
 sleep:Int
structure cv where
 line:Int
 code:Int
 times:Int
structure MD where
 ald:List ByteArray
structure ME where
 ale:List Int
 next:Int
structure MF where
 count:Int
 commands:List aH
structure Dp where
 count:Int
 tag:Int
structure Gj where
 root:Int
 mid:List Dp
 leaf:List Dp
structure MG where
 key:Int
 tree:Gj
 data:List Int
 tags:List Int
structure lA where
 next:Int
 every:Int
 wait:Int
structure MH where
 index:Int
 before:bZ
 after:bZ
 code:Int
structure MI where
 ax:Int
 from_:Int
 to:Int
 next:Int
structure dS where
 eP:Int
 cap:Int
 eK:Int
 low:Int
 high:Int
 weights:List Int
 eA:og
structure gi where
 bU:dS
 next:dS
 waits:Bool
structure eX where
 ay:aO
 cm:dc
 mapping:ld
 bP:Int
 interval:Int
 hD:Int
 dH:lz
structure fe where
 id:Int
 at_:Int
 data:Int
 code:Int
structure av where
 config:eX
 box:gi
 now:Int
 aY:cM
 ready:dF
 array:dx
 spare:dG
 aQ:cZ
 bK:List cx
 guard:List Int
 pending:List aL
 queue:List aX
 shares:List cz
 drain:gJ
 bh:eT
 cU:lA
 errors:List cv
 trace:List fG
 cy:List fe
structure jk where
 kind:Int
 request:aX
 n:Int
 yw:Int
 addr:aL
 oh:dS
structure MJ where
 line:Int
 data:Int
 code:Int
structure bN where
 b:List Int
 i:Int
 h:Int
inductive TC where
 |int|u8|bool|str
 |fR
 |Addr
 |q9
 |yx
 |Command
 |lC
 |nI
 |iQ
 |Event
 |lD
 |Cell
 |Array
 |sy
 |iR
 |om
 |lE
 |dD
 |gj
 |oq
 |yz
 |yA
 |Power
 |sA
 |gK
 |yB
 |yC
 |Receiver
 |Node
 |Tree
 |yD
 |ri
 |yE
 |Move
 |nJ
 |ot
 |Config
 |pz
 |cV
 |Act
 |Fact
 |rj
 |sl (t:TC)
 |lF
 |yF (g:Nat)
 |Dq (g:Nat)
 |yG (g:Nat)
 |fnCommand (g:Nat)
deriving DecidableEq
def T:TC->Type
 |.int=>Int
 |.u8=>Int
 |.bool=>Bool
 |.str=>ByteArray
 |.fR=>aO
 |.Addr=>aL
 |.q9=>ld
 |.yx=>MA
 |.Command=>aH
 |.lC=>dc
 |.nI=>fC
 |.iQ=>cM
 |.Event=>fG
 |.lD=>dF
 |.Cell=>bZ
 |.Array=>dx
 |.sy=>lz
 |.iR=>cx
 |.om=>dG
 |.lE=>cZ
 |.dD=>aX
 |.gj=>cz
 |.oq=>gJ
 |.yz=>MB
 |.yA=>MC
 |.Power=>eT
 |.sA=>og
 |.gK=>cv
 |.yB=>MD
 |.yC=>ME
 |.Receiver=>MF
 |.Node=>Dp
 |.Tree=>Gj
 |.yD=>MG
 |.ri=>lA
 |.yE=>MH
 |.Move=>MI
 |.nJ=>dS
 |.ot=>gi
 |.Config=>eX
 |.pz=>fe
 |.cV=>av
 |.Act=>jk
 |.Fact=>MJ
 |.rj=>bN
 |.sl t=>aa (T t)
 |.lF=>av
 |.yF _=>Int
 |.Dq _=>aX
 |.yG _=>aL
 |.fnCommand _=>aH
def aD:TC->Nat
 |.lF=>76
 |.yF _=>3
 |.Dq _=>8
 |.yG _=>5
 |.fnCommand _=>6
 |.fR=>4
 |.Addr=>3
 |.q9=>2
 |.yx=>1
 |.Command=>4
 |.lC=>17
 |.nI=>2
 |.iQ=>2
 |.Event=>5
 |.lD=>2
 |.Cell=>2
 |.Array=>3
 |.sy=>2
 |.iR=>3
 |.om=>2
 |.lE=>3
 |.dD=>6
 |.gj=>2
 |.oq=>3
 |.yz=>2
 |.yA=>2
 |.Power=>3
 |.sA=>2
 |.gK=>3
 |.yB=>1
 |.yC=>2
 |.Receiver=>2
 |.Node=>2
 |.Tree=>3
 |.yD=>6
 |.ri=>3
 |.yE=>6
 |.Move=>4
 |.nJ=>8
 |.ot=>17
 |.Config=>28
 |.pz=>4
 |.cV=>75
 |.Act=>20
 |.Fact=>3
 |.rj=>3
 |_=>1
def full:TC->Nat
 |.int|.u8|.bool|.str=>0
 |.fR=>0
 |.Addr=>0
 |.q9=>0
 |.yx=>2
 |.Command=>0
 |.lC=>0
 |.nI=>0
 |.iQ=>2
 |.Event=>0
 |.lD=>2
 |.Cell=>2
 |.Array=>4
 |.sy=>0
 |.iR=>2
 |.om=>2
 |.lE=>2
 |.dD=>0
 |.gj=>0
 |.oq=>0
 |.yz=>2
 |.yA=>0
 |.Power=>0
 |.sA=>0
 |.gK=>0
 |.yB=>2
 |.yC=>2
 |.Receiver=>2
 |.Node=>0
 |.Tree=>2
 |.yD=>2
 |.ri=>0
 |.yE=>2
 |.Move=>0
 |.nJ=>2
 |.ot=>2
 |.Config=>0
 |.pz=>0
 |.cV=>4
 |.Act=>2
 |.Fact=>0
 |.rj=>2
 |.sl t=>full t+2
 |.lF=>4
 |.yF _=>0
 |.Dq _=>0
 |.yG _=>0
 |.fnCommand _=>0
def tid:TC->TypeId
 |.int=>3
 |.u8=>5
 |.bool=>4
 |.str=>9
 |.fR=>25
 |.Addr=>137
 |.q9=>29
 |.yx=>0
 |.Command=>79
 |.lC=>27
 |.nI=>157
 |.iQ=>43
 |.Event=>81
 |.lD=>45
 |.Cell=>199
 |.Array=>48
 |.sy=>31
 |.iR=>181
 |.om=>50
 |.lE=>52
 |.dD=>73
 |.gj=>187
 |.oq=>58
 |.yz=>0
 |.yA=>0
 |.Power=>60
 |.sA=>36
 |.gK=>190
 |.yB=>0
 |.yC=>0
 |.Receiver=>0
 |.Node=>0
 |.Tree=>0
 |.yD=>0
 |.ri=>62
 |.yE=>0
 |.Move=>0
 |.nJ=>38
 |.ot=>40
 |.Config=>33
 |.pz=>101
 |.cV=>67
 |.Act=>249
 |.Fact=>0
 |.rj=>169
 |.sl .int=>34
 |.sl .bool=>284
 |.sl .str=>0
 |_=>0
inductive V where
 |int (k:IntKind) (n:Int)
 |bool (b:Bool)
 |str (s:ByteArray)
 |nil
 |sl (t:TC) (o:Nat) (q:Bool) (l:List (T t))
def V.aU:V->aj Int|.int .i64 n=>some n|_=>none
def V.SW:V->aj Int|.int .u8 n=>some n|_=>none
def V.mP:V->aj Bool|.bool b=>some b|_=>none
def V.SX:V->aj ByteArray|.str s=>some s|_=>none
def V.dR(t:TC)(o:Nat):V->aj (aa (T t))
 |.sl D C _ l=>bif Nat.beq C o ||(Nat.ble (full t+2) C&&Nat.ble (full t+2) o)then (if h:D=t then some (h ▸ l)else none)else none
 |.nil=>some []
 |_=>none
inductive Wk:V->V->Prop
 |same (x:V):Wk x x
 |nil (t:TC) (o:Nat):Wk .nil (.sl t o false [])
 |q (t:TC) (o:Nat) (l:List (T t)):Wk (.sl t o true l) (.sl t o false l)
 |gr (t:TC) (o o':Nat) (qn:Bool) (l:List (T t)) (h:full t+2<=o) (h':full t+2<=o'):Wk (.sl t o' qn l) (.sl t o false l)
def bW(xs ys:aa V):Prop:=xs.length=ys.length/\∀(j:Nat) (x y:V),xs[j]?=some x->ys[j]?=some y->Wk x y
def bW.nil:bW [] []:=⟨rfl,by simp⟩
def bW.cons{x y:V}{xs ys:aa V}(h:Wk x y)(k:bW xs ys):bW (x :: xs) (y :: ys):=by
 refine⟨by simp[k.1],λj a b C hb=>?_⟩
 cases j with
 |zero=>simp at C hb;subst C;subst hb;exact h
 |succ j=>simp at C hb;exact k.2 j a b C hb
def V.aV{x:V}{n:Int}(h:x.aU=some n):Wk x (.int .i64 n):=by
 unfold V.aU at h;split at h<;>first|(injection h with h;subst h;exact .same _)|cases h
def V.alf{x:V}{n:Int}(h:x.SW=some n):Wk x (.int .u8 n):=by
 unfold V.SW at h;split at h<;>first|(injection h with h;subst h;exact .same _)|cases h
def V.ou{x:V}{n:Bool}(h:x.mP=some n):Wk x (.bool n):=by
 unfold V.mP at h;split at h<;>first|(injection h with h;subst h;exact .same _)|cases h
def V.alg{x:V}{n:ByteArray}(h:x.SX=some n):Wk x (.str n):=by
 unfold V.SX at h;split at h<;>first|(injection h with h;subst h;exact .same _)|cases h
def V.eo{x:V}{t:TC}{o:Nat}{l:aa (T t)}(h:x.dR t o=some l):Wk x (.sl t o false l):=by
 unfold V.dR at h;split at h
 ·rename_i E C q I;cases hc:(Nat.beq C o || (Nat.ble (full t+2) C&&Nat.ble (full t+2) o))with
  |false=>rw[hc]at h;cases h
  | true=>
   rw[hc,ak]at h;split at h
   ·rename_i D;subst D;injection h with h;subst h;rw[ei,aM]at hc;rcases hc with hc | hc
    ·obtain rfl:=ck hc;cases q
     ·exact .same _
     ·exact .q _ _ _
    ·exact .gr _ _ _ _ _ (cI hc.2) (cI hc.1)
   ·cases h
 ·injection h with h;subst h;exact .nil _ _
 ·cases h
def Ds(o:Nat)(x:aO):aa V:=[.int .i64 x.cq,.int .i64 x.aC,.int .i64 x.rows,.int .i64 x.aN]
def yH(o:Nat)(x:aL):aa V:=[.int .i64 x.ax,.int .i64 x.row,.int .i64 x.bR]
def Dt(o:Nat)(x:ld):aa V:=[.int .i64 x.order,.bool x.hash]
def Gk(o:Nat)(x:MA):aa V:=[.sl .int o false x.owner]
def yI(o:Nat)(x:aH):aa V:=[.int .i64 x.kind,.int .i64 x.ax,.int .i64 x.row,.int .i64 x.bR]
def Du(o:Nat)(x:dc):aa V:=[.int .i64 x.jX,.int .i64 x.rp,.int .i64 x.gI,.int .i64 x.nE,.int .i64 x.jY,.int .i64 x.lu,.int .i64 x.nG,.int .i64 x.nH,.int .i64 x.jK,.int .i64 x.wr,.int .i64 x.pg,.int .i64 x.pn,.int .i64 x.sx,.int .i64 x.pq,.int .i64 x.qi,.int .i64 x.xp,.int .i64 x.xs]
def Dv(o:Nat)(x:fC):aa V:=[.bool x.open_,.int .i64 x.row]
def Gl(o:Nat)(x:cM):aa V:=[.sl .nI o false x.aC,.int .i64 x.bh]
def Dw(o:Nat)(x:fG):aa V:=[.int .i64 x.at_,.int .i64 x.cmd.kind,.int .i64 x.cmd.ax,.int .i64 x.cmd.row,.int .i64 x.cmd.bR]
def Gm(o:Nat)(x:dF):aa V:=[.sl .int o false x.last,.sl .int o false x.bg]
def Gn(o:Nat)(x:bZ):aa V:=[.sl .int o false x.symbols,.bool x.iX]
def Gq(o:Nat)(x:dx):aa V:=[.sl .Cell o false x.cells,.sl .int o false x.bC,.sl .int o false x.bz]
def Dx(o:Nat)(x:lz):aa V:=[.int .i64 x.bC,.int .i64 x.bz]
def Gr(o:Nat)(x:cx):aa V:=[.sl .int o false x.rows,.sl .int o false x.counts,.int .i64 x.c7]
def Gs(o:Nat)(x:dG):aa V:=[.int .i64 x.bP,.sl .int o false x.map]
def Gt(o:Nat)(x:cZ):aa V:=[.sl .int o false x.aJ,.int .i64 x.wait,.bool x.dN]
def yJ(o:Nat)(x:aX):aa V:=[.int .i64 x.id,.int .i64 x.dB,.int .i64 x.line,.bool x.write,.int .i64 x.data,.int .i64 x.at_]
def Dy(o:Nat)(x:cz):aa V:=[.int .i64 x.weight,.int .i64 x.fL]
def Dz(o:Nat)(x:gJ):aa V:=[.bool x.on,.int .i64 x.low,.int .i64 x.high]
def Gu(o:Nat)(x:MB):aa V:=[.sl .int o false x.owner,.int .i64 x.length]
def DA(o:Nat)(x:MC):aa V:=[.int .i64 x.id,.int .i64 x.at_]
def DB(o:Nat)(x:eT):aa V:=[.int .i64 x.state,.int .i64 x.since,.int .i64 x.idle]
def DC(o:Nat)(x:og):aa V:=[.int .i64 x.down,.int .i64 x.sleep]
def DD(o:Nat)(x:cv):aa V:=[.int .i64 x.line,.int .i64 x.code,.int .i64 x.times]
def Gw(o:Nat)(x:MD):aa V:=[.sl .str o false x.ald]
def Gx(o:Nat)(x:ME):aa V:=[.sl .int o false x.ale,.int .i64 x.next]
def Gy(o:Nat)(x:MF):aa V:=[.int .i64 x.count,.sl .Command o false x.commands]
def DE(o:Nat)(x:Dp):aa V:=[.int .i64 x.count,.int .i64 x.tag]
def Gz(o:Nat)(x:Gj):aa V:=[.int .i64 x.root,.sl .Node o false x.mid,.sl .Node o false x.leaf]
def GA(o:Nat)(x:MG):aa V:=[.int .i64 x.key,.int .i64 x.tree.root,.sl .Node o false x.tree.mid,.sl .Node o false x.tree.leaf,.sl .int o false x.data,.sl .int o false x.tags]
def DF(o:Nat)(x:lA):aa V:=[.int .i64 x.next,.int .i64 x.every,.int .i64 x.wait]
def GB(o:Nat)(x:MH):aa V:=[.int .i64 x.index,.sl .int o false x.before.symbols,.bool x.before.iX,.sl .int o false x.after.symbols,.bool x.after.iX,.int .i64 x.code]
def DG(o:Nat)(x:MI):aa V:=[.int .i64 x.ax,.int .i64 x.from_,.int .i64 x.to,.int .i64 x.next]
def GC(o:Nat)(x:dS):aa V:=[.int .i64 x.eP,.int .i64 x.cap,.int .i64 x.eK,.int .i64 x.low,.int .i64 x.high,.sl .int o false x.weights,.int .i64 x.eA.down,.int .i64 x.eA.sleep]
def GD(o:Nat)(x:gi):aa V:=[.int .i64 x.bU.eP,.int .i64 x.bU.cap,.int .i64 x.bU.eK,.int .i64 x.bU.low,.int .i64 x.bU.high,.sl .int o false x.bU.weights,.int .i64 x.bU.eA.down,.int .i64 x.bU.eA.sleep,.int .i64 x.next.eP,.int .i64 x.next.cap,.int .i64 x.next.eK,.int .i64 x.next.low,.int .i64 x.next.high,.sl .int o false x.next.weights,.int .i64 x.next.eA.down,.int .i64 x.next.eA.sleep,.bool x.waits]
def DH(o:Nat)(x:eX):aa V:=[.int .i64 x.ay.cq,.int .i64 x.ay.aC,.int .i64 x.ay.rows,.int .i64 x.ay.aN,.int .i64 x.cm.jX,.int .i64 x.cm.rp,.int .i64 x.cm.gI,.int .i64 x.cm.nE,.int .i64 x.cm.jY,.int .i64 x.cm.lu,.int .i64 x.cm.nG,.int .i64 x.cm.nH,.int .i64 x.cm.jK,.int .i64 x.cm.wr,.int .i64 x.cm.pg,.int .i64 x.cm.pn,.int .i64 x.cm.sx,.int .i64 x.cm.pq,.int .i64 x.cm.qi,.int .i64 x.cm.xp,.int .i64 x.cm.xs,.int .i64 x.mapping.order,.bool x.mapping.hash,.int .i64 x.bP,.int .i64 x.interval,.int .i64 x.hD,.int .i64 x.dH.bC,.int .i64 x.dH.bz]
def DI(o:Nat)(x:fe):aa V:=[.int .i64 x.id,.int .i64 x.at_,.int .i64 x.data,.int .i64 x.code]
def yK(o:Nat)(x:av):aa V:=[.int .i64 x.config.ay.cq,.int .i64 x.config.ay.aC,.int .i64 x.config.ay.rows,.int .i64 x.config.ay.aN,.int .i64 x.config.cm.jX,.int .i64 x.config.cm.rp,.int .i64 x.config.cm.gI,.int .i64 x.config.cm.nE,.int .i64 x.config.cm.jY,.int .i64 x.config.cm.lu,.int .i64 x.config.cm.nG,.int .i64 x.config.cm.nH,.int .i64 x.config.cm.jK,.int .i64 x.config.cm.wr,.int .i64 x.config.cm.pg,.int .i64 x.config.cm.pn,.int .i64 x.config.cm.sx,.int .i64 x.config.cm.pq,.int .i64 x.config.cm.qi,.int .i64 x.config.cm.xp,.int .i64 x.config.cm.xs,.int .i64 x.config.mapping.order,.bool x.config.mapping.hash,.int .i64 x.config.bP,.int .i64 x.config.interval,.int .i64 x.config.hD,.int .i64 x.config.dH.bC,.int .i64 x.config.dH.bz,.int .i64 x.box.bU.eP,.int .i64 x.box.bU.cap,.int .i64 x.box.bU.eK,.int .i64 x.box.bU.low,.int .i64 x.box.bU.high,.sl .int o false x.box.bU.weights,.int .i64 x.box.bU.eA.down,.int .i64 x.box.bU.eA.sleep,.int .i64 x.box.next.eP,.int .i64 x.box.next.cap,.int .i64 x.box.next.eK,.int .i64 x.box.next.low,.int .i64 x.box.next.high,.sl .int o false x.box.next.weights,.int .i64 x.box.next.eA.down,.int .i64 x.box.next.eA.sleep,.bool x.box.waits,.int .i64 x.now,.sl .nI o false x.aY.aC,.int .i64 x.aY.bh,.sl .int o false x.ready.last,.sl .int o false x.ready.bg,.sl .Cell o false x.array.cells,.sl .int o false x.array.bC,.sl .int o false x.array.bz,.int .i64 x.spare.bP,.sl .int o false x.spare.map,.sl .int o false x.aQ.aJ,.int .i64 x.aQ.wait,.bool x.aQ.dN,.sl .iR o false x.bK,.sl .int o false x.guard,.sl .Addr o false x.pending,.sl .dD o false x.queue,.sl .gj o false x.shares,.bool x.drain.on,.int .i64 x.drain.low,.int .i64 x.drain.high,.int .i64 x.bh.state,.int .i64 x.bh.since,.int .i64 x.bh.idle,.int .i64 x.cU.next,.int .i64 x.cU.every,.int .i64 x.cU.wait,.sl .gK o false x.errors,.sl .Event o false x.trace,.sl .pz o false x.cy]
def GF(o:Nat)(x:jk):aa V:=[.int .i64 x.kind,.int .i64 x.request.id,.int .i64 x.request.dB,.int .i64 x.request.line,.bool x.request.write,.int .i64 x.request.data,.int .i64 x.request.at_,.int .i64 x.n,.int .i64 x.yw,.int .i64 x.addr.ax,.int .i64 x.addr.row,.int .i64 x.addr.bR,.int .i64 x.oh.eP,.int .i64 x.oh.cap,.int .i64 x.oh.eK,.int .i64 x.oh.low,.int .i64 x.oh.high,.sl .int o false x.oh.weights,.int .i64 x.oh.eA.down,.int .i64 x.oh.eA.sleep]
def DJ(o:Nat)(x:MJ):aa V:=[.int .i64 x.line,.int .i64 x.data,.int .i64 x.code]
def GG(o:Nat)(x:bN):aa V:=[.sl .u8 o false x.b,.int .i64 x.i,.int .i64 x.h]
def enc:(t:TC)->(o:Nat)->T t->aa V
 |.int,_,x=>[.int .i64 x]
 |.u8,_,x=>[.int .u8 x]
 |.bool,_,x=>[.bool x]
 |.str,_,x=>[.str x]
 |.fR,o,x=>Ds o x
 |.Addr,o,x=>yH o x
 |.q9,o,x=>Dt o x
 |.yx,o,x=>Gk o x
 |.Command,o,x=>yI o x
 |.lC,o,x=>Du o x
 |.nI,o,x=>Dv o x
 |.iQ,o,x=>Gl o x
 |.Event,o,x=>Dw o x
 |.lD,o,x=>Gm o x
 |.Cell,o,x=>Gn o x
 |.Array,o,x=>Gq o x
 |.sy,o,x=>Dx o x
 |.iR,o,x=>Gr o x
 |.om,o,x=>Gs o x
 |.lE,o,x=>Gt o x
 |.dD,o,x=>yJ o x
 |.gj,o,x=>Dy o x
 |.oq,o,x=>Dz o x
 |.yz,o,x=>Gu o x
 |.yA,o,x=>DA o x
 |.Power,o,x=>DB o x
 |.sA,o,x=>DC o x
 |.gK,o,x=>DD o x
 |.yB,o,x=>Gw o x
 |.yC,o,x=>Gx o x
 |.Receiver,o,x=>Gy o x
 |.Node,o,x=>DE o x
 |.Tree,o,x=>Gz o x
 |.yD,o,x=>GA o x
 |.ri,o,x=>DF o x
 |.yE,o,x=>GB o x
 |.Move,o,x=>DG o x
 |.nJ,o,x=>GC o x
 |.ot,o,x=>GD o x
 |.Config,o,x=>DH o x
 |.pz,o,x=>DI o x
 |.cV,o,x=>yK o x
 |.Act,o,x=>GF o x
 |.Fact,o,x=>DJ o x
 |.rj,o,x=>GG o x
 |.sl t,o,x=>[.sl t o false x]
 |.lF,o,x=>.bool true::yK o x
 |.yF g,o,x=>.bool false::.int .i64 (g:Int)::[.int .i64 x]
 |.Dq g,o,x=>.bool false::.int .i64 (g:Int)::yJ o x
 |.yG g,o,x=>.bool false::.int .i64 (g:Int)::yH o x
 |.fnCommand g,o,x=>.bool false::.int .i64 (g:Int)::yI o x
def SY(o:Nat)(cs:aa V):aj aO:=match cs with
 |a0::C::D::E::[]=>(a0.aU).bind λI=>(C.aU).bind λJ=>(D.aU).bind λL=>(E.aU).bind λO=>some ⟨I,J,L,O⟩
 |_=>none
def MK(o:Nat)(cs:aa V):aj aL:=match cs with
 |a0::C::D::[]=>(a0.aU).bind λE=>(C.aU).bind λI=>(D.aU).bind λJ=>some ⟨E,I,J⟩
 |_=>none
def SZ(o:Nat)(cs:aa V):aj ld:=match cs with
 |a0::C::[]=>(a0.aU).bind λD=>(C.mP).bind λE=>some ⟨D,E⟩
 |_=>none
def S0(o:Nat)(cs:aa V):aj MA:=match cs with
 |a0::[]=>(a0.dR .int o).bind λC=>some ⟨C⟩
 |_=>none
def ML(o:Nat)(cs:aa V):aj aH:=match cs with
 |a0::C::D::E::[]=>(a0.aU).bind λI=>(C.aU).bind λJ=>(D.aU).bind λL=>(E.aU).bind λO=>some ⟨I,J,L,O⟩
 |_=>none
def S1(o:Nat)(cs:aa V):aj dc:=match cs with
 |a0::C::D::E::a4::I::J::L::O::Q::T::U::Y::Z::wh::wj::wm::[]=>(a0.aU).bind λx0=>(C.aU).bind λx1=>(D.aU).bind λx2=>(E.aU).bind λx3=>(a4.aU).bind λx4=>(I.aU).bind λx5=>(J.aU).bind λx6=>(L.aU).bind λx7=>(O.aU).bind λx8=>(Q.aU).bind λx9=>(T.aU).bind λqj=>(U.aU).bind λqk=>(Y.aU).bind λqm=>(Z.aU).bind λqp=>(wh.aU).bind λqq=>(wj.aU).bind λqt=>(wm.aU).bind λqv=>some ⟨x0,x1,x2,x3,x4,x5,x6,x7,x8,x9,qj,qk,qm,qp,qq,qt,qv⟩
 |_=>none
def S2(o:Nat)(cs:aa V):aj fC:=match cs with
 |a0::C::[]=>(a0.mP).bind λD=>(C.aU).bind λE=>some ⟨D,E⟩
 |_=>none
def S3(o:Nat)(cs:aa V):aj cM:=match cs with
 |a0::C::[]=>(a0.dR .nI o).bind λD=>(C.aU).bind λE=>some ⟨D,E⟩
 |_=>none
def S4(o:Nat)(cs:aa V):aj fG:=match cs with
 |a0::C::D::E::a4::[]=>(a0.aU).bind λI=>(C.aU).bind λJ=>(D.aU).bind λL=>(E.aU).bind λO=>(a4.aU).bind λQ=>some ⟨I,⟨J,L,O,Q⟩⟩
 |_=>none
def S5(o:Nat)(cs:aa V):aj dF:=match cs with
 |a0::C::[]=>(a0.dR .int o).bind λD=>(C.dR .int o).bind λE=>some ⟨D,E⟩
 |_=>none
def S6(o:Nat)(cs:aa V):aj bZ:=match cs with
 |a0::C::[]=>(a0.dR .int o).bind λD=>(C.mP).bind λE=>some ⟨D,E⟩
 |_=>none
def S7(o:Nat)(cs:aa V):aj dx:=match cs with
 |a0::C::D::[]=>(a0.dR .Cell o).bind λE=>(C.dR .int o).bind λI=>(D.dR .int o).bind λJ=>some ⟨E,I,J⟩
 |_=>none
def S8(o:Nat)(cs:aa V):aj lz:=match cs with
 |a0::C::[]=>(a0.aU).bind λD=>(C.aU).bind λE=>some ⟨D,E⟩
 |_=>none
def S9(o:Nat)(cs:aa V):aj cx:=match cs with
 |a0::C::D::[]=>(a0.dR .int o).bind λE=>(C.dR .int o).bind λI=>(D.aU).bind λJ=>some ⟨E,I,J⟩
 |_=>none
def Ta(o:Nat)(cs:aa V):aj dG:=match cs with
 |a0::C::[]=>(a0.aU).bind λD=>(C.dR .int o).bind λE=>some ⟨D,E⟩
 |_=>none
def Tb(o:Nat)(cs:aa V):aj cZ:=match cs with
 |a0::C::D::[]=>(a0.dR .int o).bind λE=>(C.aU).bind λI=>(D.mP).bind λJ=>some ⟨E,I,J⟩
 |_=>none
def MM(o:Nat)(cs:aa V):aj aX:=match cs with
 |a0::C::D::E::a4::I::[]=>(a0.aU).bind λJ=>(C.aU).bind λL=>(D.aU).bind λO=>(E.mP).bind λQ=>(a4.aU).bind λT=>(I.aU).bind λU=>some ⟨J,L,O,Q,T,U⟩
 |_=>none
def Tc(o:Nat)(cs:aa V):aj cz:=match cs with
 |a0::C::[]=>(a0.aU).bind λD=>(C.aU).bind λE=>some ⟨D,E⟩
 |_=>none
def Td(o:Nat)(cs:aa V):aj gJ:=match cs with
 |a0::C::D::[]=>(a0.mP).bind λE=>(C.aU).bind λI=>(D.aU).bind λJ=>some ⟨E,I,J⟩
 |_=>none
def Te(o:Nat)(cs:aa V):aj MB:=match cs with
 |a0::C::[]=>(a0.dR .int o).bind λD=>(C.aU).bind λE=>some ⟨D,E⟩
 |_=>none
def Tf(o:Nat)(cs:aa V):aj MC:=match cs with
 |a0::C::[]=>(a0.aU).bind λD=>(C.aU).bind λE=>some ⟨D,E⟩
 |_=>none
def Tg(o:Nat)(cs:aa V):aj eT:=match cs with
 |a0::C::D::[]=>(a0.aU).bind λE=>(C.aU).bind λI=>(D.aU).bind λJ=>some ⟨E,I,J⟩
 |_=>none
def Th(o:Nat)(cs:aa V):aj og:=match cs with
 |a0::C::[]=>(a0.aU).bind λD=>(C.aU).bind λE=>some ⟨D,E⟩
 |_=>none
def Ti(o:Nat)(cs:aa V):aj cv:=match cs with
 |a0::C::D::[]=>(a0.aU).bind λE=>(C.aU).bind λI=>(D.aU).bind λJ=>some ⟨E,I,J⟩
 |_=>none
def Tj(o:Nat)(cs:aa V):aj MD:=match cs with
 |a0::[]=>(a0.dR .str o).bind λC=>some ⟨C⟩
 |_=>none
def Tl(o:Nat)(cs:aa V):aj ME:=match cs with
 |a0::C::[]=>(a0.dR .int o).bind λD=>(C.aU).bind λE=>some ⟨D,E⟩
 |_=>none
def Tn(o:Nat)(cs:aa V):aj MF:=match cs with
 |a0::C::[]=>(a0.aU).bind λD=>(C.dR .Command o).bind λE=>some ⟨D,E⟩
 |_=>none
def To(o:Nat)(cs:aa V):aj Dp:=match cs with
 |a0::C::[]=>(a0.aU).bind λD=>(C.aU).bind λE=>some ⟨D,E⟩
 |_=>none
def Tp(o:Nat)(cs:aa V):aj Gj:=match cs with
 |a0::C::D::[]=>(a0.aU).bind λE=>(C.dR .Node o).bind λI=>(D.dR .Node o).bind λJ=>some ⟨E,I,J⟩
 |_=>none
def Tq(o:Nat)(cs:aa V):aj MG:=match cs with
 |a0::C::D::E::a4::I::[]=>(a0.aU).bind λJ=>(C.aU).bind λL=>(D.dR .Node o).bind λO=>(E.dR .Node o).bind λQ=>(a4.dR .int o).bind λT=>(I.dR .int o).bind λU=>some ⟨J,⟨L,O,Q⟩,T,U⟩
 |_=>none
def Tr(o:Nat)(cs:aa V):aj lA:=match cs with
 |a0::C::D::[]=>(a0.aU).bind λE=>(C.aU).bind λI=>(D.aU).bind λJ=>some ⟨E,I,J⟩
 |_=>none
def Ts(o:Nat)(cs:aa V):aj MH:=match cs with
 |a0::C::D::E::a4::I::[]=>(a0.aU).bind λJ=>(C.dR .int o).bind λL=>(D.mP).bind λO=>(E.dR .int o).bind λQ=>(a4.mP).bind λT=>(I.aU).bind λU=>some ⟨J,⟨L,O⟩,⟨Q,T⟩,U⟩
 |_=>none
def Tt(o:Nat)(cs:aa V):aj MI:=match cs with
 |a0::C::D::E::[]=>(a0.aU).bind λI=>(C.aU).bind λJ=>(D.aU).bind λL=>(E.aU).bind λO=>some ⟨I,J,L,O⟩
 |_=>none
def Tu(o:Nat)(cs:aa V):aj dS:=match cs with
 |a0::C::D::E::a4::I::J::L::[]=>(a0.aU).bind λO=>(C.aU).bind λQ=>(D.aU).bind λT=>(E.aU).bind λU=>(a4.aU).bind λY=>(I.dR .int o).bind λZ=>(J.aU).bind λx6=>(L.aU).bind λx7=>some ⟨O,Q,T,U,Y,Z,⟨x6,x7⟩⟩
 |_=>none
def Tv(o:Nat)(cs:aa V):aj gi:=match cs with
 |a0::C::D::E::a4::I::J::L::O::Q::T::U::Y::Z::wh::wj::wm::[]=>(a0.aU).bind λx0=>(C.aU).bind λx1=>(D.aU).bind λx2=>(E.aU).bind λx3=>(a4.aU).bind λx4=>(I.dR .int o).bind λx5=>(J.aU).bind λx6=>(L.aU).bind λx7=>(O.aU).bind λx8=>(Q.aU).bind λx9=>(T.aU).bind λqj=>(U.aU).bind λqk=>(Y.aU).bind λqm=>(Z.dR .int o).bind λqp=>(wh.aU).bind λqq=>(wj.aU).bind λqt=>(wm.mP).bind λqv=>some ⟨⟨x0,x1,x2,x3,x4,x5,⟨x6,x7⟩⟩,⟨x8,x9,qj,qk,qm,qp,⟨qq,qt⟩⟩,qv⟩
 |_=>none
def Tw(o:Nat)(cs:aa V):aj eX:=match cs with
 |a0::C::D::E::a4::I::J::L::O::Q::T::U::Y::Z::wh::wj::wm::GH::GI::GJ::Tx::Ty::Tz::TA::TB::TD::TE::TF::[]=>(a0.aU).bind λx0=>(C.aU).bind λx1=>(D.aU).bind λx2=>(E.aU).bind λx3=>(a4.aU).bind λx4=>(I.aU).bind λx5=>(J.aU).bind λx6=>(L.aU).bind λx7=>(O.aU).bind λx8=>(Q.aU).bind λx9=>(T.aU).bind λqj=>(U.aU).bind λqk=>(Y.aU).bind λqm=>(Z.aU).bind λqp=>(wh.aU).bind λqq=>(wj.aU).bind λqt=>(wm.aU).bind λqv=>(GH.aU).bind λyL=>(GI.aU).bind λyM=>(GJ.aU).bind λyN=>(Tx.aU).bind λGK=>(Ty.aU).bind λGL=>(Tz.mP).bind λGM=>(TA.aU).bind λGN=>(TB.aU).bind λGO=>(TD.aU).bind λGP=>(TE.aU).bind λGQ=>(TF.aU).bind λGR=>some ⟨⟨x0,x1,x2,x3⟩,⟨x4,x5,x6,x7,x8,x9,qj,qk,qm,qp,qq,qt,qv,yL,yM,yN,GK⟩,⟨GL,GM⟩,GN,GO,GP,⟨GQ,GR⟩⟩
 |_=>none
def TG(o:Nat)(cs:aa V):aj fe:=match cs with
 |a0::C::D::E::[]=>(a0.aU).bind λI=>(C.aU).bind λJ=>(D.aU).bind λL=>(E.aU).bind λO=>some ⟨I,J,L,O⟩
 |_=>none
def MN(o:Nat)(cs:aa V):aj av:=match cs with
 |a0::C::D::E::a4::I::J::L::O::Q::T::U::Y::Z::wh::wj::wm::GH::GI::GJ::Tx::Ty::Tz::TA::TB::TD::TE::TF::a28::a29::a30::a31::a32::a33::a34::a35::a36::a37::a38::a39::a40::a41::a42::a43::a44::a45::a46::a47::a48::a49::a50::a51::a52::a53::a54::a55::a56::a57::a58::a59::a60::a61::a62::a63::a64::a65::a66::a67::a68::a69::a70::a71::a72::a73::a74::[]=>(a0.aU).bind λx0=>(C.aU).bind λx1=>(D.aU).bind λx2=>(E.aU).bind λx3=>(a4.aU).bind λx4=>(I.aU).bind λx5=>(J.aU).bind λx6=>(L.aU).bind λx7=>(O.aU).bind λx8=>(Q.aU).bind λx9=>(T.aU).bind λqj=>(U.aU).bind λqk=>(Y.aU).bind λqm=>(Z.aU).bind λqp=>(wh.aU).bind λqq=>(wj.aU).bind λqt=>(wm.aU).bind λqv=>(GH.aU).bind λyL=>(GI.aU).bind λyM=>(GJ.aU).bind λyN=>(Tx.aU).bind λGK=>(Ty.aU).bind λGL=>(Tz.mP).bind λGM=>(TA.aU).bind λGN=>(TB.aU).bind λGO=>(TD.aU).bind λGP=>(TE.aU).bind λGQ=>(TF.aU).bind λGR=>(a28.aU).bind λx28=>(a29.aU).bind λx29=>(a30.aU).bind λx30=>(a31.aU).bind λx31=>(a32.aU).bind λx32=>(a33.dR .int o).bind λx33=>(a34.aU).bind λx34=>(a35.aU).bind λx35=>(a36.aU).bind λx36=>(a37.aU).bind λx37=>(a38.aU).bind λx38=>(a39.aU).bind λx39=>(a40.aU).bind λx40=>(a41.dR .int o).bind λx41=>(a42.aU).bind λx42=>(a43.aU).bind λx43=>(a44.mP).bind λx44=>(a45.aU).bind λx45=>(a46.dR .nI o).bind λx46=>(a47.aU).bind λx47=>(a48.dR .int o).bind λx48=>(a49.dR .int o).bind λx49=>(a50.dR .Cell o).bind λx50=>(a51.dR .int o).bind λx51=>(a52.dR .int o).bind λx52=>(a53.aU).bind λx53=>(a54.dR .int o).bind λx54=>(a55.dR .int o).bind λx55=>(a56.aU).bind λx56=>(a57.mP).bind λx57=>(a58.dR .iR o).bind λx58=>(a59.dR .int o).bind λx59=>(a60.dR .Addr o).bind λx60=>(a61.dR .dD o).bind λx61=>(a62.dR .gj o).bind λx62=>(a63.mP).bind λx63=>(a64.aU).bind λx64=>(a65.aU).bind λx65=>(a66.aU).bind λx66=>(a67.aU).bind λx67=>(a68.aU).bind λx68=>(a69.aU).bind λx69=>(a70.aU).bind λx70=>(a71.aU).bind λx71=>(a72.dR .gK o).bind λx72=>(a73.dR .Event o).bind λx73=>(a74.dR .pz o).bind λx74=>some ⟨⟨⟨x0,x1,x2,x3⟩,⟨x4,x5,x6,x7,x8,x9,qj,qk,qm,qp,qq,qt,qv,yL,yM,yN,GK⟩,⟨GL,GM⟩,GN,GO,GP,⟨GQ,GR⟩⟩,⟨⟨x28,x29,x30,x31,x32,x33,⟨x34,x35⟩⟩,⟨x36,x37,x38,x39,x40,x41,⟨x42,x43⟩⟩,x44⟩,x45,⟨x46,x47⟩,⟨x48,x49⟩,⟨x50,x51,x52⟩,⟨x53,x54⟩,⟨x55,x56,x57⟩,x58,x59,x60,x61,x62,⟨x63,x64,x65⟩,⟨x66,x67,x68⟩,⟨x69,x70,x71⟩,x72,x73,x74⟩
 |_=>none
def TH(o:Nat)(cs:aa V):aj jk:=match cs with
 |a0::C::D::E::a4::I::J::L::O::Q::T::U::Y::Z::wh::wj::wm::GH::GI::GJ::[]=>(a0.aU).bind λx0=>(C.aU).bind λx1=>(D.aU).bind λx2=>(E.aU).bind λx3=>(a4.mP).bind λx4=>(I.aU).bind λx5=>(J.aU).bind λx6=>(L.aU).bind λx7=>(O.aU).bind λx8=>(Q.aU).bind λx9=>(T.aU).bind λqj=>(U.aU).bind λqk=>(Y.aU).bind λqm=>(Z.aU).bind λqp=>(wh.aU).bind λqq=>(wj.aU).bind λqt=>(wm.aU).bind λqv=>(GH.dR .int o).bind λyL=>(GI.aU).bind λyM=>(GJ.aU).bind λyN=>some ⟨x0,⟨x1,x2,x3,x4,x5,x6⟩,x7,x8,⟨x9,qj,qk⟩,⟨qm,qp,qq,qt,qv,yL,⟨yM,yN⟩⟩⟩
 |_=>none
def TI(o:Nat)(cs:aa V):aj MJ:=match cs with
 |a0::C::D::[]=>(a0.aU).bind λE=>(C.aU).bind λI=>(D.aU).bind λJ=>some ⟨E,I,J⟩
 |_=>none
def TJ(o:Nat)(cs:aa V):aj bN:=match cs with
 |a0::C::D::[]=>(a0.dR .u8 o).bind λE=>(C.aU).bind λI=>(D.aU).bind λJ=>some ⟨E,I,J⟩
 |_=>none
def yO{α:Type}(f:V->aj α):aa V->aj α
 |[a]=>f a
 |_=>none
def TK{α:Type}(f:aa V->aj α):aa V->aj α
 |.bool true::cs=>f cs
 |_=>none
def DK{α:Type}(g:Nat)(f:aa V->aj α):aa V->aj α
 |.bool false::.int .i64 n::cs=>if n=(g:Int)then f cs else none
 |_=>none
def dec:(t:TC)->(o:Nat)->aa V->aj (T t)
 |.int,_,cs=>yO V.aU cs
 |.u8,_,cs=>yO V.SW cs
 |.bool,_,cs=>yO V.mP cs
 |.str,_,cs=>yO V.SX cs
 |.fR,o,cs=>SY o cs
 |.Addr,o,cs=>MK o cs
 |.q9,o,cs=>SZ o cs
 |.yx,o,cs=>S0 o cs
 |.Command,o,cs=>ML o cs
 |.lC,o,cs=>S1 o cs
 |.nI,o,cs=>S2 o cs
 |.iQ,o,cs=>S3 o cs
 |.Event,o,cs=>S4 o cs
 |.lD,o,cs=>S5 o cs
 |.Cell,o,cs=>S6 o cs
 |.Array,o,cs=>S7 o cs
 |.sy,o,cs=>S8 o cs
 |.iR,o,cs=>S9 o cs
 |.om,o,cs=>Ta o cs
 |.lE,o,cs=>Tb o cs
 |.dD,o,cs=>MM o cs
 |.gj,o,cs=>Tc o cs
 |.oq,o,cs=>Td o cs
 |.yz,o,cs=>Te o cs
 |.yA,o,cs=>Tf o cs
 |.Power,o,cs=>Tg o cs
 |.sA,o,cs=>Th o cs
 |.gK,o,cs=>Ti o cs
 |.yB,o,cs=>Tj o cs
 |.yC,o,cs=>Tl o cs
 |.Receiver,o,cs=>Tn o cs
 |.Node,o,cs=>To o cs
 |.Tree,o,cs=>Tp o cs
 |.yD,o,cs=>Tq o cs
 |.ri,o,cs=>Tr o cs
 |.yE,o,cs=>Ts o cs
 |.Move,o,cs=>Tt o cs
 |.nJ,o,cs=>Tu o cs
 |.ot,o,cs=>Tv o cs
 |.Config,o,cs=>Tw o cs
 |.pz,o,cs=>TG o cs
 |.cV,o,cs=>MN o cs
 |.Act,o,cs=>TH o cs
 |.Fact,o,cs=>TI o cs
 |.rj,o,cs=>TJ o cs
 |.sl t,o,cs=>yO (V.dR t o) cs
 |.lF,o,cs=>TK (MN o) cs
 |.yF g,o,cs=>DK g (yO V.aU) cs
 |.Dq g,o,cs=>DK g (MM o) cs
 |.yG g,o,cs=>DK g (MK o) cs
 |.fnCommand g,o,cs=>DK g (ML o) cs
def shp:TC->Nat->aa V
 |.cV,o=>yK o ⟨⟨⟨0,0,0,0⟩,⟨0,0,0,0,0,0,0,0,0,0,0,0,0,0,0,0,0⟩,⟨0,false⟩,0,0,0,⟨0,0⟩⟩,⟨⟨0,0,0,0,0,[],⟨0,0⟩⟩,⟨0,0,0,0,0,[],⟨0,0⟩⟩,false⟩,0,⟨[],0⟩,⟨[],[]⟩,⟨[],[],[]⟩,⟨0,[]⟩,⟨[],0,false⟩,[],[],[],[],[],⟨false,0,0⟩,⟨0,0,0⟩,⟨0,0,0⟩,[],[],[]⟩
 |_,_=>[]
def jZ(t:TC)(o:Nat)(x:T t):(enc t o x).length=aD t:=by cases t<;>rfl
def pE(t:TC):0<aD t:=by cases t<;>simp[aD]
def bind_some{α β:Type}{a:aj α}{f:α->aj β}{b:β}(h:a.bind f=some b):∃ x,a=some x/\f x=some b:=by
 cases a with
 |none=>cases h
 |some x=>exact⟨x,rfl,h⟩
def alh(o:Nat)(cs:aa V)(x:aO)(h:SY o cs=some x):bW cs (Ds o x):=by
 unfold SY at h;split at h
 ·obtain⟨J,C,h⟩:=bind_some h;obtain⟨L,D,h⟩:=bind_some h;obtain⟨O,E,h⟩:=bind_some h;obtain⟨Q,I,h⟩:=bind_some h;injection h with h;subst h;exact(.cons (V.aV C) (.cons (V.aV D) (.cons (V.aV E) (.cons (V.aV I) bW.nil))))
 ·cases h
def aai(o:Nat)(cs:aa V)(x:aL)(h:MK o cs=some x):bW cs (yH o x):=by
 unfold MK at h;split at h
 ·obtain⟨I,C,h⟩:=bind_some h;obtain⟨J,D,h⟩:=bind_some h;obtain⟨L,E,h⟩:=bind_some h;injection h with h;subst h;exact(.cons (V.aV C) (.cons (V.aV D) (.cons (V.aV E) bW.nil)))
 ·cases h
def ali(o:Nat)(cs:aa V)(x:ld)(h:SZ o cs=some x):bW cs (Dt o x):=by
 unfold SZ at h;split at h
 ·obtain⟨E,C,h⟩:=bind_some h;obtain⟨I,D,h⟩:=bind_some h;injection h with h;subst h;exact(.cons (V.aV C) (.cons (V.ou D) bW.nil))
 ·cases h
def alj(o:Nat)(cs:aa V)(x:MA)(h:S0 o cs=some x):bW cs (Gk o x):=by
 unfold S0 at h;split at h
 ·obtain⟨D,C,h⟩:=bind_some h;injection h with h;subst h;exact(.cons (V.eo C) bW.nil)
 ·cases h
def aaj(o:Nat)(cs:aa V)(x:aH)(h:ML o cs=some x):bW cs (yI o x):=by
 unfold ML at h;split at h
 ·obtain⟨J,C,h⟩:=bind_some h;obtain⟨L,D,h⟩:=bind_some h;obtain⟨O,E,h⟩:=bind_some h;obtain⟨Q,I,h⟩:=bind_some h;injection h with h;subst h;exact(.cons (V.aV C) (.cons (V.aV D) (.cons (V.aV E) (.cons (V.aV I) bW.nil))))
 ·cases h
def alk(o:Nat)(cs:aa V)(x:dc)(h:S1 o cs=some x):bW cs (Du o x):=by
 unfold S1 at h;split at h
 ·obtain⟨x0,C,h⟩:=bind_some h;obtain⟨x1,D,h⟩:=bind_some h;obtain⟨x2,E,h⟩:=bind_some h;obtain⟨x3,I,h⟩:=bind_some h;obtain⟨x4,J,h⟩:=bind_some h;obtain⟨x5,L,h⟩:=bind_some h;obtain⟨x6,O,h⟩:=bind_some h;obtain⟨x7,Q,h⟩:=bind_some h;obtain⟨x8,T,h⟩:=bind_some h;obtain⟨x9,U,h⟩:=bind_some h;obtain⟨qj,Y,h⟩:=bind_some h;obtain⟨qk,Z,h⟩:=bind_some h;obtain⟨qm,ke,h⟩:=bind_some h;obtain⟨qp,kf,h⟩:=bind_some h;obtain⟨qq,lG,h⟩:=bind_some h;obtain⟨qt,kN,h⟩:=bind_some h;obtain⟨qv,jL,h⟩:=bind_some h;injection h with h;subst h;exact(.cons (V.aV C) (.cons (V.aV D) (.cons (V.aV E) (.cons (V.aV I) (.cons (V.aV J) (.cons (V.aV L) (.cons (V.aV O) (.cons (V.aV Q) (.cons (V.aV T) (.cons (V.aV U) (.cons (V.aV Y) (.cons (V.aV Z) (.cons (V.aV ke) (.cons (V.aV kf) (.cons (V.aV lG) (.cons (V.aV kN) (.cons (V.aV jL) bW.nil)))))))))))))))))
 ·cases h
def alm(o:Nat)(cs:aa V)(x:fC)(h:S2 o cs=some x):bW cs (Dv o x):=by
 unfold S2 at h;split at h
 ·obtain⟨E,C,h⟩:=bind_some h;obtain⟨I,D,h⟩:=bind_some h;injection h with h;subst h;exact(.cons (V.ou C) (.cons (V.aV D) bW.nil))
 ·cases h
def aln(o:Nat)(cs:aa V)(x:cM)(h:S3 o cs=some x):bW cs (Gl o x):=by
 unfold S3 at h;split at h
 ·obtain⟨E,C,h⟩:=bind_some h;obtain⟨I,D,h⟩:=bind_some h;injection h with h;subst h;exact(.cons (V.eo C) (.cons (V.aV D) bW.nil))
 ·cases h
def alo(o:Nat)(cs:aa V)(x:fG)(h:S4 o cs=some x):bW cs (Dw o x):=by
 unfold S4 at h;split at h
 ·obtain⟨L,C,h⟩:=bind_some h;obtain⟨O,D,h⟩:=bind_some h;obtain⟨Q,E,h⟩:=bind_some h;obtain⟨T,I,h⟩:=bind_some h;obtain⟨U,J,h⟩:=bind_some h;injection h with h;subst h;exact(.cons (V.aV C) (.cons (V.aV D) (.cons (V.aV E) (.cons (V.aV I) (.cons (V.aV J) bW.nil)))))
 ·cases h
def alp(o:Nat)(cs:aa V)(x:dF)(h:S5 o cs=some x):bW cs (Gm o x):=by
 unfold S5 at h;split at h
 ·obtain⟨E,C,h⟩:=bind_some h;obtain⟨I,D,h⟩:=bind_some h;injection h with h;subst h;exact(.cons (V.eo C) (.cons (V.eo D) bW.nil))
 ·cases h
def alq(o:Nat)(cs:aa V)(x:bZ)(h:S6 o cs=some x):bW cs (Gn o x):=by
 unfold S6 at h;split at h
 ·obtain⟨E,C,h⟩:=bind_some h;obtain⟨I,D,h⟩:=bind_some h;injection h with h;subst h;exact(.cons (V.eo C) (.cons (V.ou D) bW.nil))
 ·cases h
def alr(o:Nat)(cs:aa V)(x:dx)(h:S7 o cs=some x):bW cs (Gq o x):=by
 unfold S7 at h;split at h
 ·obtain⟨I,C,h⟩:=bind_some h;obtain⟨J,D,h⟩:=bind_some h;obtain⟨L,E,h⟩:=bind_some h;injection h with h;subst h;exact(.cons (V.eo C) (.cons (V.eo D) (.cons (V.eo E) bW.nil)))
 ·cases h
def als(o:Nat)(cs:aa V)(x:lz)(h:S8 o cs=some x):bW cs (Dx o x):=by
 unfold S8 at h;split at h
 ·obtain⟨E,C,h⟩:=bind_some h;obtain⟨I,D,h⟩:=bind_some h;injection h with h;subst h;exact(.cons (V.aV C) (.cons (V.aV D) bW.nil))
 ·cases h
def alu(o:Nat)(cs:aa V)(x:cx)(h:S9 o cs=some x):bW cs (Gr o x):=by
 unfold S9 at h;split at h
 ·obtain⟨I,C,h⟩:=bind_some h;obtain⟨J,D,h⟩:=bind_some h;obtain⟨L,E,h⟩:=bind_some h;injection h with h;subst h;exact(.cons (V.eo C) (.cons (V.eo D) (.cons (V.aV E) bW.nil)))
 ·cases h
def alv(o:Nat)(cs:aa V)(x:dG)(h:Ta o cs=some x):bW cs (Gs o x):=by
 unfold Ta at h;split at h
 ·obtain⟨E,C,h⟩:=bind_some h;obtain⟨I,D,h⟩:=bind_some h;injection h with h;subst h;exact(.cons (V.aV C) (.cons (V.eo D) bW.nil))
 ·cases h
def alw(o:Nat)(cs:aa V)(x:cZ)(h:Tb o cs=some x):bW cs (Gt o x):=by
 unfold Tb at h;split at h
 ·obtain⟨I,C,h⟩:=bind_some h;obtain⟨J,D,h⟩:=bind_some h;obtain⟨L,E,h⟩:=bind_some h;injection h with h;subst h;exact(.cons (V.eo C) (.cons (V.aV D) (.cons (V.ou E) bW.nil)))
 ·cases h
def aak(o:Nat)(cs:aa V)(x:aX)(h:MM o cs=some x):bW cs (yJ o x):=by
 unfold MM at h;split at h
 ·obtain⟨O,C,h⟩:=bind_some h;obtain⟨Q,D,h⟩:=bind_some h;obtain⟨T,E,h⟩:=bind_some h;obtain⟨U,I,h⟩:=bind_some h;obtain⟨Y,J,h⟩:=bind_some h;obtain⟨Z,L,h⟩:=bind_some h;injection h with h;subst h;exact(.cons (V.aV C) (.cons (V.aV D) (.cons (V.aV E) (.cons (V.ou I) (.cons (V.aV J) (.cons (V.aV L) bW.nil))))))
 ·cases h
def alx(o:Nat)(cs:aa V)(x:cz)(h:Tc o cs=some x):bW cs (Dy o x):=by
 unfold Tc at h;split at h
 ·obtain⟨E,C,h⟩:=bind_some h;obtain⟨I,D,h⟩:=bind_some h;injection h with h;subst h;exact(.cons (V.aV C) (.cons (V.aV D) bW.nil))
 ·cases h
def aly(o:Nat)(cs:aa V)(x:gJ)(h:Td o cs=some x):bW cs (Dz o x):=by
 unfold Td at h;split at h
 ·obtain⟨I,C,h⟩:=bind_some h;obtain⟨J,D,h⟩:=bind_some h;obtain⟨L,E,h⟩:=bind_some h;injection h with h;subst h;exact(.cons (V.ou C) (.cons (V.aV D) (.cons (V.aV E) bW.nil)))
 ·cases h
def alz(o:Nat)(cs:aa V)(x:MB)(h:Te o cs=some x):bW cs (Gu o x):=by
 unfold Te at h;split at h
 ·obtain⟨E,C,h⟩:=bind_some h;obtain⟨I,D,h⟩:=bind_some h;injection h with h;subst h;exact(.cons (V.eo C) (.cons (V.aV D) bW.nil))
 ·cases h
def alA(o:Nat)(cs:aa V)(x:MC)(h:Tf o cs=some x):bW cs (DA o x):=by
 unfold Tf at h;split at h
 ·obtain⟨E,C,h⟩:=bind_some h;obtain⟨I,D,h⟩:=bind_some h;injection h with h;subst h;exact(.cons (V.aV C) (.cons (V.aV D) bW.nil))
 ·cases h
def alB(o:Nat)(cs:aa V)(x:eT)(h:Tg o cs=some x):bW cs (DB o x):=by
 unfold Tg at h;split at h
 ·obtain⟨I,C,h⟩:=bind_some h;obtain⟨J,D,h⟩:=bind_some h;obtain⟨L,E,h⟩:=bind_some h;injection h with h;subst h;exact(.cons (V.aV C) (.cons (V.aV D) (.cons (V.aV E) bW.nil)))
 ·cases h
def alC(o:Nat)(cs:aa V)(x:og)(h:Th o cs=some x):bW cs (DC o x):=by
 unfold Th at h;split at h
 ·obtain⟨E,C,h⟩:=bind_some h;obtain⟨I,D,h⟩:=bind_some h;injection h with h;subst h;exact(.cons (V.aV C) (.cons (V.aV D) bW.nil))
 ·cases h
def alD(o:Nat)(cs:aa V)(x:cv)(h:Ti o cs=some x):bW cs (DD o x):=by
 unfold Ti at h;split at h
 ·obtain⟨I,C,h⟩:=bind_some h;obtain⟨J,D,h⟩:=bind_some h;obtain⟨L,E,h⟩:=bind_some h;injection h with h;subst h;exact(.cons (V.aV C) (.cons (V.aV D) (.cons (V.aV E) bW.nil)))
 ·cases h
def alE(o:Nat)(cs:aa V)(x:MD)(h:Tj o cs=some x):bW cs (Gw o x):=by
 unfold Tj at h;split at h
 ·obtain⟨D,C,h⟩:=bind_some h;injection h with h;subst h;exact(.cons (V.eo C) bW.nil)
 ·cases h
def alF(o:Nat)(cs:aa V)(x:ME)(h:Tl o cs=some x):bW cs (Gx o x):=by
 unfold Tl at h;split at h
 ·obtain⟨E,C,h⟩:=bind_some h;obtain⟨I,D,h⟩:=bind_some h;injection h with h;subst h;exact(.cons (V.eo C) (.cons (V.aV D) bW.nil))
 ·cases h
def alG(o:Nat)(cs:aa V)(x:MF)(h:Tn o cs=some x):bW cs (Gy o x):=by
 unfold Tn at h;split at h
 ·obtain⟨E,C,h⟩:=bind_some h;obtain⟨I,D,h⟩:=bind_some h;injection h with h;subst h;exact(.cons (V.aV C) (.cons (V.eo D) bW.nil))
 ·cases h
def alH(o:Nat)(cs:aa V)(x:Dp)(h:To o cs=some x):bW cs (DE o x):=by
 unfold To at h;split at h
 ·obtain⟨E,C,h⟩:=bind_some h;obtain⟨I,D,h⟩:=bind_some h;injection h with h;subst h;exact(.cons (V.aV C) (.cons (V.aV D) bW.nil))
 ·cases h
def alI(o:Nat)(cs:aa V)(x:Gj)(h:Tp o cs=some x):bW cs (Gz o x):=by
 unfold Tp at h;split at h
 ·obtain⟨I,C,h⟩:=bind_some h;obtain⟨J,D,h⟩:=bind_some h;obtain⟨L,E,h⟩:=bind_some h;injection h with h;subst h;exact(.cons (V.aV C) (.cons (V.eo D) (.cons (V.eo E) bW.nil)))
 ·cases h
def alJ(o:Nat)(cs:aa V)(x:MG)(h:Tq o cs=some x):bW cs (GA o x):=by
 unfold Tq at h;split at h
 ·obtain⟨O,C,h⟩:=bind_some h;obtain⟨Q,D,h⟩:=bind_some h;obtain⟨T,E,h⟩:=bind_some h;obtain⟨U,I,h⟩:=bind_some h;obtain⟨Y,J,h⟩:=bind_some h;obtain⟨Z,L,h⟩:=bind_some h;injection h with h;subst h;exact(.cons (V.aV C) (.cons (V.aV D) (.cons (V.eo E) (.cons (V.eo I) (.cons (V.eo J) (.cons (V.eo L) bW.nil))))))
 ·cases h
def alK(o:Nat)(cs:aa V)(x:lA)(h:Tr o cs=some x):bW cs (DF o x):=by
 unfold Tr at h;split at h
 ·obtain⟨I,C,h⟩:=bind_some h;obtain⟨J,D,h⟩:=bind_some h;obtain⟨L,E,h⟩:=bind_some h;injection h with h;subst h;exact(.cons (V.aV C) (.cons (V.aV D) (.cons (V.aV E) bW.nil)))
 ·cases h
def alL(o:Nat)(cs:aa V)(x:MH)(h:Ts o cs=some x):bW cs (GB o x):=by
 unfold Ts at h;split at h
 ·obtain⟨O,C,h⟩:=bind_some h;obtain⟨Q,D,h⟩:=bind_some h;obtain⟨T,E,h⟩:=bind_some h;obtain⟨U,I,h⟩:=bind_some h;obtain⟨Y,J,h⟩:=bind_some h;obtain⟨Z,L,h⟩:=bind_some h;injection h with h;subst h;exact(.cons (V.aV C) (.cons (V.eo D) (.cons (V.ou E) (.cons (V.eo I) (.cons (V.ou J) (.cons (V.aV L) bW.nil))))))
 ·cases h
def alM(o:Nat)(cs:aa V)(x:MI)(h:Tt o cs=some x):bW cs (DG o x):=by
 unfold Tt at h;split at h
 ·obtain⟨J,C,h⟩:=bind_some h;obtain⟨L,D,h⟩:=bind_some h;obtain⟨O,E,h⟩:=bind_some h;obtain⟨Q,I,h⟩:=bind_some h;injection h with h;subst h;exact(.cons (V.aV C) (.cons (V.aV D) (.cons (V.aV E) (.cons (V.aV I) bW.nil))))
 ·cases h
def alN(o:Nat)(cs:aa V)(x:dS)(h:Tu o cs=some x):bW cs (GC o x):=by
 unfold Tu at h;split at h
 ·obtain⟨T,C,h⟩:=bind_some h;obtain⟨U,D,h⟩:=bind_some h;obtain⟨Y,E,h⟩:=bind_some h;obtain⟨Z,I,h⟩:=bind_some h;obtain⟨x4,J,h⟩:=bind_some h;obtain⟨x5,L,h⟩:=bind_some h;obtain⟨x6,O,h⟩:=bind_some h;obtain⟨x7,Q,h⟩:=bind_some h;injection h with h;subst h;exact(.cons (V.aV C) (.cons (V.aV D) (.cons (V.aV E) (.cons (V.aV I) (.cons (V.aV J) (.cons (V.eo L) (.cons (V.aV O) (.cons (V.aV Q) bW.nil))))))))
 ·cases h
def alO(o:Nat)(cs:aa V)(x:gi)(h:Tv o cs=some x):bW cs (GD o x):=by
 unfold Tv at h;split at h
 ·obtain⟨x0,C,h⟩:=bind_some h;obtain⟨x1,D,h⟩:=bind_some h;obtain⟨x2,E,h⟩:=bind_some h;obtain⟨x3,I,h⟩:=bind_some h;obtain⟨x4,J,h⟩:=bind_some h;obtain⟨x5,L,h⟩:=bind_some h;obtain⟨x6,O,h⟩:=bind_some h;obtain⟨x7,Q,h⟩:=bind_some h;obtain⟨x8,T,h⟩:=bind_some h;obtain⟨x9,U,h⟩:=bind_some h;obtain⟨qj,Y,h⟩:=bind_some h;obtain⟨qk,Z,h⟩:=bind_some h;obtain⟨qm,ke,h⟩:=bind_some h;obtain⟨qp,kf,h⟩:=bind_some h;obtain⟨qq,lG,h⟩:=bind_some h;obtain⟨qt,kN,h⟩:=bind_some h;obtain⟨qv,jL,h⟩:=bind_some h;injection h with h;subst h;exact(.cons (V.aV C) (.cons (V.aV D) (.cons (V.aV E) (.cons (V.aV I) (.cons (V.aV J) (.cons (V.eo L) (.cons (V.aV O) (.cons (V.aV Q) (.cons (V.aV T) (.cons (V.aV U) (.cons (V.aV Y) (.cons (V.aV Z) (.cons (V.aV ke) (.cons (V.eo kf) (.cons (V.aV lG) (.cons (V.aV kN) (.cons (V.ou jL) bW.nil)))))))))))))))))
 ·cases h
def alP(o:Nat)(cs:aa V)(x:eX)(h:Tw o cs=some x):bW cs (DH o x):=by
 unfold Tw at h;split at h
 ·obtain⟨x0,C,h⟩:=bind_some h;obtain⟨x1,D,h⟩:=bind_some h;obtain⟨x2,E,h⟩:=bind_some h;obtain⟨x3,I,h⟩:=bind_some h;obtain⟨x4,J,h⟩:=bind_some h;obtain⟨x5,L,h⟩:=bind_some h;obtain⟨x6,O,h⟩:=bind_some h;obtain⟨x7,Q,h⟩:=bind_some h;obtain⟨x8,T,h⟩:=bind_some h;obtain⟨x9,U,h⟩:=bind_some h;obtain⟨qj,Y,h⟩:=bind_some h;obtain⟨qk,Z,h⟩:=bind_some h;obtain⟨qm,ke,h⟩:=bind_some h;obtain⟨qp,kf,h⟩:=bind_some h;obtain⟨qq,lG,h⟩:=bind_some h;obtain⟨qt,kN,h⟩:=bind_some h;obtain⟨qv,jL,h⟩:=bind_some h;obtain⟨yL,pF,h⟩:=bind_some h;obtain⟨yM,rm,h⟩:=bind_some h;obtain⟨yN,rq,h⟩:=bind_some h;obtain⟨GK,uT,h⟩:=bind_some h;obtain⟨GL,wo,h⟩:=bind_some h;obtain⟨GM,wq,h⟩:=bind_some h;obtain⟨GN,TL,h⟩:=bind_some h;obtain⟨GO,yP,h⟩:=bind_some h;obtain⟨GP,GS,h⟩:=bind_some h;obtain⟨GQ,GU,h⟩:=bind_some h;obtain⟨GR,TM,h⟩:=bind_some h;injection h with h;subst h;exact(.cons (V.aV C) (.cons (V.aV D) (.cons (V.aV E) (.cons (V.aV I) (.cons (V.aV J) (.cons (V.aV L) (.cons (V.aV O) (.cons (V.aV Q) (.cons (V.aV T) (.cons (V.aV U) (.cons (V.aV Y) (.cons (V.aV Z) (.cons (V.aV ke) (.cons (V.aV kf) (.cons (V.aV lG) (.cons (V.aV kN) (.cons (V.aV jL) (.cons (V.aV pF) (.cons (V.aV rm) (.cons (V.aV rq) (.cons (V.aV uT) (.cons (V.aV wo) (.cons (V.ou wq) (.cons (V.aV TL) (.cons (V.aV yP) (.cons (V.aV GS) (.cons (V.aV GU) (.cons (V.aV TM) bW.nil))))))))))))))))))))))))))))
 ·cases h
def alQ(o:Nat)(cs:aa V)(x:fe)(h:TG o cs=some x):bW cs (DI o x):=by
 unfold TG at h;split at h
 ·obtain⟨J,C,h⟩:=bind_some h;obtain⟨L,D,h⟩:=bind_some h;obtain⟨O,E,h⟩:=bind_some h;obtain⟨Q,I,h⟩:=bind_some h;injection h with h;subst h;exact(.cons (V.aV C) (.cons (V.aV D) (.cons (V.aV E) (.cons (V.aV I) bW.nil))))
 ·cases h
def aal(o:Nat)(cs:aa V)(x:av)(h:MN o cs=some x):bW cs (yK o x):=by
 unfold MN at h;split at h
 ·obtain⟨x0,C,h⟩:=bind_some h;obtain⟨x1,D,h⟩:=bind_some h;obtain⟨x2,E,h⟩:=bind_some h;obtain⟨x3,I,h⟩:=bind_some h;obtain⟨x4,J,h⟩:=bind_some h;obtain⟨x5,L,h⟩:=bind_some h;obtain⟨x6,O,h⟩:=bind_some h;obtain⟨x7,Q,h⟩:=bind_some h;obtain⟨x8,T,h⟩:=bind_some h;obtain⟨x9,U,h⟩:=bind_some h;obtain⟨qj,Y,h⟩:=bind_some h;obtain⟨qk,Z,h⟩:=bind_some h;obtain⟨qm,ke,h⟩:=bind_some h;obtain⟨qp,kf,h⟩:=bind_some h;obtain⟨qq,lG,h⟩:=bind_some h;obtain⟨qt,kN,h⟩:=bind_some h;obtain⟨qv,jL,h⟩:=bind_some h;obtain⟨yL,pF,h⟩:=bind_some h;obtain⟨yM,rm,h⟩:=bind_some h;obtain⟨yN,rq,h⟩:=bind_some h;obtain⟨GK,uT,h⟩:=bind_some h;obtain⟨GL,wo,h⟩:=bind_some h;obtain⟨GM,wq,h⟩:=bind_some h;obtain⟨GN,TL,h⟩:=bind_some h;obtain⟨GO,yP,h⟩:=bind_some h;obtain⟨GP,GS,h⟩:=bind_some h;obtain⟨GQ,GU,h⟩:=bind_some h;obtain⟨GR,TM,h⟩:=bind_some h;obtain⟨x28,h28,h⟩:=bind_some h;obtain⟨x29,h29,h⟩:=bind_some h;obtain⟨x30,h30,h⟩:=bind_some h;obtain⟨x31,h31,h⟩:=bind_some h;obtain⟨x32,TN,h⟩:=bind_some h;obtain⟨x33,h33,h⟩:=bind_some h;obtain⟨x34,h34,h⟩:=bind_some h;obtain⟨x35,h35,h⟩:=bind_some h;obtain⟨x36,h36,h⟩:=bind_some h;obtain⟨x37,h37,h⟩:=bind_some h;obtain⟨x38,h38,h⟩:=bind_some h;obtain⟨x39,h39,h⟩:=bind_some h;obtain⟨x40,h40,h⟩:=bind_some h;obtain⟨x41,h41,h⟩:=bind_some h;obtain⟨x42,h42,h⟩:=bind_some h;obtain⟨x43,h43,h⟩:=bind_some h;obtain⟨x44,h44,h⟩:=bind_some h;obtain⟨x45,h45,h⟩:=bind_some h;obtain⟨x46,h46,h⟩:=bind_some h;obtain⟨x47,h47,h⟩:=bind_some h;obtain⟨x48,h48,h⟩:=bind_some h;obtain⟨x49,h49,h⟩:=bind_some h;obtain⟨x50,h50,h⟩:=bind_some h;obtain⟨x51,h51,h⟩:=bind_some h;obtain⟨x52,h52,h⟩:=bind_some h;obtain⟨x53,h53,h⟩:=bind_some h;obtain⟨x54,h54,h⟩:=bind_some h;obtain⟨x55,h55,h⟩:=bind_some h;obtain⟨x56,h56,h⟩:=bind_some h;obtain⟨x57,h57,h⟩:=bind_some h;obtain⟨x58,h58,h⟩:=bind_some h;obtain⟨x59,h59,h⟩:=bind_some h;obtain⟨x60,h60,h⟩:=bind_some h;obtain⟨x61,h61,h⟩:=bind_some h;obtain⟨x62,h62,h⟩:=bind_some h;obtain⟨x63,SU,h⟩:=bind_some h;obtain⟨x64,h64,h⟩:=bind_some h;obtain⟨x65,h65,h⟩:=bind_some h;obtain⟨x66,h66,h⟩:=bind_some h;obtain⟨x67,h67,h⟩:=bind_some h;obtain⟨x68,h68,h⟩:=bind_some h;obtain⟨x69,h69,h⟩:=bind_some h;obtain⟨x70,h70,h⟩:=bind_some h;obtain⟨x71,h71,h⟩:=bind_some h;obtain⟨x72,h72,h⟩:=bind_some h;obtain⟨x73,h73,h⟩:=bind_some h;obtain⟨x74,h74,h⟩:=bind_some h;injection h with h;subst h;exact(.cons (V.aV C) (.cons (V.aV D) (.cons (V.aV E) (.cons (V.aV I) (.cons (V.aV J) (.cons (V.aV L) (.cons (V.aV O) (.cons (V.aV Q) (.cons (V.aV T) (.cons (V.aV U) (.cons (V.aV Y) (.cons (V.aV Z) (.cons (V.aV ke) (.cons (V.aV kf) (.cons (V.aV lG) (.cons (V.aV kN) (.cons (V.aV jL) (.cons (V.aV pF) (.cons (V.aV rm) (.cons (V.aV rq) (.cons (V.aV uT) (.cons (V.aV wo) (.cons (V.ou wq) (.cons (V.aV TL) (.cons (V.aV yP) (.cons (V.aV GS) (.cons (V.aV GU) (.cons (V.aV TM) (.cons (V.aV h28) (.cons (V.aV h29) (.cons (V.aV h30) (.cons (V.aV h31) (.cons (V.aV TN) (.cons (V.eo h33) (.cons (V.aV h34) (.cons (V.aV h35) (.cons (V.aV h36) (.cons (V.aV h37) (.cons (V.aV h38) (.cons (V.aV h39) (.cons (V.aV h40) (.cons (V.eo h41) (.cons (V.aV h42) (.cons (V.aV h43) (.cons (V.ou h44) (.cons (V.aV h45) (.cons (V.eo h46) (.cons (V.aV h47) (.cons (V.eo h48) (.cons (V.eo h49) (.cons (V.eo h50) (.cons (V.eo h51) (.cons (V.eo h52) (.cons (V.aV h53) (.cons (V.eo h54) (.cons (V.eo h55) (.cons (V.aV h56) (.cons (V.ou h57) (.cons (V.eo h58) (.cons (V.eo h59) (.cons (V.eo h60) (.cons (V.eo h61) (.cons (V.eo h62) (.cons (V.ou SU) (.cons (V.aV h64) (.cons (V.aV h65) (.cons (V.aV h66) (.cons (V.aV h67) (.cons (V.aV h68) (.cons (V.aV h69) (.cons (V.aV h70) (.cons (V.aV h71) (.cons (V.eo h72) (.cons (V.eo h73) (.cons (V.eo h74) bW.nil)))))))))))))))))))))))))))))))))))))))))))))))))))))))))))))))))))))))))))
 ·cases h
def alR(o:Nat)(cs:aa V)(x:jk)(h:TH o cs=some x):bW cs (GF o x):=by
 unfold TH at h;split at h
 ·obtain⟨x0,C,h⟩:=bind_some h;obtain⟨x1,D,h⟩:=bind_some h;obtain⟨x2,E,h⟩:=bind_some h;obtain⟨x3,I,h⟩:=bind_some h;obtain⟨x4,J,h⟩:=bind_some h;obtain⟨x5,L,h⟩:=bind_some h;obtain⟨x6,O,h⟩:=bind_some h;obtain⟨x7,Q,h⟩:=bind_some h;obtain⟨x8,T,h⟩:=bind_some h;obtain⟨x9,U,h⟩:=bind_some h;obtain⟨qj,Y,h⟩:=bind_some h;obtain⟨qk,Z,h⟩:=bind_some h;obtain⟨qm,ke,h⟩:=bind_some h;obtain⟨qp,kf,h⟩:=bind_some h;obtain⟨qq,lG,h⟩:=bind_some h;obtain⟨qt,kN,h⟩:=bind_some h;obtain⟨qv,jL,h⟩:=bind_some h;obtain⟨yL,pF,h⟩:=bind_some h;obtain⟨yM,rm,h⟩:=bind_some h;obtain⟨yN,rq,h⟩:=bind_some h;injection h with h;subst h;exact(.cons (V.aV C) (.cons (V.aV D) (.cons (V.aV E) (.cons (V.aV I) (.cons (V.ou J) (.cons (V.aV L) (.cons (V.aV O) (.cons (V.aV Q) (.cons (V.aV T) (.cons (V.aV U) (.cons (V.aV Y) (.cons (V.aV Z) (.cons (V.aV ke) (.cons (V.aV kf) (.cons (V.aV lG) (.cons (V.aV kN) (.cons (V.aV jL) (.cons (V.eo pF) (.cons (V.aV rm) (.cons (V.aV rq) bW.nil))))))))))))))))))))
 ·cases h
def alS(o:Nat)(cs:aa V)(x:MJ)(h:TI o cs=some x):bW cs (DJ o x):=by
 unfold TI at h;split at h
 ·obtain⟨I,C,h⟩:=bind_some h;obtain⟨J,D,h⟩:=bind_some h;obtain⟨L,E,h⟩:=bind_some h;injection h with h;subst h;exact(.cons (V.aV C) (.cons (V.aV D) (.cons (V.aV E) bW.nil)))
 ·cases h
def alT(o:Nat)(cs:aa V)(x:bN)(h:TJ o cs=some x):bW cs (GG o x):=by
 unfold TJ at h;split at h
 ·obtain⟨I,C,h⟩:=bind_some h;obtain⟨J,D,h⟩:=bind_some h;obtain⟨L,E,h⟩:=bind_some h;injection h with h;subst h;exact(.cons (V.eo C) (.cons (V.aV D) (.cons (V.aV E) bW.nil)))
 ·cases h
def DL{α:Type}{f:V->aj α}{g:α->V}(C:∀ x a,f x=some a->Wk x (g a)){cs:aa V}{x:α}(h:yO f cs=some x):bW cs [g x]:=by
 unfold yO at h;split at h
 ·exact .cons (C _ _ h) .nil
 ·cases h
def alU{α:Type}{f:aa V->aj α}{g:α->aa V}(C:∀ x a,f x=some a->bW x (g a)){cs:aa V}{x:α}(h:TK f cs=some x):bW cs (.bool true :: g x):=by
 unfold TK at h;split at h
 ·exact .cons (.same _) (C _ _ h)
 ·cases h
def MO{α:Type}{n:Nat}{f:aa V->aj α}{g:α->aa V}(C:∀ x a,f x=some a->bW x (g a)){cs:aa V}{x:α}(h:DK n f cs=some x):bW cs (.bool false :: .int .i64 (n:Int) :: g x):=by
 unfold DK at h;split at h
 ·split at h
  next D=>subst D;exact .cons (.same _) (.cons (.same _) (C _ _ h))
  ·cases h
 ·cases h
def l6:(t:TC)->(o:Nat)->(cs:aa V)->(x:T t)->dec t o cs=some x->bW cs (enc t o x)
 |.int,_,_,_,h=>DL (g:=λn=>.int .i64 n) (λ_ _=>V.aV) h
 |.u8,_,_,_,h=>DL (g:=λn=>.int .u8 n) (λ_ _=>V.alf) h
 |.bool,_,_,_,h=>DL (g:=λn=>.bool n) (λ_ _=>V.ou) h
 |.str,_,_,_,h=>DL (g:=λn=>.str n) (λ_ _=>V.alg) h
 |.fR,o,cs,x,h=>alh o cs x h
 |.Addr,o,cs,x,h=>aai o cs x h
 |.q9,o,cs,x,h=>ali o cs x h
 |.yx,o,cs,x,h=>alj o cs x h
 |.Command,o,cs,x,h=>aaj o cs x h
 |.lC,o,cs,x,h=>alk o cs x h
 |.nI,o,cs,x,h=>alm o cs x h
 |.iQ,o,cs,x,h=>aln o cs x h
 |.Event,o,cs,x,h=>alo o cs x h
 |.lD,o,cs,x,h=>alp o cs x h
 |.Cell,o,cs,x,h=>alq o cs x h
 |.Array,o,cs,x,h=>alr o cs x h
 |.sy,o,cs,x,h=>als o cs x h
 |.iR,o,cs,x,h=>alu o cs x h
 |.om,o,cs,x,h=>alv o cs x h
 |.lE,o,cs,x,h=>alw o cs x h
 |.dD,o,cs,x,h=>aak o cs x h
 |.gj,o,cs,x,h=>alx o cs x h
 |.oq,o,cs,x,h=>aly o cs x h
 |.yz,o,cs,x,h=>alz o cs x h
 |.yA,o,cs,x,h=>alA o cs x h
 |.Power,o,cs,x,h=>alB o cs x h
 |.sA,o,cs,x,h=>alC o cs x h
 |.gK,o,cs,x,h=>alD o cs x h
 |.yB,o,cs,x,h=>alE o cs x h
 |.yC,o,cs,x,h=>alF o cs x h
 |.Receiver,o,cs,x,h=>alG o cs x h
 |.Node,o,cs,x,h=>alH o cs x h
 |.Tree,o,cs,x,h=>alI o cs x h
 |.yD,o,cs,x,h=>alJ o cs x h
 |.ri,o,cs,x,h=>alK o cs x h
 |.yE,o,cs,x,h=>alL o cs x h
 |.Move,o,cs,x,h=>alM o cs x h
 |.nJ,o,cs,x,h=>alN o cs x h
 |.ot,o,cs,x,h=>alO o cs x h
 |.Config,o,cs,x,h=>alP o cs x h
 |.pz,o,cs,x,h=>alQ o cs x h
 |.cV,o,cs,x,h=>aal o cs x h
 |.Act,o,cs,x,h=>alR o cs x h
 |.Fact,o,cs,x,h=>alS o cs x h
 |.rj,o,cs,x,h=>alT o cs x h
 |.sl t,o,_,_,h=>DL (g:=λn=>.sl t o false n) (λ_ _=>V.eo) h
 |.lF,o,_,_,h=>alU (g:=yK o) (aal o) h
 |.yF g,o,_,_,h=>MO (g:=λn=>[.int .i64 n]) (λ_ _ h=>DL (g:=λn=>.int .i64 n) (λ_ _=>V.aV) h) h
 |.Dq g,o,_,_,h=>MO (g:=yJ o) (aak o) h
 |.yG g,o,_,_,h=>MO (g:=yH o) (aai o) h
 |.fnCommand g,o,_,_,h=>MO (g:=yI o) (aaj o) h
def V.low(n:Nat):V->Bool
 |.sl t _ _ _=>Nat.ble (full t+2) n
 |_=>true
def MP(t:TC)(o:Nat)(x:T t):∀ y∈enc t o x,y.low (full t)=true:=by
 cases t<;>simp[enc,V.low,full,Ds,yH,Dt,Gk,yI,Du,Dv,Gl,Dw,Gm,Gn,Gq,Dx,Gr,Gs,Gt,yJ,Dy,Dz,Gu,DA,DB,DC,DD,Gw,Gx,Gy,DE,Gz,GA,DF,GB,DG,GC,GD,DH,DI,yK,GF,DJ,GG]
def V.plain:V->Bool
 |.int _ _|.bool _|.str _=>true
 |_=>false
def yQ(t:TC)(o:Nat)(x:T t)(h:full t=0):∀ y∈enc t o x,y.plain=true:=by
 cases t<;>first|(simp[full]at h;done)|simp[enc,V.plain,Ds,yH,Dt,yI,Du,Dv,Dw,Dx,yJ,Dy,Dz,DA,DB,DC,DD,DE,DF,DG,DH,DI,DJ]
def V.ki:V->Bool
 |.nil=>false
 |_=>true
def TO(t:TC)(o:Nat)(x:T t):∀ y∈enc t o x,y.ki=true:=by
 cases t<;>simp[enc,V.ki,Ds,yH,Dt,Gk,yI,Du,Dv,Gl,Dw,Gm,Gn,Gq,Dx,Gr,Gs,Gt,yJ,Dy,Dz,Gu,DA,DB,DC,DD,Gw,Gx,Gy,DE,Gz,GA,DF,GB,DG,GC,GD,DH,DI,yK,GF,DJ,GG]
def tcs:aa TC:=[.int,.u8,.bool,.str,.sl .int,.sl .bool,.sl .str,.fR,.Addr,.q9,.yx,.Command,.lC,.nI,.iQ,.Event,.lD,.Cell,.Array,.sy,.iR,.om,.lE,.dD,.gj,.oq,.yz,.yA,.Power,.sA,.gK,.yB,.yC,.Receiver,.Node,.Tree,.yD,.ri,.yE,.Move,.nJ,.ot,.Config,.pz,.cV,.Act,.Fact,.rj]
def aam(e:TypeId):aj TC:=tcs.find? λt=>Nat.beq (tid t) e
def alV{e:TypeId}{t:TC}(h:aam e=some t):tid t=e:=ck (List.find?_some (p:=λt=>Nat.beq (tid t) e) h)
def V.gr(o:Nat):V->Bool
 |.sl _ C _ _=>C==o
 |_=>true
def wu(t:TC)(o:Nat)(x:T t):∀ y∈enc t o x,y.gr o=true:=by
 cases t<;>simp[enc,V.gr,Ds,yH,Dt,Gk,yI,Du,Dv,Gl,Dw,Gm,Gn,Gq,Dx,Gr,Gs,Gt,yJ,Dy,Dz,Gu,DA,DB,DC,DD,Gw,Gx,Gy,DE,Gz,GA,DF,GB,DG,GC,GD,DH,DI,yK,GF,DJ,GG]
def V.aF:V->Bool
 |.sl _ o _ _=>decide (o<2)
 |_=>true
def V.gL:V->V
 |.sl t _ q l=>.sl t 0 q l
 |x=>x
def alW(t:TC)(o:Nat)(x y:T t):(enc t o x).map (λv=>(v.plain,v.aF))=(enc t o y).map (λv=>(v.plain,v.aF)):=by cases t<;>rfl
def V.alX(x:V):x.gL.aF=true:=by cases x<;>simp[V.gL,V.aF]
def jM(t:TC)(o:Nat)(x:T t)(C:o<2)(j:Nat)(y:V)(h:(enc t o x)[j]?=some y):y.aF=true:=by
 have:=wu t o x y (ga h);cases y<;>simp_all [V.gr,V.aF]
def aan(t:TC)(o:Nat)(x:T t):enc t 0 x=(enc t o x).map V.gL:=by cases t<;>rfl
def wz(t:TC)(o:Nat)(x:T t)(j:Nat)(y:V)(h:(enc t 0 x)[j]?=some y):∃ z,(enc t o x)[j]?=some z/\y=z.gL:=by
 rw[aan t o x,dw]at h;cases C:(enc t o x)[j]? with
 |none=>rw[C]at h;cases h
 |some z=>rw[C]at h;injection h with h;exact⟨z,rfl,h.symm⟩
def inner:Nat->Nat
 |0=>0
 |1=>1
 |n+2=>n
abbrev bG:=Nat->aj (aa Nat)
inductive RV (w:World) (B:Nat) (ah:bG):List Nat->V->Value->Prop
 |int (q:List Nat) (k:IntKind) (n:Int):RV w B ah q (.int k n) (.int k n)
 |bool (q:List Nat) (b:Bool):RV w B ah q (.bool b) (.bool b)
 |str (q:List Nat) (s:ByteArray):RV w B ah q (.str s) (.string s)
 |nil (q:List Nat):RV w B ah q .nil (.slice none 0 0)
 |cS (q:List Nat) (t:TC) (o:Nat):RV w B ah q (.sl t o false []) (.slice none 0 0)
 |cW (q:List Nat) (t:TC) (o:Nat) (A:Addr) (c:Nat) (ho:o<2):RV w B ah q (.sl t o false []) (.slice (some A) 0 c)
 |de (q:List Nat) (t:TC) (o:Nat) (A:Addr) (c:Nat) (ho:o<2):RV w B ah q (.sl t o true []) (.slice (some A) 0 c)
 | aF (q:List Nat) (t:TC) (o:Nat) (qn:Bool) (l:List (T t)) (b off cap:Nat) (u:Nat->Nat->Value) (ho:o<2) (hl:ah b=none) (hb:b<w.heap.size) (h1:o=1->B<=b) (pG:l.length<=cap)
   (hc:∀i (h:i<l.length) j x,(enc t o l[i])[j]?=some x->w.cell? ⟨b,off+(i*aD t+j),none⟩=some (u i j))
   (hr:∀i (h:i<l.length) j x,(enc t o l[i])[j]?=some x->RV w B ah [] x (u i j)):RV w B ah q (.sl t o qn l) (.slice (some ⟨b,off,none⟩) l.length cap)
 | own (q:List Nat) (t:TC) (o:Nat) (qn:Bool) (l:List (T t)) (b cap:Nat) (cs:Array Value) (u:Nat->Nat->Value) (hl:ah b=some q) (hh:w.heap[b]?=some (.cells cs (tid t) (0,0)))
   (hs:cs.size=cap*aD t) (hn:l.length<=cap) (hm:cap<=maxLen/\(qn=true->cap=l.length))
   (hc:∀i (h:i<l.length) j x,(enc t o l[i])[j]?=some x->cs[i*aD t+j]?=some (u i j))
   (hr:∀i (h:i<l.length) j x,(enc t o l[i])[j]?=some x->RV w B ah (j::i::aD t::q) x (u i j)):RV w B ah q (.sl t (o+2) qn l) (.slice (some ⟨b,0,none⟩) l.length cap)
section
variable {w w':World} {B:Nat} {ah aE:bG}
def V.GV(n:Nat):V->V
 |.sl t _ q l=>.sl t n q l
 |x=>x
def alY(t:TC)(o n:Nat)(x:T t):enc t n x=(enc t o x).map (V.GV n):=by cases t<;>rfl
def V.fu(n:Nat):V->Prop
 |.sl t o _ _=>full t+2<=o/\full t+2<=n
 |_=>True
def RV.GV{q:aa Nat}{x:V}{v:Value}(h:RV w B ah q x v):∀ n,x.fu n->RV w B ah q (x.GV n) v:=by
 induction h with
 |int=>exact λ_ _=>.int _ _ _
 |bool=>exact λ_ _=>.bool _ _
 |str=>exact λ_ _=>.str _ _
 |nil=>exact λ_ _=>.nil _
 |cS=>exact λ_ _=>.cS _ _ _
 |cW q t o A c J=>exact λn E=>by have:=E.1;omega
 |de q t o A c J=>exact λn E=>by have:=E.1;omega
 |aF q t o Q l b off cap u J hl hb T pG L U O=>exact λn E=>by have:=E.1;omega
 | own q t o Q l b cap cs u hl Y Z E hm L U O=>
  intro n I;obtain⟨T,h2⟩:=I;obtain⟨m,rfl⟩:∃m,n=m+2:=⟨n-2,by omega⟩
  have key:∀ (i:Nat) (h:i<l.length) (j:Nat) (x:V),(enc t m l[i])[j]?=some x->∃ y:V,(enc t o l[i])[j]?=some y/\y.GV m=x/\y.fu m:=by
   intro i h j x C;rw[alY t o m l[i],dw]at C;cases D:(enc t o l[i])[j]? with
   |none=>rw[D]at C;cases C
   | some y=>
    rw[D]at C;injection C with C;refine⟨y,rfl,C,?_⟩;have g1:=wu t o l[i] y (ga D);have g2:=MP t o l[i] y (ga D);cases y with
    | sl t' o' q' l'=>
     have e:o'=o:=by simpa [V.gr]using g1
     have:=cI (show Nat.ble (full t'+2) (full t)=true from g2);exact⟨by omega,by omega⟩
    |_=>trivial
  refine .own _ _ _ _ _ _ _ cs u hl Y Z E hm (λi h j x C=>?_) (λi h j x C=>?_)
  ·obtain⟨y,D,_⟩:=key i h j x C;exact L i h j y D
  ·obtain⟨y,D,rfl,I⟩:=key i h j x C;exact O i h j y D m I
def RV.wk{q:aa Nat}{x y:V}{v:Value}(h:RV w B ah q x v)(k:Wk x y):RV w B ah q y v:=by
 cases k with
 |same=>exact h
 |nil t o=>cases h;exact .cS _ _ _
 | gr t o Z I l J Y=>
  have h:=h.GV o ⟨Y,J⟩;have h:RV w B ah q (.sl t o I l) v:=h;cases h with
  |cS=>exact .cS _ _ _
  |cW q t o A c C=>exact .cW _ _ _ _ _ C
  |de q t o A c C=>exact .cW _ _ _ _ _ C
  |aF q t o I l b off cap u C hl hb J L D E=>exact .aF _ _ _ _ _ _ _ _ u C hl hb J L D E
  |own q t o I l b cap cs u hl O Q T U D E=>exact .own _ _ _ _ _ _ _ cs u hl O Q T ⟨U.1,λh=>by cases h⟩ D E
 | q t o l=>
  cases h with
  |de q t o A c C=>exact .cW _ _ _ _ _ C
  |aF q t o I l b off cap u C hl hb J L D E=>exact .aF _ _ _ _ _ _ _ _ u C hl hb J L D E
  |own q t o I l b cap cs u hl O Q T U D E=>exact .own _ _ _ _ _ _ _ cs u hl O Q T ⟨U.1,λh=>by cases h⟩ D E
def RV.key{q E:aa Nat}{x:V}{v:Value}(h:RV w B ah q x v)(I:x.aF=true):RV w B ah E x v:=by
 cases h with
 |int=>exact .int _ _ _
 |bool=>exact .bool _ _
 |str=>exact .str _ _
 |nil=>exact .nil _
 |cS=>exact .cS _ _ _
 |cW=>exact .cW _ _ _ _ _ (by first|assumption|omega)
 |de=>exact .de _ _ _ _ _ (by first|assumption|omega)
 |aF q t o J l b off cap u L hl hb O Q C D=>exact .aF _ _ _ _ _ _ _ _ u L hl hb O Q C D
 |own q t o J l b cap cs u hl T U Y Z C D=>simp[V.aF]at I;omega
def mQ:Value->Bool
 |.slice ..=>true
 |_=>false
def RV.TP{q:aa Nat}{x:V}{u:Value}(h:RV w B ah q x u)(C:x.aF=false):mQ u=true:=by
 cases h<;>first|rfl|cases C
def RV.one{q:aa Nat}{x:V}{u:Value}(h:RV w B ah q x u):u.oneCell'=true:=by
 cases h<;>rfl
def RV.gk{q:aa Nat}{x:V}{v:Value}(h:RV w B ah q x v)(J:w.heap.size<=w'.heap.size)(C:∀ b,b<w.heap.size->w'.heap[b]?=w.heap[b]?/\aE b=ah b):RV w' B aE q x v:=by
 induction h with
 |int=>exact .int _ _ _
 |bool=>exact .bool _ _
 |str=>exact .str _ _
 |nil=>exact .nil _
 |cS=>exact .cS _ _ _
 |cW=>exact .cW _ _ _ _ _ (by first|assumption|omega)
 |de=>exact .de _ _ _ _ _ (by first|assumption|omega)
 | aF q t o L l b off cap u O hl hb Q T D U E=>
  exact .aF _ _ _ _ _ _ _ _ u O ((C b hb).2.trans hl) (kI hb J) Q T (λi h j x Y=>(kJ (a:=⟨b,_,none⟩) (C b hb).1).trans (D i h j x Y)) E
 | own q t o L l b cap cs u hl I Z hn hm D U E=>
  have hb:b<w.heap.size:=(gd.1 I).1;exact .own _ _ _ _ _ _ _ cs u ((C b hb).2.trans hl) ((C b hb).1.trans I) Z hn hm D E
def RV.apart{q kt:aa Nat}{x:V}{v:Value}{bt:Nat}(h:RV w B ah q x v)(C:ah bt=some kt)(hq:¬ q <:+ kt\/x.aF=true)(U:w.heap.size<=w'.heap.size)(O:∀ b,b≠bt->w'.heap[b]?=w.heap[b]?):RV w' B ah q x v:=by
 induction h with
 |int=>exact .int _ _ _
 |bool=>exact .bool _ _
 |str=>exact .str _ _
 |nil=>exact .nil _
 |cS=>exact .cS _ _ _
 |cW=>exact .cW _ _ _ _ _ (by first|assumption|omega)
 |de=>exact .de _ _ _ _ _ (by first|assumption|omega)
 | aF q t o Y l b off cap u Q hl hb Z pG E hr I=>
  have J:b≠bt:=by rintro rfl;rw[hl]at C;cases C
  refine .aF _ _ _ _ _ _ _ _ u Q hl (kI hb U) Z pG (λi h j x D=>(kJ (a:=⟨b,_,none⟩) (O b J)).trans (E i h j x D)) (λi h j x D=>I i h j x D (.inr (jM t o l[i] Q j x D)))
 | own q t o Y l b cap cs u hl hh L hn hm E hr I=>
  have T:¬ q <:+ kt:=by
   rcases hq with hq|hq
   ·exact hq
   ·simp[V.aF]at hq;omega
  have J:b≠bt:=by rintro rfl;rw[hl]at C;injection C with C;subst C;exact T (List.suffix_refl _)
  refine .own _ _ _ _ _ _ _ cs u hl ((O b J).trans hh) L hn hm E (λi h j x D=>I i h j x D (.inl λL=>T (List.IsSuffix.trans ⟨[j,i,aD t],rfl⟩ L)))
def RV.gL{q J:aa Nat}{x:V}{v:Value}(h:RV w B ah q x v){B':Nat}:RV w B' (λ_=>none) J x.gL v:=by
 induction h generalizing J with
 |int=>exact .int _ _ _
 |bool=>exact .bool _ _
 |str=>exact .str _ _
 |nil=>exact .nil _
 |cS=>exact .cS _ _ _
 |cW=>exact .cW _ _ _ _ _ (by first|assumption|omega)
 |de=>exact .de _ _ _ _ _ (by first|assumption|omega)
 | aF q t o O l b off cap u Y hl hb Z Q E T I=>
  refine .aF _ _ _ _ _ _ _ _ u (by omega) rfl hb (by omega) Q (λi h j x C=>?_) (λi h j x C=>?_)
  ·obtain⟨y,D,_⟩:=wz t o l[i] j x C;exact E i h j y D
  ·obtain⟨y,D,rfl⟩:=wz t o l[i] j x C;exact I i h j y D
 | own q t o O l b cap cs u hl L hs U hm E T I=>
  refine .aF _ _ _ _ _ _ _ _ u (by omega) rfl (gd.1 L).1 (by omega) U (λi h j x C=>?_) (λi h j x C=>?_)
  ·obtain⟨y,D,_⟩:=wz t o l[i] j x C;have:=E i h j y D;rw[fo,cell_of_row w b _ cs _ _ L];exact this
  ·obtain⟨y,D,rfl⟩:=wz t o l[i] j x C;exact I i h j y D
end
set_option linter.unusedVariables false
inductive Lf where
 |v (x:V)
 |own (k:List Nat)
 |dead
inductive A where
 |undef
 |skip
 |lf (x:Lf)
 |agg (cs:List Lf)
 |cQ (xs:List (Bool×List Lf))
 |ptr (k:List Nat)
 |aG (r j:Nat)
 |hJ (cs:List V)
 |kO (f:Nat) (cs:List V)
 |pk (r n:Nat)
 |view (k:List Nat) (s i j:Nat)
 |fn (f:Nat) (cap:List (Nat×Nat))
inductive aZ where
 |aB (cs:List Lf)
 |sl (y:V)
 |mp (l:List (Int×Bool))
 |gh (xs:List A)
structure S where
 t:Nat->A
 m:Nat->Option aZ
inductive Loc where
 |aB (b off:Nat)
 |dI (v:Value)
 |bX (us:List Value)
def addrAt(w:World)(ah:bG)(ρ:Nat->Loc):aa Nat->aj Addr
 | j :: i :: s :: [r]=>match ρ r with
  |.dI (.slice (some ⟨b,0,none⟩) _ _)=>if ah b=some [r]then some ⟨b,i*s+j,none⟩else none
  |_=>none
 | j :: i :: s :: q=>match (addrAt w ah ρ q).bind w.cell? with
  |some (.slice (some ⟨b,0,none⟩) _ _)=>if ah b=some q then some ⟨b,i*s+j,none⟩else none
  |_=>none
 |_=>none
def cH(w:World)(ah:bG)(ρ:Nat->Loc):aa Nat->aj Value
 | [r]=>match ρ r with
  |.dI v=>some v
  |_=>none
 |q=>(addrAt w ah ρ q).bind w.cell?
def dy(w:World)(B:Nat)(ah:bG)(ρ:Nat->Loc):Lf->Value->Prop
 |.v x,u=>x.aF=true/\RV w B ah [] x u
 |.own k,u=>mQ u=true/\cH w ah ρ k=some u
 |.dead,_=>True
def dU(w:World)(B:Nat)(ah:bG)(ρ:Nat->Loc)(cs:aa Lf)(us:Array Value):Prop:=
 us.size=cs.length/\∀(j:Nat) x,cs[j]?=some x->∃u,us[j]?=some u/\dy w B ah ρ x u
def RP(w:World)(B:Nat)(ah:bG)(ρ:Nat->Loc)(p:Bool×aa Lf)(u:Value):Prop:=
 match p with
 |(true,cs)=>∃us,u = .agg us/\dU w B ah ρ cs us
 |(false,cs)=>dU w B ah ρ cs #[u]
def qw:Nat:=4294967296
def MQ(b n:Nat):Value:=bif Nat.beq n qw then .map (some b)else .slice (some ⟨b,0,none⟩) n n
def TQ{b n:Nat}(h:n<qw):MQ b n = .slice (some ⟨b,0,none⟩) n n:=by
 unfold MQ;cases hb:Nat.beq n qw with
 |true=>have:=ck hb;omega
 |false=>rfl
def TR(b:Nat):MQ b qw = .map (some b):=rfl
def RF(w:World)(B:Nat)(ah:bG)(cs:aa V)(u:Value):Prop:=
 ∃b off,u = .pointer (some ⟨b,off,none⟩)/\b<w.heap.size/\ah b=none/\∀(j:Nat) x,cs[j]?=some x->x.aF=true/\∃v,w.cell? ⟨b,off+j,none⟩=some v/\RV w B ah [] x v
def RA(w:World)(B:Nat)(ah:bG)(ρ:Nat->Loc):A->Value->Prop
 |.undef,_=>True
 |.skip,u=>u=Go.undef
 |.lf x,u=>dy w B ah ρ x u
 |.agg cs,u=>RP w B ah ρ (true,cs) u
 |.cQ xs,u=>∃us:Array Value,u = .tuple us/\us.size=xs.length/\∀(j:Nat) p,xs[j]?=some p->∃v,us[j]?=some v/\RP w B ah ρ p v
 |.ptr k,u=>∃ad,u = .pointer (some ad)/\addrAt w ah ρ k=some ad
 |.aG r j,u=>∃b off,ρ r = .aB b off/\u = .pointer (some ⟨b,off+j,none⟩)
 |.hJ cs,u=>RF w B ah cs u
 |.kO f cs,u=>∃pv,u = .func (.func f) #[] #[pv]/\RF w B ah cs pv
 |.pk r n,u=>∃b,ρ r = .aB b 0/\u=MQ b n
 |.view k s i j,u=>∃A n c,cH w ah ρ k=some (.slice A n c)/\i<=j/\j<=n/\u=sliced A i j c s
 |.fn f cap,u=>∃C:Array Value,u = .func (.func f) #[] C/\C.size=cap.length/\∀(j:Nat) p,cap[j]?=some p->∃b off,ρ p.1 = .aB b off/\C[j]?=some (.pointer (some ⟨b,off+p.2,none⟩))
inductive eM (w:World) (B:Nat) (ah:bG) (ρ:Nat->Loc) (r:Nat):aZ->Prop
 | aB (b off:Nat) (cells:Array Value) (e:TypeId) (cs:List Lf) (us:Nat->Value) (dz:ρ r = .aB b off) (hl:ah b=some [r]) (hh:w.heap[b]?=some (.cells cells e (0,0))) (hs:off+cs.length<=cells.size)
   (hc:∀(j:Nat) x,cs[j]?=some x->cells[off+j]?=some (us j)/\dy w B ah ρ x (us j)):eM w B ah ρ r (.aB cs)
 |sl (v:Value) (y:V) (dz:ρ r = .dI v) (hr:RV w B ah [r] y v):eM w B ah ρ r (.sl y)
 |mp (b clock:Nat) (es:Array MapEntry) (l:List (Int×Bool)) (dz:ρ r = .aB b 0) (hl:ah b=some [r]) (hh:w.heap[b]?=some (.map es clock)) (he:es.toList.map (λe=>(e.key,e.val))=l.map λp=>(.int .i64 p.1,.bool p.2)):eM w B ah ρ r (.mp l)
 |gh (us:List Value) (xs:List A) (dz:ρ r = .bX us) (hx:∀(j:Nat) x,xs[j]?=some x->RA w B ah ρ x (us.getD j undef)):eM w B ah ρ r (.gh xs)
def Qw(_:World):Prop:=True
structure alZ (n:Nat) (L:bG) (w w':World):Prop where
 os:w'.os=w.os
 tape:w'.tape=w.tape
 output:w'.output=w.output
 size:w.heap.size<=w'.heap.size
 block:∀k,k<n->L k=none->w'.heap[k]?=w.heap[k]?
def Hd(w:World)(L:bG):Prop:=∀w',alZ w.heap.size L w w'->Qw w'
def al0(w:World)(L:bG):Hd w L:=λ_ _=>trivial
structure Wd where
 w:World
 L:bG
 F:Nat->Option Loc
 held:Hd w L
 low:∀r,r<20000->F r=none
def Wd.heap(d:Wd):Array Obj:=d.w.heap
def Wd.of(w:World)(h:Hd w λ_=>none):Wd:=⟨w,λ_=>none,λ_=>none,h,λ_ _=>rfl⟩
structure jl (d:Wd) (w w':World):Prop where
 os:w'.os=w.os
 tape:w'.tape=w.tape
 output:w'.output=w.output
 size:w.heap.size<=w'.heap.size
 block:∀k,k<d.heap.size->d.L k=none->w'.heap[k]?=w.heap[k]?
def jl.trans{d:Wd}{a b c:World}(h:jl d a b)(k:jl d b c):jl d a c:=
 ⟨k.os.trans h.os,k.tape.trans h.tape,k.output.trans h.output,Nat.le_trans h.size k.size,λi hi hl=>(k.block i hi hl).trans (h.block i hi hl)⟩
def Wd.on(d:Wd){w:World}(h:jl d d.w w){L:bG}(D:∀ b k,L b=some k->d.heap.size<=b\/d.L b≠none):Hd w L:=λw' hb=>
 d.held w' ⟨hb.os.trans h.os,hb.tape.trans h.tape,hb.output.trans h.output,Nat.le_trans h.size hb.size,λk C hl=>by
  have e:L k=none:=by
   cases e:L k with
   |none=>rfl
   | some q=>
    rcases D k q e with h1|h1
    ·exact absurd C (Nat.not_lt.2 h1)
    ·exact absurd hl h1
  exact(hb.block k (kI C h.size) e).trans (h.block k C hl)⟩
def jl.of{d:Wd}{a b:World}{B:Nat}(h:Below B a b)(hB:d.heap.size<=B):jl d a b:=
 ⟨h.os,h.tape,h.output,h.size,λi hi _=>h.block i (kI hi hB)⟩
structure Rl (w0:Wd) (N:Nat) (ah:bG) (ρ:Nat->Loc) (σ:S) (a:Act) (w:World):Prop where
 below:jl w0 w0.w w
 cX:∀b k,ah b=some k->(w0.heap.size<=b\/w0.L b≠none)/\b<w.heap.size/\k≠[]
 root:∀r x,σ.m r=some x->eM w w0.heap.size ah ρ r x
 tmp:∀k,RA w w0.heap.size ah ρ (σ.t k) (a.tmps.getD k undef)
 size:a.tmps.size=N
 defers:a.defers=[]
 fix:∀r l,w0.F r=some l->ρ r=l
 di:∀r,(r<N\/60000<=r)->w0.F r=none
def R(w0:Wd)(N:Nat)(σ:S)(a:Act)(w:World):Prop:=∃ah ρ,Rl w0 N ah ρ σ a w
/-! Reading along a key. -/
inductive uU (m:Nat->Option aZ):List Nat->V->Prop
 |root (r:Nat) (y:V) (h:m r=some (.sl y)):uU m [r] y
 |elem (j i:Nat) (q:List Nat) (t:TC) (o:Nat) (qn:Bool) (l:List (T t)) (y:V) (h:uU m q (.sl t (o+2) qn l)) (hi:i<l.length) (hy:(enc t o l[i])[j]?=some y):uU m (j::i::aD t::q) y
section
variable {w w':World} {w0:Wd} {B N:Nat} {ah aE:bG} {ρ ρ':Nat->Loc} {m:Nat->aj aZ} {σ:S} {a:Act}
def A4{q:aa Nat}(j i s:Nat){b n c:Nat}(h:cH w ah ρ q=some (.slice (some ⟨b,0,none⟩) n c))(hl:ah b=some q):addrAt w ah ρ (j :: i :: s :: q)=some ⟨b,i*s+j,none⟩:=by
 match q,h,hl with
 | [r],h,hl=>
  simp only[cH]at h;simp only[addrAt];cases C:ρ r with
  |aB b off=>rw[C]at h;cases h
  |dI v=>rw[C]at h;injection h with h;subst h;simp[hl]
  |bX us=>rw[C]at h;cases h
 |[],h,hl=>simp[cH,addrAt]at h
 | x :: y :: q,h,hl=>
  simp only[cH]at h;simp only[addrAt,h,hl,if_true]
def MR{j i s:Nat}{q:aa Nat}:cH w ah ρ (j::i::s::q)=(addrAt w ah ρ (j::i::s::q)).bind w.cell?:=rfl
def uU.ok{k:aa Nat}{y:V}(h:uU m k y)(D:∀ r x,m r=some x->eM w B ah ρ r x):∃ u,cH w ah ρ k=some u/\RV w B ah k y u:=by
 induction h with
 | root r y h=>
  cases D _ _ h with
  |sl v y I C=>exact⟨v,by simp[cH,I],C⟩
 | elem j i q t o T l y h hi E J=>
  obtain⟨u,L,C⟩:=J;cases C with
  |cS=>simp at hi
  |cW=>simp at hi
  |de=>simp at hi
  |aF _ _ _ _ _ _ _ _ _ U=>omega
  | own _ _ _ _ _ b cap cs us hl O Y Z D Q C=>
   refine⟨us i j,?_,C i hi j y E⟩;rw[MR,A4 j i (aD t) L hl];show w.cell? _=_;rw[cell_of_row w b _ cs _ _ O];exact Q i hi j y E
def wA:∀ (k:aa Nat) (ad:Addr),addrAt w ah ρ k=some ad->∃ j i s q,k=j :: i :: s :: q/\ah ad.block=some q/\ad.off=i*s+j/\ad.spot=none/\(∀ r,q=[r]->∃ v,ρ r = .dI v)
 |[],_,h=>by simp[addrAt]at h
 |[_],_,h=>by simp[addrAt]at h
 |[_,_],_,h=>by simp[addrAt]at h
 |[_,_,_],_,h=>by simp[addrAt]at h
 | [j,i,s,r],ad,h=>by
  simp only[addrAt]at h;split at h
  ·rename_i v b n c C;split at h
   next hl=>injection h with h;subst h;exact⟨j,i,s,[r],rfl,hl,rfl,rfl,λD e=>by injection e with e;subst e;exact⟨_,C⟩⟩
   ·cases h
  ·cases h
 | j :: i :: s :: x :: y :: q,ad,h=>by
  simp only[addrAt]at h;split at h
  ·split at h
   next hl=>injection h with h;subst h;exact⟨j,i,s,x::y::q,rfl,hl,rfl,rfl,λD e=>by injection e with _ e;cases e⟩
   ·cases h
  ·cases h
def TS(C:∀ b,b<w.heap.size->w'.heap[b]?=w.heap[b]?/\aE b=ah b)(E:∀ b k,ah b=some k->b<w.heap.size):∀ (k:aa Nat) (ad:Addr),addrAt w ah ρ k=some ad->addrAt w' aE ρ k=some ad
 |[],_,h=>h
 |[_],_,h=>h
 |[_,_],_,h=>h
 |[_,_,_],_,h=>by simp only[addrAt]at h ⊢;exact h
 | [j,i,s,r],_,h=>by
  simp only[addrAt]at h ⊢;split at h
  ·rename_i v b n c L;split at h
   next hl=>rw[br ((C _ (E _ _ hl)).2.trans hl)];exact h
   ·cases h
  ·cases h
 | j :: i :: s :: x :: y :: q,ad,h=>by
  simp only[addrAt]at h ⊢;cases I:addrAt w ah ρ (x::y::q)with
  |none=>rw[I]at h;cases h
  | some J=>
   rw[TS C E _ _ I];rw[I]at h;cases D:w.cell? J with
   |none=>simp[D]at h
   | some v=>
    have e:w'.cell? J=some v:=(kJ (C _ (block_lt_of_cell D)).1).trans D;simp only[Option.bind_some,D]at h;simp only[Option.bind_some,e];split at h
    ·split at h
     next hl=>rw[br ((C _ (E _ _ hl)).2.trans hl)];exact h
     ·cases h
    ·cases h
def aao(D:∀ b,b<w.heap.size->w'.heap[b]?=w.heap[b]?/\aE b=ah b)(E:∀ b k,ah b=some k->b<w.heap.size)(k:aa Nat)(u:Value)(h:cH w ah ρ k=some u):cH w' aE ρ k=some u:=by
 match k,h with
 |[],h=>simp[cH,addrAt]at h
 |[r],h=>exact h
 | x :: y :: q,h=>
  simp only[cH]at h ⊢;cases C:addrAt w ah ρ (x::y::q)with
  |none=>rw[C]at h;cases h
  | some ad=>
   rw[TS D E _ _ C];rw[C]at h;have h:w.cell? ad=some u:=h;exact(kJ (D _ (block_lt_of_cell h)).1).trans h
def dy.gk{x:Lf}{u:Value}(h:dy w B ah ρ x u)(D:w.heap.size<=w'.heap.size)(C:∀ b,b<w.heap.size->w'.heap[b]?=w.heap[b]?/\aE b=ah b)(E:∀ b k,ah b=some k->b<w.heap.size):dy w' B aE ρ x u:=by
 cases x with
 |v x=>exact⟨h.1,h.2.gk D C⟩
 |own k=>exact⟨h.1,aao C E _ _ h.2⟩
 |dead=>trivial
def dU.gk{cs:aa Lf}{us:Array Value}(h:dU w B ah ρ cs us)(C:w.heap.size<=w'.heap.size)(D:∀ b,b<w.heap.size->w'.heap[b]?=w.heap[b]?/\aE b=ah b)(E:∀ b k,ah b=some k->b<w.heap.size):dU w' B aE ρ cs us:=
 ⟨h.1,λj x I=>let ⟨u,hu,r⟩:=h.2 j x I;⟨u,hu,r.gk C D E⟩⟩
def RP.gk{p:Bool×aa Lf}{u:Value}(h:RP w B ah ρ p u)(C:w.heap.size<=w'.heap.size)(D:∀ b,b<w.heap.size->w'.heap[b]?=w.heap[b]?/\aE b=ah b)(E:∀ b k,ah b=some k->b<w.heap.size):RP w' B aE ρ p u:=by
 obtain⟨b,cs⟩:=p;cases b with
 |true=>obtain⟨us,e,h⟩:=h;exact⟨us,e,h.gk C D E⟩
 |false=>exact dU.gk h C D E
def RF.gk{cs:aa V}{u:Value}(h:RF w B ah cs u)(D:w.heap.size<=w'.heap.size)(C:∀ b,b<w.heap.size->w'.heap[b]?=w.heap[b]?/\aE b=ah b):RF w' B aE cs u:=by
 obtain⟨b,off,e,hb,hl,h⟩:=h
 refine⟨b,off,e,kI hb D,((C b hb).2).trans hl,λj x E=>?_⟩
 obtain⟨I,v,J,L⟩:=h j x E;exact⟨I,v,(kJ (a:=⟨b,_,none⟩) (C b hb).1).trans J,L.gk D C⟩
def RA.gk{x:A}{u:Value}(h:RA w B ah ρ x u)(D:w.heap.size<=w'.heap.size)(C:∀ b,b<w.heap.size->w'.heap[b]?=w.heap[b]?/\aE b=ah b)(E:∀ b k,ah b=some k->b<w.heap.size):RA w' B aE ρ x u:=by
 cases x with
 |undef=>trivial
 |skip=>exact h
 |lf x=>exact dy.gk h D C E
 |agg cs=>exact RP.gk (p:=(true,cs)) h D C E
 |cQ xs=>obtain⟨us,e,I,h⟩:=h;exact⟨us,e,I,λj p J=>let ⟨v,L,r⟩:=h j p J;⟨v,L,r.gk D C E⟩⟩
 |ptr k=>obtain⟨ad,e,h⟩:=h;exact⟨ad,e,TS C E _ _ h⟩
 |view k s i j=>obtain⟨A,n,c,h,g⟩:=h;exact⟨A,n,c,aao C E _ _ h,g⟩
 |pk r n=>exact h
 |aG r j=>exact h
 |hJ cs=>exact RF.gk h D C
 |kO f cs=>obtain⟨pv,e,h⟩:=h;exact⟨pv,e,h.gk D C⟩
 |fn f cap=>exact h
def eM.gk{r:Nat}{x:aZ}(h:eM w B ah ρ r x)(J:w.heap.size<=w'.heap.size)(C:∀ b,b<w.heap.size->w'.heap[b]?=w.heap[b]?/\aE b=ah b)(L:∀ b k,ah b=some k->b<w.heap.size):eM w' B aE ρ r x:=by
 cases h with
 | aB b off cells e cs us D hl E Q O=>
  have hb:b<w.heap.size:=(gd.1 E).1;exact .aB b off cells e cs us D ((C b hb).2.trans hl) ((C b hb).1.trans E) Q (λj x I=>⟨(O j x I).1,(O j x I).2.gk J C L⟩)
 |sl v y D T=>exact .sl v y D (T.gk J C)
 | mp b c U l D hl E Y=>
  have hb:b<w.heap.size:=(gd.1 E).1;exact .mp b c U l D ((C b hb).2.trans hl) ((C b hb).1.trans E) Y
 |gh us xs D I=>exact .gh us xs D λj x Z=>(I j x Z).gk J C L
/-! A root's name is given anew: what named it before is forgotten. -/
def bL(d:Nat)(k:aa Nat):Bool:=k.getLast?==some d
def Lf.drop(d:Nat):Lf->Lf
 |.own k=>bif bL d k then .dead else .own k
 |x=>x
def A.drop(d:Nat):A->A
 |.lf x=>.lf (x.drop d)
 |.agg cs=>.agg (cs.map (Lf.drop d))
 |.cQ xs=>.cQ (xs.map λp=>(p.1,p.2.map (Lf.drop d)))
 |.ptr k=>bif bL d k then .undef else .ptr k
 |.aG r j=>bif Nat.beq r d then .undef else .aG r j
 |.pk r n=>bif Nat.beq r d then .undef else .pk r n
 |.view k s i j=>bif bL d k then .undef else .view k s i j
 |.fn f cap=>bif cap.any (λp=>Nat.beq p.1 d)then .undef else .fn f cap
 |x=>x
def aZ.drop(d:Nat):aZ->aZ
 |.aB cs=>.aB (cs.map (Lf.drop d))
 |.gh xs=>.gh (xs.map (A.drop d))
 |x=>x
def TT{d:Nat}(C:∀ r,r≠d->ρ' r=ρ r):∀ (k:aa Nat),bL d k=false->addrAt w ah ρ' k=addrAt w ah ρ k
 |[],_=>rfl
 |[_],_=>rfl
 |[_,_],_=>rfl
 |[_,_,_],_=>rfl
 | [j,i,s,r],h=>by
  have D:r≠d:=by rintro rfl;simp[bL]at h
  simp only[addrAt,C r D]
 | j :: i :: s :: x :: y :: q,h=>by
  have E:bL d (x::y::q)=false:=by simpa [bL]using h
  simp only[addrAt,TT C (x::y::q) E]
def aap{d:Nat}(C:∀ r,r≠d->ρ' r=ρ r)(k:aa Nat)(h:bL d k=false):cH w ah ρ' k=cH w ah ρ k:=by
 match k,h with
 |[],_=>rfl
 | [r],h=>
  have D:r≠d:=by rintro rfl;simp[bL]at h
  simp only[cH,C r D]
 |x::y::q,h=>simp only[cH,TT C _ h]
def dy.eG{d:Nat}(C:∀ r,r≠d->ρ' r=ρ r){x:Lf}{u:Value}(h:dy w B ah ρ x u):dy w B ah ρ' (x.drop d) u:=by
 cases x with
 |v x=>exact h
 |dead=>trivial
 | own k=>
  have e:Lf.drop d (.own k)=(bif bL d k then .dead else .own k):=rfl;rw[e];cases hl:bL d k with
  |true=>trivial
  |false=>exact⟨h.1,(aap C k hl).trans h.2⟩
def dU.eG{d:Nat}(E:∀ r,r≠d->ρ' r=ρ r){cs:aa Lf}{us:Array Value}(h:dU w B ah ρ cs us):dU w B ah ρ' (cs.map (Lf.drop d)) us:=by
 refine⟨by rw[dh];exact h.1,λj x C=>?_⟩
 rw[dw]at C;cases D:cs[j]? with
 |none=>rw[D]at C;cases C
 | some y=>
  rw[D]at C;injection C with C;subst C;obtain⟨u,I,r⟩:=h.2 j y D;exact⟨u,I,r.eG E⟩
def RP.eG{d:Nat}(C:∀ r,r≠d->ρ' r=ρ r){p:Bool×aa Lf}{u:Value}(h:RP w B ah ρ p u):RP w B ah ρ' (p.1,p.2.map (Lf.drop d)) u:=by
 obtain⟨b,cs⟩:=p;cases b with
 |true=>obtain⟨us,e,h⟩:=h;exact⟨us,e,h.eG C⟩
 |false=>exact dU.eG C h
def RA.eG{d:Nat}(D:∀ r,r≠d->ρ' r=ρ r){x:A}{u:Value}(h:RA w B ah ρ x u):RA w B ah ρ' (x.drop d) u:=by
 cases x with
 |undef=>trivial
 |skip=>exact h
 |lf x=>exact dy.eG D h
 |agg cs=>exact RP.eG (p:=(true,cs)) D h
 | cQ xs=>
  obtain⟨us,e,I,h⟩:=h
  refine⟨us,e,by rw[dh];exact I,λj p C=>?_⟩
  rw[dw]at C;cases J:xs[j]? with
  |none=>rw[J]at C;cases C
  | some y=>
   rw[J]at C;injection C with C;subst C;obtain⟨v,L,r⟩:=h j y J;exact⟨v,L,r.eG D⟩
 | ptr k=>
  have e:A.drop d (.ptr k)=(bif bL d k then .undef else .ptr k):=rfl;rw[e];cases hl:bL d k with
  |true=>trivial
  |false=>obtain⟨ad,e,h⟩:=h;exact⟨ad,e,(TT D k hl).trans h⟩
 | view k s i j=>
  have e:A.drop d (.view k s i j)=(bif bL d k then .undef else .view k s i j):=rfl;rw[e];cases hl:bL d k with
  |true=>trivial
  |false=>obtain⟨A,n,c,h,g⟩:=h;exact⟨A,n,c,(aap D k hl).trans h,g⟩
 | pk r n=>
  have e:A.drop d (.pk r n)=(bif Nat.beq r d then .undef else .pk r n):=rfl;rw[e];cases hl:Nat.beq r d with
  |true=>trivial
  | false=>
   have E:r≠d:=by rintro rfl;simp at hl
   obtain⟨b,e,h⟩:=h;exact⟨b,(D r E).trans e,h⟩
 | aG r j=>
  have e:A.drop d (.aG r j)=(bif Nat.beq r d then .undef else .aG r j):=rfl;rw[e];cases hl:Nat.beq r d with
  |true=>trivial
  | false=>
   have E:r≠d:=by rintro rfl;simp at hl
   obtain⟨b,off,e,h⟩:=h;exact⟨b,off,(D r E).trans e,h⟩
 |hJ cs=>exact h
 |kO f cs=>exact h
 | fn f cap=>
  have e:A.drop d (.fn f cap)=(bif cap.any (λp=>Nat.beq p.1 d)then .undef else .fn f cap):=rfl;rw[e];cases hl:cap.any (λp=>Nat.beq p.1 d)with
  |true=>trivial
  | false=>
   obtain⟨O,e,I,h⟩:=h
   refine⟨O,e,I,λj p C=>?_⟩
   obtain⟨b,off,Q,T⟩:=h j p C;have E:p.1≠d:=by
    rintro rfl;have:=kK.1 hl p (ga C);simp at this
   exact⟨b,off,(D _ E).trans Q,T⟩
def eM.eG{d r:Nat}(J:∀ r,r≠d->ρ' r=ρ r)(L:r≠d){x:aZ}(h:eM w B ah ρ r x):eM w B ah ρ' r (x.drop d):=by
 cases h with
 | aB b off cells e cs us E hl O T Q=>
  refine .aB b off cells e _ us ((J r L).trans E) hl O (by rw[dh];exact T) (λj x C=>?_)
  rw[dw]at C;cases D:cs[j]? with
  |none=>rw[D]at C;cases C
  | some y=>
   rw[D]at C;injection C with C;subst C;exact⟨(Q j y D).1,(Q j y D).2.eG J⟩
 |sl v y E U=>exact .sl v y ((J r L).trans E) U
 |mp b c Y l E hl O Z=>exact .mp b c Y l ((J r L).trans E) hl O Z
 | gh us xs E C=>
  refine .gh us _ ((J r L).trans E) (λj x I=>?_)
  rw[dw]at I;cases D:xs[j]? with
  |none=>rw[D]at I;cases I
  | some y=>
   rw[D]at I;injection I with I;subst I;exact(C j y D).eG J
def bV{α:Type}(f:Nat->α)(d:Nat)(x:α):Nat->α:=λk=>bif Nat.beq k d then x else f k
def cg{α:Type}(f:Nat->α)(d:Nat)(x:α):bV f d x d=x:=by simp[bV]
def cF{α:Type}(f:Nat->α)(d:Nat)(x:α){k:Nat}(h:k≠d):bV f d x k=f k:=by
 have:Nat.beq k d=false:=by
  cases hb:Nat.beq k d with
  |false=>rfl
  |true=>exact absurd (ck hb) h
 simp only[bV,this,aq]
def S.set(σ:S)(d:Nat)(x:A):S:={ σ with t:=bV σ.t d x }
def S.drop(σ:S)(d:Nat):S:=⟨λk=>(σ.t k).drop d,λr=>bif Nat.beq r d then none else (σ.m r).map (aZ.drop d)⟩
def S.root(σ:S)(d:Nat)(x:aZ):S:={ σ with m:=bV σ.m d (some x) }
def Rl.set{x:A}{v:Value}{d:Nat}(h:Rl w0 N ah ρ σ a w)(D:RA w w0.heap.size ah ρ x v)(E:d<N):Rl w0 N ah ρ (σ.set d x) (a.put (some d) v) w:=by
 refine⟨h.below,h.cX,h.root,λk=>?_,?_,h.defers,h.fix,h.di⟩
 ·show RA w w0.heap.size ah ρ (bV σ.t d x k) ((a.tmps.setIfInBounds d v).getD k undef);by_cases C:k=d
  ·subst C;rw[cg,iu,Array.getElem?_setIfInBounds_self];have:k<a.tmps.size:=by rw[h.size];exact E
   simp only[this,if_true,Option.getD_some];exact D
  ·rw[cF _ _ _ C,iu,Array.getElem?_setIfInBounds_ne (Ne.symm C),<-iu];exact h.tmp k
 ·show (a.tmps.setIfInBounds d v).size=N;rw[Array.size_setIfInBounds];exact h.size
def Rl.grow(h:Rl w0 N ah ρ σ a w)(hb:Below w.heap.size w w')(hl:∀ b,b<w.heap.size->aE b=ah b)(I:∀ b k,w.heap.size<=b->aE b=some k->b<w'.heap.size/\k≠[]):Rl w0 N aE ρ σ a w':=by
 have D:∀b,b<w.heap.size->w'.heap[b]?=w.heap[b]?/\aE b=ah b:=λb E=>⟨hb.block b E,hl b E⟩
 refine⟨h.below.trans (.of hb h.below.size),λb k C=>?_,λr x J=>(h.root r x J).gk hb.size D (λb k hb=>(h.cX b k hb).2.1),λk=>(h.tmp k).gk hb.size D (λb k hb=>(h.cX b k hb).2.1),h.size,h.defers,h.fix,h.di⟩
 rcases Nat.lt_or_ge b w.heap.size with L|nK
 ·rw[hl b L]at C;have:=h.cX b k C;exact⟨this.1,kI this.2.1 hb.size,this.2.2⟩
 ·have:=I b k nK C;exact⟨.inl (Nat.le_trans h.below.size nK),this.1,this.2⟩
def Rl.new{d:Nat}{x:aZ}(h:Rl w0 N ah ρ σ a w)(l:Loc)(I:eM w w0.heap.size ah (bV ρ d l) d x)(J:w0.F d=none):Rl w0 N ah (bV ρ d l) ((σ.drop d).root d x) a w:=by
 have E:∀r,r≠d->bV ρ d l r=ρ r:=λr D=>cF _ _ _ D
 refine⟨h.below,h.cX,λr y C=>?_,λk=>(h.tmp k).eG E,h.size,h.defers,λr L D=>(E r (by rintro rfl;rw[J]at D;cases D)).trans (h.fix r L D),h.di⟩
 by_cases D:r=d
 ·subst D;have e:(bV (σ.drop r).m r (some x)) r=some x:=cg _ _ _;have C:(bV (σ.drop r).m r (some x)) r=some y:=C;rw[e]at C;injection C with C;subst C;exact I
 ·have C:(bV (σ.drop d).m d (some x)) r=some y:=C;rw[cF _ _ _ D]at C;have hb:Nat.beq r d=false:=by
   cases hb:Nat.beq r d with
   |false=>rfl
   |true=>exact absurd (ck hb) D
  simp only[S.drop,hb,aq]at C;cases hm:σ.m r with
  |none=>rw[hm]at C;cases C
  | some z=>
   rw[hm]at C;injection C with C;subst C;exact(h.root r z hm).eG E D
end
def splice{α:Type}(l:aa α)(j:Nat)(xs:aa α):aa α:=l.take j++xs++l.drop (j+xs.length)
def sB{α:Type}(l:aa α)(j:Nat)(xs:aa α)(h:j+xs.length<=l.length):(splice l j xs).length=l.length:=by
 simp[splice];omega
def wB{α:Type}(l:aa α)(j:Nat)(xs:aa α)(h:j+xs.length<=l.length)(n:Nat):
  (splice l j xs)[n]?=if n<j then l[n]? else if n<j+xs.length then xs[n-j]? else l[n]?:=by
 unfold splice;have C:(l.take j).length=j:=by simp;omega
 split
 next D=>rw[List.append_assoc,List.getElem?_append_left (by rw[C];exact D),List.getElem?_take,br D]
 ·split
  next E I=>rw[List.append_assoc,List.getElem?_append_right (by rw[C];omega),C,List.getElem?_append_left (by omega)]
  next E I=>rw[List.getElem?_append_right (by simp;omega),List.getElem?_drop];congr 1;simp;omega
structure uV (w w':World) (bt:Nat):Prop where
 size:w'.heap.size=w.heap.size
 os:w'.os=w.os
 tape:w'.tape=w.tape
 output:w'.output=w.output
 block:∀k,k≠bt->w'.heap[k]?=w.heap[k]?
def MS(w:World)(b o:Nat)(l:aa Value):uV w (w.setCells b o l) b:=by
 have g:=aah b l o w;have s:=aag b l o w
 refine⟨s,g.os,g.tape,g.output,λk C=>?_⟩
 rcases Nat.lt_or_ge k w.heap.size with D|nK
 ·exact g.block k D (by intro e;injection e with e;exact C e)
 ·rw[Array.getElem?_eq_none nK,Array.getElem?_eq_none (by rw[s];exact nK)]
section
variable {w w':World} {w0:Wd} {B N:Nat} {ah:bG} {ρ:Nat->Loc} {m m':Nat->aj aZ} {σ:S} {a:Act} {bt:Nat} {kt:aa Nat}
def ru(w w':World)(ah:bG)(ρ:Nat->Loc):Prop:=∀k ad v,addrAt w ah ρ k=some ad->w.cell? ad=some v->mQ v=true->w'.cell? ad=some v
def TU(E:ru w w' ah ρ):∀ (k:aa Nat) (ad:Addr),addrAt w ah ρ k=some ad->addrAt w' ah ρ k=some ad
 |[],_,h=>h
 |[_],_,h=>h
 |[_,_],_,h=>h
 |[_,_,_],_,h=>by simp only[addrAt]at h ⊢;exact h
 |[j,i,s,r],_,h=>by simp only[addrAt]at h ⊢;exact h
 | j :: i :: s :: x :: y :: q,ad,h=>by
  simp only[addrAt]at h ⊢;cases C:addrAt w ah ρ (x::y::q)with
  |none=>rw[C]at h;cases h
  | some I=>
   rw[TU E _ _ C];rw[C]at h;cases D:w.cell? I with
   |none=>simp[D]at h
   | some v=>
    simp only[Option.bind_some,D]at h;have J:mQ v=true:=by
     split at h
     next e=>injection e with e;subst e;rfl
     ·cases h
    simp only[Option.bind_some,E _ _ _ C D J];exact h
def aaq(D:ru w w' ah ρ)(k:aa Nat)(u:Value)(E:mQ u=true)(h:cH w ah ρ k=some u):cH w' ah ρ k=some u:=by
 match k,h with
 |[],h=>simp[cH,addrAt]at h
 |[r],h=>exact h
 | x :: y :: q,h=>
  simp only[cH]at h ⊢;cases C:addrAt w ah ρ (x::y::q)with
  |none=>rw[C]at h;cases h
  | some ad=>
   rw[TU D _ _ C];rw[C]at h;have h:w.cell? ad=some u:=h;exact D _ _ _ C h E
def dy.wrote{x:Lf}{u:Value}(h:dy w B ah ρ x u)(C:uV w w' bt)(hl:ah bt=some kt)(D:ru w w' ah ρ):dy w' B ah ρ x u:=by
 cases x with
 |v x=>exact⟨h.1,h.2.apart hl (.inr h.1) (Nat.le_of_eq C.size.symm) C.block⟩
 |own k=>exact⟨h.1,aaq D k u h.1 h.2⟩
 |dead=>trivial
def dU.wrote{cs:aa Lf}{us:Array Value}(h:dU w B ah ρ cs us)(C:uV w w' bt)(hl:ah bt=some kt)(D:ru w w' ah ρ):dU w' B ah ρ cs us:=
 ⟨h.1,λj x E=>let ⟨u,hu,r⟩:=h.2 j x E;⟨u,hu,r.wrote C hl D⟩⟩
def RP.wrote{p:Bool×aa Lf}{u:Value}(h:RP w B ah ρ p u)(C:uV w w' bt)(hl:ah bt=some kt)(D:ru w w' ah ρ):RP w' B ah ρ p u:=by
 obtain⟨b,cs⟩:=p;cases b with
 |true=>obtain⟨us,e,h⟩:=h;exact⟨us,e,h.wrote C hl D⟩
 |false=>exact dU.wrote h C hl D
def RF.wrote{cs:aa V}{u:Value}(h:RF w B ah cs u)(C:uV w w' bt)(hl:ah bt=some kt):RF w' B ah cs u:=by
 obtain⟨b,off,e,hb,D,h⟩:=h;have I:b≠bt:=by rintro rfl;rw[hl]at D;cases D
 refine⟨b,off,e,by rw[C.size];exact hb,D,λj x J=>?_⟩
 obtain⟨E,v,L,O⟩:=h j x J;exact⟨E,v,(kJ (a:=⟨b,_,none⟩) (C.block b I)).trans L,O.apart hl (.inr E) (Nat.le_of_eq C.size.symm) C.block⟩
def RA.wrote{x:A}{u:Value}(h:RA w B ah ρ x u)(C:uV w w' bt)(hl:ah bt=some kt)(D:ru w w' ah ρ):RA w' B ah ρ x u:=by
 cases x with
 |undef=>trivial
 |skip=>exact h
 |lf x=>exact dy.wrote h C hl D
 |agg cs=>exact RP.wrote (p:=(true,cs)) h C hl D
 |cQ xs=>obtain⟨us,e,E,h⟩:=h;exact⟨us,e,E,λj p I=>let ⟨v,J,r⟩:=h j p I;⟨v,J,r.wrote C hl D⟩⟩
 |ptr k=>obtain⟨ad,e,h⟩:=h;exact⟨ad,e,TU D _ _ h⟩
 |view k s i j=>obtain⟨A,n,c,h,g⟩:=h;exact⟨A,n,c,aaq D k _ rfl h,g⟩
 |pk r n=>exact h
 |aG r j=>exact h
 |hJ cs=>exact RF.wrote h C hl
 |kO f cs=>obtain⟨pv,e,h⟩:=h;exact⟨pv,e,h.wrote C hl⟩
 |fn f cap=>exact h
def eM.wrote{r:Nat}{x:aZ}(h:eM w B ah ρ r x)(E:uV w w' bt)(hl:ah bt=some kt)(Q:ru w w' ah ρ)(J:¬ [r] <:+ kt):eM w' B ah ρ r x:=by
 cases h with
 | aB b off cells e cs us D C L U T=>
  have O:b≠bt:=by rintro rfl;rw[hl]at C;injection C with C;subst C;exact J (List.suffix_refl _)
  exact .aB b off cells e cs us D C ((E.block b O).trans L) U (λj x I=>⟨(T j x I).1,(T j x I).2.wrote E hl Q⟩)
 |sl v y D Y=>exact .sl v y D (Y.apart hl (.inl J) (Nat.le_of_eq E.size.symm) E.block)
 | mp b c Z l D C L he=>
  have O:b≠bt:=by rintro rfl;rw[hl]at C;injection C with C;subst C;exact J (List.suffix_refl _)
  exact .mp b c Z l D C ((E.block b O).trans L) he
 |gh us xs D I=>exact .gh us xs D λj x hj=>(I j x hj).wrote E hl Q
def Rl.wrote(h:Rl w0 N ah ρ σ a w)(C:uV w w' bt)(hl:ah bt=some kt)(I:ru w w' ah ρ)(J:∀ r x,m' r=some x->eM w' w0.heap.size ah ρ r x):Rl w0 N ah ρ ⟨σ.t,m'⟩ a w':=by
 have hb:=(h.cX bt kt hl).1;have O:∀ k,k<w0.heap.size->w0.L k=none->k≠bt:=by
  rintro k D E rfl;rcases hb with hb|hb
  ·exact absurd D (Nat.not_lt.2 hb)
  ·exact hb E
 refine⟨⟨C.os.trans h.below.os,C.tape.trans h.below.tape,C.output.trans h.below.output,by rw[C.size];exact h.below.size,λk D E=>(C.block k (O k D E)).trans (h.below.block k D E)⟩,λb k Q=>?_,J,λk=>(h.tmp k).wrote C hl I,h.size,h.defers,h.fix,h.di⟩
 rw[C.size];exact h.cX b k Q
def TV{r C:Nat}(h:C≠r):¬ [C] <:+ [r]:=by
 intro D;have:=D.eq_of_length rfl;injection this with this;exact h this
def Rl.GW{r j:Nat}{cs xs:aa Lf}{us:Array Value}(h:Rl w0 N ah ρ σ a w)(hm:σ.m r=some (.aB cs))(hx:dU w w0.heap.size ah ρ xs us)(hj:j+xs.length<=cs.length):
  ∃b off,ρ r = .aB b off/\w.there b (off+j) us.size/\Rl w0 N ah ρ ⟨σ.t,bV σ.m r (some (.aB (splice cs j xs)))⟩ a (w.setCells b (off+j) us.toList):=by
 have L:=h.root r _ hm;generalize D:aZ.aB cs=x at L;cases L with
 |sl=>cases D
 |mp=>cases D
 |gh=>cases D
 | aB b off cells e eZ u Y hl Z hs O=>
  injection D with D;subst D;have hlen:us.size=xs.length:=hx.1;have l7:off+j+us.toList.length<=cells.size:=by rw[lW,hlen];omega
  have E:=MS w b (off+j) us.toList;obtain⟨Q,gz,nL⟩:=Gi b e us.toList (off+j) w cells Z l7;have J:ru w (w.setCells b (off+j) us.toList) ah ρ:=by
   intro k ad v ha T fW;obtain⟨j',i',s',q,rfl,U,_,_,hh'⟩:=wA k ad ha;have eU:ad.block≠b:=by
    intro e;rw[e,hl]at U;injection U with U;obtain⟨v',rz⟩:=hh' r U.symm;rw[Y]at rz;cases rz
   exact(kJ (E.block _ eU)).trans T
  refine⟨b,off,Y,λn hn=>⟨?_,frozen_of_row w b _ cells e Z⟩,h.wrote E hl J λr' y I=>?_⟩
  ·rw[cell_of_row w b _ cells e _ Z];simp;omega
  ·by_cases rA:r'=r
   ·subst rA;rw[cg]at I;injection I with I;subst I
    refine .aB b off Q e _ (λn=>if n<j then u n else if n<j+xs.length then us.getD (n-j) undef else u n) Y hl gz ?_ λn x C=>?_
    ·rw[sB _ _ _ hj,<-lW,nL];have:=sB cells.toList (off+j) us.toList (by simpa using l7);simp only[splice]at this;rw[this]
     simpa using hs
    ·have e2:Q[off+n]?=(splice cells.toList (off+j) us.toList)[off+n]?:=by
      rw[show Q[off+n]?=Q.toList[off+n]? by simp,nL];rfl
     rw[e2,wB _ _ _ (by simpa using l7)];rw[wB _ _ _ hj]at C;by_cases h1:n<j
     ·rw[br];simp only[h1,if_true]at C ⊢;refine⟨?_,(O n x C).2.wrote E hl J⟩;rw[oc];exact(O n x C).1
     ·by_cases h2:n<j+xs.length
      ·rw[bE,br (by rw[lW,hlen];omega)];simp only[h1,h2,if_true,if_false]at C ⊢;obtain⟨v,T,L⟩:=hx.2 (n-j) x C;have hg:us.getD (n-j) undef=v:=by rw[iu,T];rfl
       rw[hg];refine⟨?_,L.wrote E hl J⟩;rw[show off+n-(off+j)=n-j by omega,oc];exact T
      ·rw[bE,bE (by rw[lW,hlen];omega)];simp only[h1,h2,if_false]at C ⊢;refine⟨?_,(O n x C).2.wrote E hl J⟩;rw[oc];exact(O n x C).1
   ·rw[cF _ _ _ rA]at I;exact(h.root r' y I).wrote E hl J (TV rA)
inductive yR (m:Nat->Option aZ):List Nat->V->(Nat->Option aZ)->Prop
 |root (r:Nat) (y0 y:V) (h:m r=some (.sl y0)):yR m [r] y (bV m r (some (.sl y)))
 | elem (j i:Nat) (q:List Nat) (t:TC) (o:Nat) (qn:Bool) (l:List (T t)) (y:V) (e:T t) (m':Nat->Option aZ) (h:uU m q (.sl t (o+2) qn l)) (hi:i<l.length) (hj:j<aD t)
   (hd:dec t o (splice (enc t o l[i]) j [y])=some e) (hp:yR m q (.sl t (o+2) qn (l.set i e)) m'):yR m (j::i::aD t::q) y m'
def TW{α:Type}{a b c:aa α}(D:a <:+ c)(hb:b <:+ c)(h:a.length=b.length):a=b:=by
 obtain⟨x,E⟩:=D;obtain⟨y,C⟩:=hb;rw[<-E]at C;exact((List.append_inj' C h.symm).2).symm
def RV.MT{q:aa Nat}{t:TC}{o:Nat}{O:Bool}{l:aa (T t)}{i j:Nat}{xs:aa V}{e:T t}{b cap:Nat}{cs eZ:Array Value}{u us:Nat->Nat->Value}
  (hl:ah b=some q) (hh:w'.heap[b]?=some (.cells eZ (tid t) (0,0))) (hs:eZ.size=cap*aD t) (hn:l.length<=cap) (hm:cap<=maxLen/\(O=true->cap=l.length)) (hi:i<l.length) (hj:j+xs.length<=aD t)
  (hd:dec t o (splice (enc t o l[i]) j xs)=some e)
  (Q:∀D (h:D<l.length) (C:Nat) x,(enc t o l[D])[C]?=some x->¬ (D=i/\j<=C/\C<j+xs.length)->eZ[D*aD t+C]?=some (u D C)/\RV w' B ah (C::D::aD t::q) x (u D C))
  (hx:∀(n:Nat) x,xs[n]?=some x->eZ[i*aD t+(j+n)]?=some (us i (j+n))/\RV w' B ah ((j+n)::i::aD t::q) x (us i (j+n))):
  RV w' B ah q (.sl t (o+2) O (l.set i e)) (.slice (some ⟨b,0,none⟩) l.length cap):=by
 have hlen:(l.set i e).length=l.length:=iw;have key:∀ D (h:D<(l.set i e).length) (C:Nat) x,(enc t o (l.set i e)[D])[C]?=some x->
   ∃v,eZ[D*aD t+C]?=some v/\RV w' B ah (C::D::aD t::q) x v:=by
  intro D h C x E;rw[List.getElem_set]at E;by_cases hii:i=D
  ·subst hii;rw[br rfl]at E;have hk:=l6 t o _ e hd;have sC:C<(enc t o e).length:=(dQ.1 E).1;rw[<-hk.1]at sC;have I:=bO sC;generalize (splice (enc t o l[i]) j xs)[C]=y at I;have U:=hk.2 C y x I E;rw[wB _ _ _ (by rw[jZ];exact hj)]at I;by_cases Y:C<j
   ·rw[br Y]at I;obtain⟨J,L⟩:=Q i hi C y I (by omega);exact⟨_,J,L.wk U⟩
   ·by_cases h2:C<j+xs.length
    ·rw[bE Y,br h2]at I;obtain⟨J,L⟩:=hx (C-j) y I;rw[show j+(C-j)=C by omega]at J L;exact⟨_,J,L.wk U⟩
    ·rw[bE Y,bE h2]at I;obtain⟨J,L⟩:=Q i hi C y I (by omega);exact⟨_,J,L.wk U⟩
  ·rw[bE hii]at E;obtain⟨J,L⟩:=Q D (by rw[<-hlen];exact h) C x E (by omega);exact⟨_,J,L⟩
 rw[<-hlen]
 refine .own q t o O (l.set i e) b cap eZ (λD C=>(eZ[D*aD t+C]?).getD undef) hl hh hs (by rw[hlen];exact hn) ⟨hm.1,λh=>by rw[hlen];exact hm.2 h⟩ (λD h C x E=>?_) (λD h C x E=>?_)
 ·obtain⟨v,Z,_⟩:=key D h C x E;rw[Z];rfl
 ·obtain⟨v,Z,hr⟩:=key D h C x E;rw[Z];exact hr
def aar{r:Nat}{q:aa Nat}(h:[r] <:+ q){C:Nat}(D:[C] <:+ q):C=r:=by
 have:=TW D h rfl;injection this
def yR.ok{q:aa Nat}{y:V}(h:yR m q y m')(Z:∀ r x,m r=some x->eM w B ah ρ r x)(L:uV w w' bt)(hl:ah bt=some kt)(O:q <:+ kt)(hC:ru w w' ah ρ){I:Value}(C:cH w ah ρ q=some I)(hy:RV w' B ah q y I):
  ∀r x,m' r=some x->eM w' B ah ρ r x:=by
 induction h generalizing I with
 | root r y0 y h=>
  intro T x D;by_cases J:T=r
  ·subst J;rw[cg]at D;injection D with D;subst D;simp only[cH]at C;cases Q:ρ T with
   |aB b off=>rw[Q]at C;cases C
   |bX us=>rw[Q]at C;cases C
   | dI v=>
    rw[Q]at C;injection C with C;subst C;exact .sl v y Q hy
  ·rw[cF _ _ _ J]at D;exact(Z T x D).wrote L hl hC (λU=>J (aar O U))
 | elem j i q t o qn l y e m' h hi hj hd hp ih=>
  obtain⟨rz,A5,hU⟩:=h.ok Z;have hqk:q <:+ kt:=List.IsSuffix.trans ⟨[j,i,aD t],rfl⟩ O;cases hU with
  |cS=>simp at hi
  |cW=>simp at hi
  |de=>simp at hi
  |aF _ _ _ _ _ _ _ _ _ ho=>omega
  | own _ _ _ _ _ b cap cs us E hh U hn sD hc J=>
   have eU:b≠bt:=by
    rintro rfl;rw[hl]at E;injection E with E;subst E;have:=O.length_le;simp at this;omega
   have hz:=Nat.le_of_eq L.size.symm
   refine ih hqk A5 (RV.MT (us:=λ_ _=>I) (u:=us) (cs:=cs) (xs:=[y]) E ((L.block b eU).trans hh) U hn sD hi (show j+1<=aD t from hj) hd (λi' h' j' x D GX=>⟨hc i' h' j' x D,(J i' h' j' x D).apart hl (.inl λnM=>GX ?_) hz L.block⟩) (λn x D=>?_))
   ·have:=TW nM O rfl;injection this with e1 Y;injection Y with Y _;subst e1 Y;exact⟨rfl,eB _,by simp⟩
   ·cases n with
    |succ n=>simp at D
    | zero=>
     simp at D;subst D;refine⟨?_,hy⟩;rw[MR,A4 j i (aD t) A5 E]at C;have C:w.cell? ⟨b,i*aD t+j,none⟩=some I:=C;rw[cell_of_row w b _ cs _ _ hh]at C;exact C
def RV.aas{q:aa Nat}{x:V}{v:Value}(h:RV w B ah q x v)(C:x.plain=true):mQ v=false:=by
 cases h<;>first|rfl|cases C
def RV.tL{q C:aa Nat}{x:V}{v:Value}{B':Nat}{aE:bG}(h:RV w B ah q x v)(D:x.plain=true):RV w' B' aE C x v:=by
 cases h<;>first|exact .int _ _ _|exact .bool _ _|exact .str _ _|cases D
def Rl.al1{j i:Nat}{q:aa Nat}{t:TC}{o:Nat}{qn:Bool}{l:aa (T t)}{xs:aa V}{us:Array Value}{e:T t}(h:Rl w0 N ah ρ σ a w)(hg:uU σ.m q (.sl t (o+2) qn l))(hi:i<l.length)(hj:j+xs.length<=aD t)
  (hd:dec t o (splice (enc t o l[i]) j xs)=some e) (hold:∀(n:Nat) x,n<xs.length->(enc t o l[i])[j+n]?=some x->x.plain=true) (hxp:∀x∈xs,x.plain=true) (mR:us.size=xs.length) (hx:∀(n:Nat) x,xs[n]?=some x->∃u,us[n]?=some u/\RV w w0.heap.size ah [] x u)
  (hp:yR σ.m q (.sl t (o+2) qn (l.set i e)) m'):
  ∃b,addrAt w ah ρ (j::i::aD t::q)=some ⟨b,i*aD t+j,none⟩/\w.there b (i*aD t+j) us.size/\Rl w0 N ah ρ ⟨σ.t,m'⟩ a (w.setCells b (i*aD t+j) us.toList):=by
 obtain⟨rz,A5,hU⟩:=hg.ok h.root;cases hU with
 |cS=>simp at hi
 |cW=>simp at hi
 |de=>simp at hi
 |aF _ _ _ _ _ _ _ _ _ ho=>omega
 | own _ _ _ _ _ b cap cs u L U hs hn sD Z hr=>
  have A6:i*aD t+aD t<=cap*aD t:=by
   have:(i+1)*aD t<=cap*aD t:=iN _ (by omega);rw[gH]at this;exact this
  have l7:i*aD t+j+us.toList.length<=cs.size:=by rw[lW,mR,hs];omega
  have O:=MS w b (i*aD t+j) us.toList;obtain⟨I,gz,nL⟩:=Gi b (tid t) us.toList (i*aD t+j) w cs U l7;have tM:∀ n,I[n]?=if n<i*aD t+j then cs[n]? else if n<i*aD t+j+xs.length then us[n-(i*aD t+j)]? else cs[n]?:=by
   intro n;have e2:I[n]?=(splice cs.toList (i*aD t+j) us.toList)[n]?:=by
    rw[show I[n]?=I.toList[n]? by simp,nL];rfl
   rw[e2,wB _ _ _ (by simpa using l7),lW,mR];simp
  have GY:I.size=cs.size:=by
   rw[<-lW,nL];have:=sB cs.toList (i*aD t+j) us.toList (by simpa using l7);simp only[splice]at this;rw[this];simp
  have hC:ru w (w.setCells b (i*aD t+j) us.toList) ah ρ:=by
   intro k ad v ha D fW;by_cases eU:ad.block=b
   ·obtain⟨J,C,s',q',rfl,TX,al2,uW,_⟩:=wA k ad ha;have sE:ad=⟨b,ad.off,none⟩:=by cases ad;simp_all
    rw[sE,cell_of_row w b _ cs _ _ U]at D;rw[sE,cell_of_row _ b _ I _ _ gz,tM];by_cases h1:ad.off<i*aD t+j
    ·rw[br h1];exact D
    ·by_cases h2:ad.off<i*aD t+j+xs.length
     ·exfalso;have hjs:ad.off-(i*aD t+j)<xs.length:=by omega
      have wC:j+(ad.off-(i*aD t+j))<(enc t o l[i]).length:=by rw[jZ];omega
      have Y:=bO wC;generalize (enc t o l[i])[j+(ad.off-(i*aD t+j))]=y at Y;have uX:=hold _ y hjs Y;have Q:=Z i hi _ y Y;rw[show i*aD t+(j+(ad.off-(i*aD t+j)))=ad.off by omega]at Q;rw[D]at Q;injection Q with Q;have:=(hr i hi _ y Y).aas uX;rw[<-Q,fW]at this;cases this
     ·rw[bE h1,bE h2];exact D
   ·exact(kJ (O.block _ eU)).trans D
  refine⟨b,A4 j i (aD t) A5 L,λn wD=>⟨?_,frozen_of_row w b _ cs _ U⟩,h.wrote O L hC (hp.ok h.root O L (List.suffix_refl _) hC A5 ?_)⟩
  ·rw[cell_of_row w b _ cs _ _ U];simp;omega
  ·refine RV.MT (u:=u) (us:=λ_ n=>us.getD (n-j) undef) (cs:=cs) (xs:=xs) L gz (GY.trans hs) hn sD hi hj hd (λC h' J x E GX=>?_) (λn x E=>?_)
   ·have sC:J<aD t:=by have:=(dQ.1 E).1;rwa [jZ]at this
    refine⟨?_,(hr C h' J x E).apart L (.inl λnM=>?_) (Nat.le_of_eq O.size.symm) O.block⟩
    ·rw[tM];have A7:¬ (¬ C*aD t+J<i*aD t+j/\C*aD t+J<i*aD t+j+xs.length):=by
      rintro⟨h1,h2⟩;rcases Nat.lt_trichotomy C i with dZ|heq|DM
      ·have:(C+1)*aD t<=i*aD t:=iN _ dZ;rw[gH]at this;omega
      ·subst heq;exact GX ⟨rfl,by omega,by omega⟩
      ·have:(i+1)*aD t<=C*aD t:=iN _ DM;rw[gH]at this;omega
     split
     ·exact Z C h' J x E
     ·rw[bE];exact Z C h' J x E
    ·have:=nM.length_le;simp at this;omega
   ·obtain⟨v,D,A8⟩:=hx n x E;have wD:n<xs.length:=(dQ.1 E).1;have DN:us.getD (j+n-j) undef=v:=by rw[show j+n-j=n by omega,iu,D];rfl
    show I[_]?=some (us.getD (j+n-j) undef)/\RV _ _ _ _ _ (us.getD (j+n-j) undef);rw[DN,tM,bE,br];refine⟨?_,A8.tL (hxp x (ga E))⟩;rw[show i*aD t+(j+n)-(i*aD t+j)=n by omega];exact D
end
def TY:Value->A
 |.bool b=>.lf (.v (.bool b))
 |.int k n=>.lf (.v (.int k n))
 |.string s=>.lf (.v (.str s))
 |.slice none 0 0=>.lf (.v .nil)
 |_=>.undef
def aI(σ:S):Operand->A
 |.tmp t=>σ.t t
 |.const v=>TY v
 |.func f=>.fn f []
 |.global _=>.undef
def iB{X:Type}(N:Nat)(σ:S)(C:aj Tmp)(x:A)(k:S->aj X):aj X:=
 match C with
 |none=>k σ
 |some d=>bif Nat.blt d N then k (σ.set d x)else none
def l8(P:Program)(w0:Wd)(N:Nat)(o:Oper)(σ D:S):Prop:=
 ∀a w K Q,R w0 N σ a w->(∀C w',R w0 N D C w'->K C w')->o.wp P a w K Q
section
variable {P:Program} {w:World} {w0:Wd} {B N:Nat} {ah:bG} {ρ:Nat->Loc} {σ:S} {a:Act} {X:Type} {r:X} {k:S->aj X} {o:Oper}
def al3(v:Value):RA w B ah ρ (TY v) v:=by
 unfold TY;split
 ·exact⟨rfl,.bool _ _⟩
 ·exact⟨rfl,.int _ _ _⟩
 ·exact⟨rfl,.str _ _⟩
 ·exact⟨rfl,.nil _⟩
 ·trivial
def Rl.aI(h:Rl w0 N ah ρ σ a w)(x:Operand):RA w w0.heap.size ah ρ (aI σ x) (a.eval x):=by
 cases x with
 |tmp t=>exact h.tmp t
 |const v=>exact al3 v
 |func f=>exact⟨#[],rfl,rfl,by simp⟩
 |global g=>trivial
def l8.val{x:A}(C:iB N σ o.dst x k=some r)(h:∀ ah ρ a w,Rl w0 N ah ρ σ a w->∃ v,(execOp a.eval o).run P w = .ok (.value v) w/\RA w w0.heap.size ah ρ x v):∃ L,k L=some r/\l8 P w0 N o σ L:=by
 unfold iB at C;split at C
 ·rename_i D
  refine⟨σ,C,λa w K Q hR E=>?_⟩
  obtain⟨ah,ρ,hl⟩:=hR;obtain⟨v,I,O⟩:=h ah ρ a w hl;unfold Oper.wp;rw[I,Oper.upon_value,D];exact E _ _ ⟨ah,ρ,hl⟩
 ·rename_i d D;cases J:Nat.blt d N with
  |false=>rw[J]at C;cases C
  | true=>
   rw[J]at C
   refine⟨_,C,λa w K Q hR E=>?_⟩
   obtain⟨ah,ρ,hl⟩:=hR;obtain⟨v,I,O⟩:=h ah ρ a w hl;unfold Oper.wp;rw[I,Oper.upon_value,D];exact E _ _ ⟨ah,ρ,hl.set O (by have:=cI J;omega)⟩
/-! Contents of leaves. -/
def gn{X:Type}(m:Nat->aj aZ):aa Nat->(V->aj X)->aj X
 | [r],k=>match m r with
  |some (.sl y)=>k y
  |_=>none
 | j :: i :: s :: q,k=>gn m q λy=>match y with
  |.sl t (o+2) _ l=>if s=aD t then (if h:i<l.length then (match (enc t o l[i])[j]? with|some z=>k z|none=>none)else none)else none
  |_=>none
 |_,_=>none
def sF{m:Nat->aj aZ}:∀ (q:aa Nat) (k:V->aj X),gn m q k=some r->∃ y,uU m q y/\k y=some r
 |[],_,h=>by simp[gn]at h
 | [x],k,h=>by
  simp only[gn]at h;split at h
  next y D=>exact⟨y,.root x y D,h⟩
  ·cases h
 |[_,_],_,h=>by simp[gn]at h
 | j :: i :: s :: q,k,h=>by
  simp only[gn]at h;obtain⟨y,D,C⟩:=sF q _ h;clear h;split at C
  ·split at C
   ·rename_i E;subst E;split at C
    ·rename_i hi;split at C
     next z I=>exact⟨z,.elem j i q _ _ _ _ z D hi I,C⟩
     ·cases C
    ·cases C
   ·cases C
  ·cases C
def iS{X:Type}(σ:S)(x:Lf)(k:V->aj X):aj X:=
 match x with
 |.v y=>k y
 |.own q=>gn σ.m q k
 |.dead=>none
def RV.part{q:aa Nat}{C:TC}{g:Nat}{O:Bool}{xs:aa (T C)}{A:aj Addr}{n c a h:Nat}(I:RV w B ah q (.sl C g O xs) (.slice A n c))(J:g<2)(h1:a<=h)(E:h<=xs.length):RV w B ah q (.sl C g false ((xs.take h).drop a)) (sliced A a h c (aD C))/\n=xs.length/\xs.length<=c:=by
 have hlen:((xs.take h).drop a).length=h-a:=by simp;omega
 cases I with
 | cS=>
  have:a=0:=by simp at E;omega
  have:h=0:=by simpa using E
  subst_vars
  exact⟨.cS _ _ _,rfl,eB _⟩
 | cW=>
  have:h=0:=by simpa using E
  subst this;have:a=0:=by omega
  subst this;exact⟨by unfold sliced;split<;>exact .cW _ _ _ _ _ J,rfl,iO _⟩
 | de=>
  have:h=0:=by simpa using E
  subst this;have:a=0:=by omega
  subst this;exact⟨by unfold sliced;split<;>exact .cW _ _ _ _ _ J,rfl,iO _⟩
 |own=>omega
 | aF _ _ _ _ _ b off cap u Q hl hb hB U Y I=>
  refine⟨?_,rfl,U⟩;by_cases Z:a=h
  ·subst Z;have e0:(xs.take a).drop a=[]:=List.eq_nil_of_length_eq_zero (by rw[hlen];omega);rw[e0];unfold sliced;rw[Nat.sub_self];split<;>exact .cW _ _ _ _ _ J
  ·unfold sliced;rw[bE,<-hlen];have My:(some (⟨b,off,none⟩:Addr)).map (·.add (a*aD C))=some ⟨b,off+a*aD C,none⟩:=by
    simp only[jj];unfold Addr.add;split<;>simp_all
   rw[My];have L:∀ i (hi:i<((xs.take h).drop a).length),((xs.take h).drop a)[i]=xs[a+i]'(by omega):=by
    intro i hi;rw[List.getElem_drop,List.getElem_take]
   refine .aF _ _ _ _ _ b (off+a*aD C) (c-a) (λi j=>u (a+i) j) Q hl hb hB (by omega) (λi hi j x D=>?_) (λi hi j x D=>?_)
   ·rw[L i hi]at D;have:=Y (a+i) (by omega) j x D;rw[<-this];congr 2;rw[Nat.add_mul];omega
   ·rw[L i hi]at D;exact I (a+i) (by omega) j x D
def aat(s i j:Nat):V->aj V
 |.sl t _ _ l=>bif Nat.beq s (aD t)then some (.sl t 0 false ((l.take j).drop i))else none
 |_=>none
def tN{X:Type}(σ:S)(q:aa Nat)(s i j:Nat)(k:V->aj X):aj X:=
 gn σ.m q λy=>match aat s i j y with
  |some z=>k z
  |none=>none
def qx{X:Type}(σ:S)(y:A)(k:V->aj X):aj X:=
 match y with
 |.lf l=>iS σ l k
 |.view q s i j=>tN σ q s i j k
 |_=>none
def aau{q:aa Nat}{s i j:Nat}{k:V->aj X}(h:tN σ q s i j k=some r):∃ z,k z=some r/\z.aF=true/\∀ w0 N ah ρ a w,Rl w0 N ah ρ σ a w->∀ u,RA w w0.heap.size ah ρ (.view q s i j) u->∀ B',RV w B' (λ_=>none) [] z u:=by
 obtain⟨y,L,E⟩:=sF q _ h;clear h;split at E
 ·rename_i z C;unfold aat at C;split at C
  ·rename_i t g O l;cases I:Nat.beq s (aD t)with
   |false=>rw[I]at C;cases C
   | true=>
    rw[I,ak]at C;obtain rfl:=ck I;injection C with C;subst C
    refine⟨_,E,rfl,λw0 N ah ρ a w hR u Q B'=>?_⟩
    obtain⟨A,n,c,T,U,Z,rfl⟩:=Q;obtain⟨v,D,Y⟩:=L.ok hR.root;rw[T]at D;injection D with D;subst D;have J:RV w B' (λ_=>none) [] (.sl t 0 O l) (.slice A n c):=Y.gL;have hn:n=l.length:=by cases J<;>rfl
    exact(J.part (by omega) U (by omega)).1
  ·cases C
 ·cases E
def vK{X:Type}(x:A)(k:V->aj X):aj X:=
 match x with
 |.lf (.v y)=>k y
 |_=>none
def MU{x:A}{k:V->aj X}(h:vK x k=some r):∃ y,x = .lf (.v y)/\k y=some r:=by
 unfold vK at h;split at h
 ·exact⟨_,rfl,h⟩
 ·cases h
def RV.gO{q:aa Nat}{k:IntKind}{n:Int}{u:Value}(h:RV w B ah q (.int k n) u):u = .int k n:=by cases h;rfl
def RV.yS{q:aa Nat}{n:Bool}{u:Value}(h:RV w B ah q (.bool n) u):u = .bool n:=by cases h;rfl
def RV.wE{q:aa Nat}{n:ByteArray}{u:Value}(h:RV w B ah q (.str n) u):u = .string n:=by cases h;rfl
/-! Arithmetic and comparison. -/
def bD(n:Nat):Bool:=decide (n<1073741824)
def nN{X:Type}(P:Program)(ty:TypeId)(op:BinOp)(x y:V)(k:V->aj X):aj X:=
 match x,y with
 | .int C a,.int D b=>match op with
  |.shl=>if b<0 then none else k (.int C (C.wrap (a*2 ^ (min b.toNat C.bits))))
  |.shr=>if b<0 then none else k (.int C (a.fdiv (2 ^ (min b.toNat C.bits))))
  | op=>if C=D then (match op with
   |.add=>k (.int C (C.wrap (a+b)))
   |.sub=>k (.int C (C.wrap (a-b)))
   |.mul=>k (.int C (C.wrap (a*b)))
   |.quo=>if b=0 then none else k (.int C (C.wrap (a.tdiv b)))
   |.rem=>if b=0 then none else k (.int C (a.tmod b))
   |.and=>k (.int C (bits .and C a b))
   |.or=>k (.int C (bits .or C a b))
   |.xor=>k (.int C (bits .xor C a b))
   |.andNot=>k (.int C (bits .andNot C a b))
   |.eql=>k (.bool (a==b))
   |.neq=>k (.bool (a != b))
   |.lss=>k (.bool (decide (a<b)))
   |.leq=>k (.bool (decide (a<=b)))
   |.gtr=>k (.bool (decide (a > b)))
   |.geq=>k (.bool (decide (a >= b)))
   |_=>none)else none
 | .bool a,.bool b=>match P.underlying ty with
  | some .bool=>(match op with
   |.eql=>k (.bool (a==b))
   |.neq=>k (.bool (!(a==b)))
   |_=>none)
  |_=>none
 | .str a,.str b=>match op with
  |.add=>bif bD (a.size+b.size)then k (.str (a++b))else none
  |.eql=>k (.bool (a.toList==b.toList))
  |.neq=>k (.bool (!(a.toList==b.toList)))
  |_=>none
 |_,_=>none
def al4{ty:TypeId}{op:BinOp}{x y:V}{k:V->aj X}(h:nN P ty op x y k=some r):∃ z,k z=some r/\z.plain=true/\∀ (w:World) (B:Nat) (ah:bG) (E I:Operand) (q J:aa Nat) (u v:Value),RV w B ah q x u->RV w B ah J y v->
  ∃t,(do eqGuard op ty E I u v;binOp op ty u v:Sem Value).run P w = .ok t w/\RV w B ah [] z t:=by
 unfold nN at h;split at h
 ·rename_i Z a ky b;split at h
  ·split at h
   ·cases h
   ·rename_i hb
    refine⟨_,h,rfl,λw B ah E I q J u v C D=>?_⟩
    obtain rfl:=C.gO;obtain rfl:=D.gO;exact⟨_,by simp[eqGuard,binOp,Op.shift,hb],.int _ _ _⟩
  ·split at h
   ·cases h
   ·rename_i hb
    refine⟨_,h,rfl,λw B ah E I q J u v C D=>?_⟩
    obtain rfl:=C.gO;obtain rfl:=D.gO;exact⟨_,by simp[eqGuard,binOp,Op.shift,hb],.int _ _ _⟩
  ·rename_i Q T;split at h
   ·rename_i U;subst U;cases op
    case shl=>exact absurd rfl Q
    case shr=>exact absurd rfl T
    case quo=>
     by_cases hb:b=0
     ·simp only[hb,if_true]at h;cases h
     ·simp only[hb,if_false]at h
      refine⟨_,h,rfl,λw B ah E I q J u v C D=>?_⟩
      obtain rfl:=C.gO;obtain rfl:=D.gO;exact⟨_,by simp[eqGuard,binOp,Op.intDiv,hb],.int _ _ _⟩
    case rem=>
     by_cases hb:b=0
     ·simp only[hb,if_true]at h;cases h
     ·simp only[hb,if_false]at h
      refine⟨_,h,rfl,λw B ah E I q J u v C D=>?_⟩
      obtain rfl:=C.gO;obtain rfl:=D.gO;exact⟨_,by simp[eqGuard,binOp,Op.intDiv,hb],.int _ _ _⟩
    all_goals first
     | (refine⟨_,h,rfl,λw B ah E I q J u v C D=>?_⟩
        obtain rfl:=C.gO;obtain rfl:=D.gO
        first
         |(refine⟨_,?_,.int _ _ _⟩;simp[eqGuard,binOp,Op.intArith];done)
         |(refine⟨_,?_,.int _ _ _⟩;simp[eqGuard,binOp,intBits_and,intBits_or,intBits_xor,intBits_andNot];done)
         |(refine⟨_,?_,.bool _ _⟩;simp[eqGuard,binOp,Op.intCmp];done))
     |cases h
   ·cases h
 ·rename_i a b;split at h
  ·rename_i O;split at h
   ·refine⟨_,h,rfl,λw B ah E I q J u v C D=>?_⟩
    obtain rfl:=C.yS;obtain rfl:=D.yS;have e:binOp .eql ty (.bool a) (.bool b)=(do pure (.bool (<-Op.equal ty (.bool a) (.bool b)))):=rfl;have g:eqGuard .eql ty E I (.bool a) (.bool b)=pure ():=rfl;exact⟨_,by rw[e,g,fq,Sem.run_pure,kL,fq,run_equal_bool _ _ _ _ O];rfl,.bool _ _⟩
   ·refine⟨_,h,rfl,λw B ah E I q J u v C D=>?_⟩
    obtain rfl:=C.yS;obtain rfl:=D.yS;have e:binOp .neq ty (.bool a) (.bool b)=(do pure (.bool (!(<-Op.equal ty (.bool a) (.bool b))))):=rfl;have g:eqGuard .neq ty E I (.bool a) (.bool b)=pure ():=rfl;exact⟨_,by rw[e,g,fq,Sem.run_pure,kL,fq,run_equal_bool _ _ _ _ O];rfl,.bool _ _⟩
   ·cases h
  ·cases h
 ·rename_i a b;split at h
  ·cases L:bD (a.size+b.size)with
   |false=>rw[L]at h;cases h
   | true=>
    rw[L]at h
    refine⟨_,h,rfl,λw B ah E I q J u v C D=>?_⟩
    obtain rfl:=C.wE;obtain rfl:=D.wE;have hL':a.size+b.size<1073741824:=by simpa [bD]using L
    refine⟨_,?_,.str _ _⟩;have Y:IntKind.i64.max=9223372036854775807:=rfl;simp only[eqGuard,binOp,Op.stringOp,Y];simp;omega
  ·refine⟨_,h,rfl,λw B ah E I q J u v C D=>?_⟩
   obtain rfl:=C.wE;obtain rfl:=D.wE;exact⟨_,by simp[eqGuard,binOp,Op.stringOp],.bool _ _⟩
  ·refine⟨_,h,rfl,λw B ah E I q J u v C D=>?_⟩
   obtain rfl:=C.wE;obtain rfl:=D.wE;exact⟨_,by simp[eqGuard,binOp,Op.stringOp],.bool _ _⟩
  ·cases h
 ·cases h
def DO{X:Type}(op:UnOp)(x:V)(k:V->aj X):aj X:=
 match op,x with
 |.not,.bool b=>k (.bool (!b))
 |.neg,.int C n=>k (.int C (C.wrap (0-n)))
 |_,_=>none
def al5{op:UnOp}{x:V}{k:V->aj X}(h:DO op x k=some r):∃ z,k z=some r/\z.plain=true/\∀ (w:World) (B:Nat) (ah:bG) (q:aa Nat) (u:Value),RV w B ah q x u->∃ t,(Op.unary op u).run P w = .ok t w/\RV w B ah [] z t:=by
 unfold DO at h;split at h
 ·refine⟨_,h,rfl,λw B ah q u C=>?_⟩
  obtain rfl:=C.yS;exact⟨_,by simp[Op.unary],.bool _ _⟩
 ·refine⟨_,h,rfl,λw B ah q u C=>?_⟩
  obtain rfl:=C.gO;exact⟨_,by simp[Op.unary,Op.intArith],.int _ _ _⟩
 ·cases h
def V.GZ{x:V}(h:x.plain=true):x.aF=true:=by cases x<;>first|rfl|cases h
end
def jv(P:Program)(t:TypeId):aj Nat:=(P.info? t).map (·.size)
def DP(P:Program)(t:TypeId):aj Bool:=
 match P.underlying t with
 |some (.struct _)|some (.array _ _)=>some true
 |some _=>some false
 |none=>none
def qy(P:Program)(t:TypeId):aj TypeId:=
 match P.underlying t with
 |some (.slice e)=>some e
 |_=>none
def G0(P:Program)(s:TypeId)(f:Nat):aj Field:=
 match P.underlying s with
 |some (.struct C)=>C[f]?
 |_=>none
def lH{X:Type}(P:Program)(t:TypeId)(cs:aa Lf)(k:A->aj X):aj X:=
 match jv P t with
 | some n=>if cs.length=n then (match DP P t with
  |some true=>k (.agg cs)
  | some false=>(match cs with
   |[y]=>k (.lf y)
   |_=>none)
  |none=>none)else none
 |none=>none
def leaves(key:Nat->aa Nat):Nat->aa V->aa Lf
 |_,[]=>[]
 |j,z::C=>(bif z.aF then .v z else .own (key j))::leaves key (j+1) C
def jw{X:Type}(P:Program)(σ:S)(t:TypeId)(x:A)(k:A->aj X):aj X:=
 match jv P t with
 |none=>none
 | some n=>match x with
  | .aG r j=>(match σ.m r with
   |some (.aB cs)=>lH P t ((cs.drop j).take n) k
   |_=>none)
  |.hJ cs=>lH P t ((cs.take n).map .v) k
  | .ptr (j :: i :: s :: q)=>gn σ.m q λy=>(match y with
   |.sl C (o+2) _ l=>if s=aD C then (if h:i<l.length then lH P t (leaves (λD=>D::i::s::q) j (((enc C o l[i]).drop j).take n)) k else none)else none
   |_=>none)
  |_=>none
section
variable {P:Program} {w:World} {w0:Wd} {B N:Nat} {ah:bG} {ρ:Nat->Loc} {σ:S} {a:Act} {X:Type} {r:X} {o:Oper}
def aav(key:Nat->aa Nat):∀ (j:Nat) (C:aa V) (n:Nat),(leaves key j C)[n]?=(C[n]?).map λz=>bif z.aF then .v z else .own (key (j+n))
 |_,[],n=>by simp[leaves]
 |j,z::C,0=>by simp[leaves]
 | j,z :: C,n+1=>by
  simp only[leaves,List.getElem?_cons_succ,aav key (j+1) C n];rw[show j+1+n=j+(n+1) by omega]
def TZ{t:TypeId}{cs:aa Lf}{k:A->aj X}(h:lH P t cs k=some r):∃ x,k x=some r/\∀ (w:World) (B:Nat) (ah:bG) (ρ:Nat->Loc) (b o:Nat) (D:aa Value),dU w B ah ρ cs D.toArray->w.rangeAt b o D->
  ∃v,(Instr.loadAt t (.pointer (some ⟨b,o,none⟩))).run P w = .ok v w/\RA w B ah ρ x v:=by
 unfold lH at h;split at h
 ·rename_i n L;split at h
  ·rename_i hlen;split at h
   ·rename_i C
    refine⟨_,h,λw B ah ρ b o D hl I=>?_⟩
    have J:D.length=n:=by have:=hl.1;simpa [hlen]using this
    unfold DP at C;split at C
    next Y E=>exact⟨_,run_loadAt_mid w b o t D _ I E rfl (by rw[J];exact L),_,rfl,hl⟩
    next c e E=>exact⟨_,run_loadAt_mid w b o t D _ I E rfl (by rw[J];exact L),_,rfl,hl⟩
    ·cases C
    ·cases C
   ·rename_i C;split at h
    ·rename_i y
     refine⟨_,h,λw B ah ρ b o D hl I=>?_⟩
     have J:D.length=1:=by have:=hl.1;simpa using this
     obtain⟨v,rfl⟩:=List.length_eq_one_iff.1 J;have O:w.cell? ⟨b,o,none⟩=some v:=I 0 v rfl;obtain⟨u,E,hR⟩:=hl.2 0 y rfl;have:v=u:=by simpa using E
     subst this;refine⟨v,?_,hR⟩;unfold DP at C;split at C
     ·cases C
     ·cases C
     ·rename_i d Q T E;have U:(isAgg t).run P w = .ok false w:=by
       unfold isAgg;rw[fq,gT E w];cases d<;>first|rfl|(rename_i x;exact absurd rfl (Q x))|(rename_i x y;exact absurd rfl (T x y))|simp_all
      simp[Instr.loadAt,Instr.sureAddr,loadVar,fq,U,load,Sem.run,O]
     ·cases C
    ·cases h
   ·cases h
  ·cases h
 ·cases h
def MV{α:Type}(l:aa α)(j n i:Nat)(x:α)(h:((l.drop j).take n)[i]?=some x):i<n/\l[j+i]?=some x:=by
 rw[List.getElem?_take]at h;split at h
 next hi=>rw[List.getElem?_drop]at h;exact⟨hi,h⟩
 ·cases h
def aaw{t:TypeId}{x:A}{k:A->aj X}(h:jw P σ t x k=some r):∃ y,k y=some r/\∀ ah ρ a w,Rl w0 N ah ρ σ a w->∀ u,RA w w0.heap.size ah ρ x u->
  ∃v,(Instr.loadAt t u).run P w = .ok v w/\RA w w0.heap.size ah ρ y v:=by
 unfold jw at h;split at h
 ·cases h
 ·rename_i n hn;split at h
  ·rename_i r' j;split at h
   ·rename_i cs kj;obtain⟨y,T,U⟩:=TZ h
    refine⟨y,T,λah ρ a w hR u Y=>?_⟩
    obtain⟨b,off,dz,rfl⟩:=Y;have J:=hR.root r' _ kj;generalize O:aZ.aB cs=x at J;cases J with
    |sl=>cases O
    |mp=>cases O
    |gh=>cases O
    | aB b' A9 cells e eZ us jN hl hh hs Q=>
     injection O with O;subst O;rw[dz]at jN;injection jN with e1 e2;subst e1 e2
     refine U w _ ah ρ b (off+j) (((cs.drop j).take n).mapIdx λi _=>us (j+i)) ⟨by simp,λi x C=>?_⟩ (λi v D=>?_)
     ·obtain⟨hi,pH⟩:=MV _ _ _ _ _ C;refine⟨us (j+i),?_,(Q _ x pH).2⟩;simp only[List.getElem?_toArray,List.getElem?_mapIdx,C,jj]
     ·rw[List.getElem?_mapIdx]at D;cases C:((cs.drop j).take n)[i]? with
      |none=>rw[C]at D;cases D
      | some x=>
       rw[C]at D;injection D with D;subst D;obtain⟨hi,pH⟩:=MV _ _ _ _ _ C;rw[cell_of_row w b _ cells _ _ hh,Nat.add_assoc];exact(Q _ x pH).1
   ·cases h
  ·rename_i cs;obtain⟨y,T,U⟩:=TZ h
   refine⟨y,T,λah ρ a w hR u Y=>?_⟩
   obtain⟨b,off,rfl,hb,hl,Q⟩:=Y;have Z:∀ (i:Nat) (x:Lf),((cs.take n).map Lf.v)[i]?=some x->∃ z v,x = .v z/\z.aF=true/\w.cell? ⟨b,off+i,none⟩=some v/\RV w w0.heap.size ah [] z v:=by
    intro i x C;rw[dw]at C;cases I:(cs.take n)[i]? with
    |none=>rw[I]at C;cases C
    | some z=>
     rw[I]at C;injection C with C;rw[List.getElem?_take]at I;split at I
     ·obtain⟨qz,v,D,J⟩:=Q i z I;exact⟨z,v,C.symm,qz,D,J⟩
     ·cases I
   refine U w _ ah ρ b off (((cs.take n).map Lf.v).mapIdx λi _=>(w.cell? ⟨b,off+i,none⟩).getD undef) ⟨by simp,λi x C=>?_⟩ (λi v D=>?_)
   ·obtain⟨z,v,rfl,qz,D,J⟩:=Z i x C;refine⟨v,?_,qz,J⟩;simp only[List.getElem?_toArray,List.getElem?_mapIdx,C,jj,D,Option.getD_some]
   ·rw[List.getElem?_mapIdx]at D;cases C:((cs.take n).map Lf.v)[i]? with
    |none=>rw[C]at D;cases D
    | some x=>
     rw[C]at D;obtain⟨z,v',rfl,qz,rz,J⟩:=Z i x C;rw[rz]at D;injection D with D;rw[rz];exact bF some D
  ·rename_i j i s q;obtain⟨y0,hg,L⟩:=sF _ _ h;clear h;split at L
   ·rename_i E o' qn l;split at L
    ·rename_i hs;subst hs;split at L
     ·rename_i hi;obtain⟨y,T,U⟩:=TZ L
      refine⟨y,T,λah ρ a w hR u Y=>?_⟩
      obtain⟨ad,rfl,sE⟩:=Y;obtain⟨D,pI,mS⟩:=hg.ok hR.root;cases mS with
      |cS=>simp at hi
      |cW=>simp at hi
      |de=>simp at hi
      |aF _ _ _ _ _ _ _ _ _ ho=>omega
      | own _ _ _ _ _ b cap cs us qA hh hs hn sD Q J=>
       rw[A4 j i (aD E) pI qA]at sE;injection sE with sE;subst sE;have Z:∀ (m:Nat) (x:Lf),(leaves (λj'=>j' :: i :: aD E :: q) j (((enc E o' l[i]).drop j).take n))[m]?=some x->cs[i*aD E+(j+m)]?=some (us i (j+m))/\dy w w0.heap.size ah ρ x (us i (j+m)):=by
        intro m x C;rw[aav]at C;cases I:(((enc E o' l[i]).drop j).take n)[m]? with
        |none=>rw[I]at C;cases C
        | some z=>
         rw[I]at C;injection C with C;have C:(bif z.aF then Lf.v z else Lf.own ((j+m)::i::aD E::q))=x:=C;obtain⟨_,DQ⟩:=MV _ _ _ _ _ I;have h3:=Q i hi _ z DQ;have h4:=J i hi _ z DQ;refine⟨h3,?_⟩;cases DR:z.aF with
         | true=>
          rw[DR]at C;have C:Lf.v z=x:=C;subst C;exact⟨DR,h4.key DR⟩
         | false=>
          rw[DR]at C;have C:Lf.own ((j+m)::i::aD E::q)=x:=C;subst C;refine⟨?_,?_⟩
          ·exact h4.TP DR
          ·rw[MR,A4 (j+m) i (aD E) pI qA];show w.cell? _=_;rw[cell_of_row w b _ cs _ _ hh];exact h3
       refine U w _ ah ρ b (i*aD E+j) ((leaves (λj'=>j'::i::aD E::q) j (((enc E o' l[i]).drop j).take n)).mapIdx λm _=>us i (j+m)) ⟨by simp,λm x C=>?_⟩ (λm v D=>?_)
       ·refine⟨us i (j+m),?_,(Z m x C).2⟩;simp only[List.getElem?_toArray,List.getElem?_mapIdx,C,jj]
       ·rw[List.getElem?_mapIdx]at D;cases C:(leaves (λj'=>j' :: i :: aD E :: q) j (((enc E o' l[i]).drop j).take n))[m]? with
        |none=>rw[C]at D;cases D
        | some x=>
         rw[C]at D;injection D with D;subst D;rw[cell_of_row w b _ cs _ _ hh,Nat.add_assoc];exact(Z m x C).1
     ·cases L
    ·cases L
   ·cases L
  ·cases h
end
def A.yT:A->aj (aa Lf)
 |.lf x=>some [x]
 |.agg xs=>some xs
 |_=>none
def Lf.live:Lf->Bool
 |.dead=>false
 |_=>true
def Lf.pl:Lf->aj V
 |.v x=>bif x.plain then some x else none
 |_=>none
def rB:aa Lf->aj (aa V)
 |[]=>some []
 | x :: xs=>match x.pl,rB xs with
  |some y,some ys=>some (y::ys)
  |_,_=>none
def pJ{X:Type}(m:Nat->aj aZ):aa Nat->V->((Nat->aj aZ)->aj X)->aj X
 | [r],y,k=>match m r with
  |some (.sl _)=>k (bV m r (some (.sl y)))
  |_=>none
 | j :: i :: s :: q,y,k=>gn m q λz=>match z with
  | .sl t (o+2) C l=>if s=aD t then (if h:i<l.length then (if j<aD t then (match dec t o (splice (enc t o l[i]) j [y])with
   |some e=>pJ m q (.sl t (o+2) C (l.set i e)) k
   |none=>none)else none)else none)else none
  |_=>none
 |_,_,_=>none
def nO{X:Type}(P:Program)(σ:S)(t:TypeId)(x y:A)(k:S->aj X):aj X:=
 match jv P t,y.yT with
 | some n,some xs=>if xs.length=n then (match x with
  | .aG r j=>(match σ.m r with
   |some (.aB cs)=>if j+n<=cs.length then (bif xs.all Lf.live then k ⟨σ.t,bV σ.m r (some (.aB (splice cs j xs)))⟩else none)else none
   |_=>none)
  | .ptr (j :: i :: s :: q)=>(match rB xs with
   |none=>none
   | some D=>gn σ.m q λy=>(match y with
    | .sl C (o+2) E l=>if s=aD C then (if h:i<l.length then (if j+D.length<=aD C then (bif (((enc C o l[i]).drop j).take D.length).all V.plain then (match dec C o (splice (enc C o l[i]) j D)with
     |some e=>pJ σ.m q (.sl C (o+2) E (l.set i e)) λm=>k ⟨σ.t,m⟩
     |none=>none)else none)else none)else none)else none
    |_=>none))
  |_=>none)else none
 |_,_=>none
section
variable {P:Program} {w:World} {w0:Wd} {B N:Nat} {ah:bG} {ρ:Nat->Loc} {σ:S} {a:Act} {X:Type} {r:X} {o:Oper}
def aax{m:Nat->aj aZ}:∀ (q:aa Nat) (y:V) (k:(Nat->aj aZ)->aj X),pJ m q y k=some r->∃ m',yR m q y m'/\k m'=some r
 |[],_,_,h=>by simp[pJ]at h
 | [x],y,k,h=>by
  simp only[pJ]at h;split at h
  next D E=>exact⟨_,.root x D y E,h⟩
  ·cases h
 |[_,_],_,_,h=>by simp[pJ]at h
 | j :: i :: s :: q,y,k,h=>by
  simp only[pJ]at h;obtain⟨z,I,C⟩:=sF q _ h;clear h;split at C
  ·split at C
   ·rename_i J;subst J;split at C
    ·rename_i hi;split at C
     ·rename_i L;split at C
      next e O=>obtain⟨m',Q,T⟩:=aax q _ k C;exact⟨m',.elem j i q _ _ _ _ y e m' I hi L O Q,T⟩
      ·cases C
     ·cases C
    ·cases C
   ·cases C
  ·cases C
def MW:∀ (xs:aa Lf) (D:aa V),rB xs=some D->xs=D.map .v/\∀ v∈D,v.plain=true
 | [],D,h=>by
  simp[rB]at h;subst h;exact⟨rfl,by simp⟩
 | x :: xs,D,h=>by
  unfold rB at h;split at h
  ·rename_i y ys C I;injection h with h;subst h;obtain⟨J,L⟩:=MW xs ys I;have:x = .v y/\y.plain=true:=by
    cases x with
    | v z=>
     unfold Lf.pl at C;cases E:z.plain with
     | true=>
      simp only[E,ak]at C;injection C with C;subst C;exact⟨rfl,E⟩
     |false=>simp[E]at C
    |own q=>cases C
    |dead=>cases C
   refine⟨by rw[this.1,J];rfl,λv hv=>?_⟩
   rcases fQ.1 hv with rfl|hv
   ·exact this.2
   ·exact L v hv
  ·cases h
def al6{u:Value}(h:u.oneCell'=true):u.cells = #[u]:=by cases u<;>first|rfl|cases h
def dy.one{x:Lf}{u:Value}(h:dy w B ah ρ x u)(C:x.live=true):u.oneCell'=true:=by
 cases x with
 |v z=>exact h.2.one
 | own k=>
  have:=h.1;cases u<;>first|rfl|cases this
 |dead=>cases C
def G1{y:A}{xs:aa Lf}(h:y.yT=some xs)(E:xs.all Lf.live=true){u:Value}(C:RA w B ah ρ y u):dU w B ah ρ xs u.cells/\u.cells.all (·.oneCell')=true:=by
 have key:∀ us:Array Value,dU w B ah ρ xs us->us.all (·.oneCell')=true:=by
  intro us I;rw[Array.all_eq_true];intro i hi;have L:=bO (l:=xs) (i:=i) (by rw[<-I.1];exact hi);obtain⟨v,J,O⟩:=I.2 i _ L;have:us[i]=v:=by rw[Array.getElem?_eq_getElem hi]at J;injection J
  rw[this];exact O.one (cE.1 E _ (cO _))
 cases y with
 | lf x=>
  injection h with h;subst h;have C:dy w B ah ρ x u:=C;have Q:=C.one (by simpa using E);have:dU w B ah ρ [x] u.cells:=by
   rw[al6 Q]
   refine⟨rfl,λj y D=>?_⟩
   cases j with
   |zero=>simp at D;subst D;exact⟨u,rfl,C⟩
   |succ j=>simp at D
  exact⟨this,key _ this⟩
 | agg T=>
  injection h with h;subst h;obtain⟨us,rfl,h⟩:=C;exact⟨h,key _ h⟩
 |_=>cases h
def T0(w:World)(b o:Nat)(ty:TypeId)(v:Value)(E:w.there b o v.cells.size)(hi:(P.info? ty).map (·.size)=some v.cells.size)(I:v.cells.all (·.oneCell')=true):
  (Instr.storeAt ty (.pointer (some ⟨b,o,none⟩)) v).run P w = .ok () (w.setCells b o v.cells.toList):=by
 have:=run_storeCells_cells (P:=P) b o v.cells.toList 0 w (λj C=>by simpa using (E j (by simpa using C)).1) (λj C=>by simpa using (E j (by simpa using C)).2)
  (λv J=>(Array.all_eq_true_iff_forall_mem.1 I) v (by simpa using J))
 cases D:P.info? ty with
 |none=>simp[D]at hi
 | some i=>
  have L:v.cells.size=i.size:=by simp[D]at hi;omega
  simp only[Nat.add_zero]at this;simp[Instr.storeAt,Instr.sureAddr,storeVar,sizeOf,typeInfo,D,L,this]
def aay{t:TypeId}{x y:A}{k:S->aj X}(h:nO P σ t x y k=some r):∃ dV,k dV=some r/\∀ ah ρ a w,Rl w0 N ah ρ σ a w->∀ u v,RA w w0.heap.size ah ρ x u->RA w w0.heap.size ah ρ y v->
  ∃w',(Instr.storeAt t u v).run P w = .ok () w'/\Rl w0 N ah ρ dV a w':=by
 unfold nO at h;split at h
 ·rename_i n xs hn rC;split at h
  ·rename_i hlen;split at h
   ·rename_i r' j;split at h
    ·rename_i cs kj;split at h
     ·rename_i O;cases I:xs.all Lf.live with
      |false=>rw[I]at h;cases h
      | true=>
       rw[I]at h
       refine⟨_,h,λah ρ a w hR u v Q T=>?_⟩
       obtain⟨b,off,dz,rfl⟩:=Q;obtain⟨hl,U⟩:=G1 rC I T;obtain⟨b',A9,jN,Y,Z⟩:=hR.GW kj hl (by rw[hlen];exact O);rw[dz]at jN;injection jN with e1 e2;subst e1 e2;exact⟨_,T0 w b (off+j) t v Y (by rw[hl.1,hlen];exact hn) U,Z⟩
     ·cases h
    ·cases h
   ·rename_i j i s q;split at h
    ·cases h
    ·rename_i E l9;obtain⟨y0,hg,C⟩:=sF _ _ h;clear h;split at C
     ·rename_i t' o' qn l;split at C
      ·rename_i hs;subst hs;split at C
       ·rename_i hi;split at C
        ·rename_i O;cases hold:(((enc t' o' l[i]).drop j).take E.length).all V.plain with
         |false=>rw[hold]at C;cases C
         | true=>
          rw[hold,ak]at C;split at C
          ·rename_i e he;obtain⟨m',sG,h3⟩:=aax q _ _ C
           refine⟨_,h3,λah ρ a w hR u v Q T=>?_⟩
           obtain⟨ad,rfl,sE⟩:=Q;obtain⟨J,MX⟩:=MW xs E l9;have I:xs.all Lf.live=true:=by rw[J];simp[Lf.live]
           obtain⟨hl,U⟩:=G1 rC I T;have Ba:E.length=n:=by rw[<-hlen,J,dh]
           have q1:∀ (D:Nat) x,D<E.length->(enc t' o' l[i])[j+D]?=some x->x.plain=true:=by
            intro D x wD hx;refine cE.1 hold x (ga (i:=D) ?_);rw[List.getElem?_take,br wD,List.getElem?_drop];exact hx
           have q2:∀ (D:Nat) x,E[D]?=some x->∃ L,v.cells[D]?=some L/\RV w w0.heap.size ah [] x L:=by
            intro D x hx;obtain⟨L,uY,hU⟩:=hl.2 D (.v x) (by rw[J,dw,hx];rfl);exact⟨L,uY,hU.2⟩
           obtain⟨b,hb,Y,Z⟩:=hR.al1 (xs:=E) (us:=v.cells) hg hi O he q1 MX (by rw[hl.1,J,dh]) q2 sG;rw[sE]at hb;injection hb with hb;subst hb;exact⟨_,T0 w b _ t v Y (by rw[hl.1,hlen];exact hn) U,Z⟩
          ·cases C
        ·cases C
       ·cases C
      ·cases C
     ·cases C
   ·cases h
  ·cases h
 ·cases h
end
def uZ{X:Type}(P:Program)(s:TypeId)(x:A)(f:Nat)(k:A->aj X):aj X:=
 match G0 P s f with
 |none=>none
 | some C=>match jv P C.type with
  | some (_+1)=>(match x with
   |.aG r j=>k (.aG r (j+C.offset))
   |.hJ cs=>k (.hJ (cs.drop C.offset))
   |.ptr (j::i::s::q)=>k (.ptr ((j+C.offset)::i::s::q))
   |_=>none)
  |_=>none
def pK{X:Type}(P:Program)(σ:S)(t:TypeId)(x i:A)(k:A->aj X):aj X:=
 match qy P t with
 |none=>none
 | some e=>match jv P e,i with
  | some n,.lf (.v (.int _ iv))=>(match x with
   |.lf (.v (.sl C g _ l))=>if n=aD C then (bif Nat.blt g 2 then (if h:0<=iv/\iv.toNat<l.length then k (.hJ (enc C g (l[iv.toNat]'h.2)))else none)else none)else none
   | .lf (.own q)=>gn σ.m q λy=>(match y with
    |.sl C g _ l=>if n=aD C then (if h:0<=iv/\iv.toNat<l.length then (bif Nat.blt g 2 then k (.hJ (enc C g (l[iv.toNat]'h.2)))else k (.ptr (0::iv.toNat::aD C::q)))else none)else none
    |_=>none)
   |_=>none)
  |_,_=>none
def rD{X:Type}(P:Program)(σ:S)(t:TypeId)(x:A)(k:A->aj X):aj X:=
 match x with
 | .lf y=>iS σ y λz=>(match z with
  |.sl _ _ _ l=>(match P.underlying t with|some (.slice _)=>k (.lf (.v (.int .i64 (l.length:Int))))|_=>none)
  |.nil=>(match P.underlying t with|some (.slice _)=>k (.lf (.v (.int .i64 0)))|_=>none)
  |.str s=>(match P.underlying t with|some .string=>k (.lf (.v (.int .i64 (s.size:Int))))|_=>none)
  |_=>none)
 |.view _ _ i j=>(match P.underlying t with|some (.slice _)=>k (.lf (.v (.int .i64 ((j-i:Nat):Int))))|_=>none)
 |_=>none
def sH:Bool×aa Lf->aj A
 |(true,cs)=>some (.agg cs)
 |(false,[y])=>some (.lf y)
 |_=>none
def wF{X:Type}(x:A)(i:Nat)(k:A->aj X):aj X:=
 match x with
 | .cQ xs=>match (xs[i]?).bind sH with
  |some y=>k y
  |none=>none
 |_=>none
section
variable {P:Program} {w:World} {w0:Wd} {B N:Nat} {ah:bG} {ρ:Nat->Loc} {σ:S} {a:Act} {X:Type} {r:X} {o:Oper} {w':World} {aE:bG} {ρ':Nat->Loc} {d:Nat}
def al7(n:Nat){j i s:Nat}{q:aa Nat}{ad:Addr}(h:addrAt w ah ρ (j :: i :: s :: q)=some ad):addrAt w ah ρ ((j+n) :: i :: s :: q)=some ⟨ad.block,ad.off+n,none⟩:=by
 match q,h with
 |[],h=>simp[addrAt]at h
 | [r],h=>
  simp only[addrAt]at h ⊢;split at h
  ·split at h
   next hl=>injection h with h;subst h;rw[br hl,Nat.add_assoc]
   ·cases h
  ·cases h
 | x :: y :: q,h=>
  simp only[addrAt]at h ⊢;split at h
  ·split at h
   next hl=>injection h with h;subst h;rw[br hl,Nat.add_assoc]
   ·cases h
  ·cases h
def T1(w:World)(s:TypeId)(f:Nat)(C:Field)(n b off:Nat)(D:G0 P s f=some C)(E:jv P C.type=some (n+1)):
  (Instr.fieldAt s (.pointer (some ⟨b,off,none⟩)) f).run P w = .ok (.pointer (some ⟨b,off+C.offset,none⟩)) w:=by
 unfold G0 at D;split at D
 ·rename_i L J;unfold jv at E;cases I:P.info? C.type with
  |none=>simp[I]at E
  | some i=>
   have hi:i.size=n+1:=by simpa [I]using E
   simp[Instr.fieldAt,gT J,D,Instr.sureAddr,fieldPlace,sizeOf,typeInfo,I,hi,Addr.add_mid]
 ·cases D
def al8{s:TypeId}{x:A}{f:Nat}{k:A->aj X}(h:uZ P s x f k=some r):∃ y,k y=some r/\∀ (w:World) (B:Nat) (ah:bG) (ρ:Nat->Loc) (u:Value),RA w B ah ρ x u->
  ∃v,(Instr.fieldAt s u f).run P w = .ok v w/\RA w B ah ρ y v:=by
 unfold uZ at h;split at h
 ·cases h
 ·rename_i D E;split at h
  ·rename_i n I;split at h
   ·rename_i Y j
    refine⟨_,h,λw B ah ρ u C=>?_⟩
    obtain⟨b,off,Q,rfl⟩:=C;exact⟨_,T1 w s f D n b _ E I,b,off,Q,by rw[Nat.add_assoc]⟩
   ·rename_i cs
    refine⟨_,h,λw B ah ρ u C=>?_⟩
    obtain⟨b,off,rfl,hb,hl,T⟩:=C
    refine⟨_,T1 w s f D n b _ E I,b,_,rfl,hb,hl,λj x J=>?_⟩
    rw[List.getElem?_drop]at J;have:=T _ x J;rw[<-Nat.add_assoc]at this;exact this
   ·rename_i j i Z q
    refine⟨_,h,λw B ah ρ u C=>?_⟩
    obtain⟨ad,rfl,L⟩:=C;have U:=al7 D.offset L;obtain⟨_,_,_,_,_,_,_,O,_⟩:=wA _ _ L;obtain⟨b,off,sp⟩:=ad;simp only at O;subst O;exact⟨_,T1 w s f D n b off E I,_,rfl,U⟩
   ·cases h
  ·cases h
def T2(w:World)(t e:TypeId)(n b off len cap:Nat)(I:IntKind)(iv:Int)(C:qy P t=some e)(D:jv P e=some n)(J:0<=iv)(T:iv.toNat<len):
  (Instr.indexAt t (.slice (some ⟨b,off,none⟩) len cap) (.int I iv)).run P w = .ok (.pointer (some ⟨b,off+iv.toNat*n,none⟩)) w:=by
 unfold qy at C;split at C
 ·rename_i L O;injection C with C;subst C;unfold jv at D;cases E:P.info? L with
  |none=>simp[E]at D
  | some i=>
   have hi:i.size=n:=by simpa [E]using D
   have Q:iv<(len:Int):=by omega
   simp[Instr.indexAt,gT O,asIntOf,J,Q,sizeOf,typeInfo,E,hi,Addr.add_mid]
 ·cases C
def al9{t:TypeId}{x i:A}{k:A->aj X}(h:pK P σ t x i k=some r):∃ y,k y=some r/\∀ ah ρ a w,Rl w0 N ah ρ σ a w->∀ u v,RA w w0.heap.size ah ρ x u->RA w w0.heap.size ah ρ i v->
  ∃p,(Instr.indexAt t u v).run P w = .ok p w/\RA w w0.heap.size ah ρ y p:=by
 unfold pK at h;split at h
 ·cases h
 ·rename_i e he;split at h
  ·rename_i n kk iv hn;split at h
   ·rename_i T g qn l;split at h
    ·rename_i Bb;subst Bb;cases E:Nat.blt g 2 with
     |false=>rw[E]at h;cases h
     | true=>
      rw[E,ak]at h;split at h
      ·rename_i hb
       refine⟨_,h,λah ρ a w hR u v I J=>?_⟩
       obtain rfl:=J.2.gO;have DS:g<2:=by have:=cI E;omega
       cases I.2 with
       |cS=>simp at hb
       |cW=>simp at hb
       |de=>simp at hb
       |own=>exact absurd DS (by omega)
       | aF _ _ _ _ _ b off cap us ho hl MY h1 pG U Y=>
        refine⟨_,T2 w t e _ b off _ cap kk iv he hn hb.1 hb.2,b,_,rfl,MY,hl,λj x D=>⟨jM T g _ DS j x D,us iv.toNat j,?_,Y _ hb.2 j x D⟩⟩
        rw[Nat.add_assoc];exact U _ hb.2 j x D
      ·cases h
    ·cases h
   ·rename_i q;obtain⟨y0,E,C⟩:=sF _ _ h;clear h;split at C
    ·rename_i T L qn l;split at C
     ·rename_i Bb;subst Bb;split at C
      ·rename_i hb;cases O:Nat.blt L 2 with
       | true=>
        rw[O,ak]at C;have T3:L<2:=cI O
        refine⟨_,C,λah ρ a w hR u v I J=>?_⟩
        obtain rfl:=J.2.gO;obtain⟨rz,Z,mS⟩:=E.ok hR.root;have:rz=u:=by
         have Q:=I.2;rw[Z]at Q;injection Q
        subst this;cases mS with
        |cS=>simp at hb
        |cW=>simp at hb
        |de=>simp at hb
        |own=>exact absurd T3 (by omega)
        | aF _ _ _ _ _ b off cap us ho hl MY h1 pG U Y=>
         refine⟨_,T2 w t e _ b off _ cap kk iv he hn hb.1 hb.2,b,_,rfl,MY,hl,λj x D=>⟨jM T L _ T3 j x D,us iv.toNat j,?_,Y _ hb.2 j x D⟩⟩
         rw[Nat.add_assoc];exact U _ hb.2 j x D
       | false=>
        rw[O,aq]at C;have T3:¬ L<2:=λdZ=>by have h9:Nat.blt L 2=true:=iP dZ;rw[h9]at O;cases O
        refine⟨_,C,λah ρ a w hR u v I J=>?_⟩
        obtain rfl:=J.2.gO;obtain⟨rz,Z,mS⟩:=E.ok hR.root;have:rz=u:=by
         have Q:=I.2;rw[Z]at Q;injection Q
        subst this;cases mS with
        |cS=>simp at hb
        |cW=>simp at hb
        |de=>simp at hb
        |aF _ _ _ _ _ _ _ _ _ ho=>omega
        | own _ _ _ _ _ b cap cs us qA hh hs wD sD U Y=>
         refine⟨_,T2 w t e _ b 0 _ cap kk iv he hn hb.1 hb.2,_,rfl,?_⟩;rw[A4 0 iv.toNat (aD T) Z qA];simp
      ·cases C
     ·cases C
    ·cases C
   ·cases h
  ·cases h
def ama{t ty:TypeId}{x:A}{k:A->aj X}(h:rD P σ t x k=some r):∃ y,k y=some r/\∀ ah ρ a w,Rl w0 N ah ρ σ a w->∀ u,RA w w0.heap.size ah ρ x u->
  ∃v,(Builtin.len_ #[t] ty #[u]).run P w = .ok v w/\RA w w0.heap.size ah ρ y v:=by
 unfold rD at h;split at h
 ·rename_i y;have key:∃ z,(∀ ah ρ a w,Rl w0 N ah ρ σ a w->∀ u,dy w w0.heap.size ah ρ y u->∃ q,RV w w0.heap.size ah q z u)/\(match z with
    |.sl _ _ _ l=>(match P.underlying t with|some (.slice _)=>k (.lf (.v (.int .i64 (l.length:Int))))|_=>none)
    |.nil=>(match P.underlying t with|some (.slice _)=>k (.lf (.v (.int .i64 0)))|_=>none)
    |.str s=>(match P.underlying t with|some .string=>k (.lf (.v (.int .i64 (s.size:Int))))|_=>none)
    |_=>none)=some r:=by
   cases y with
   |v z=>exact⟨z,λah ρ a w _ u D=>⟨[],D.2⟩,h⟩
   |dead=>cases h
   | own q=>
    obtain⟨z,J,h⟩:=sF q _ h
    refine⟨z,λah ρ a w hR u D=>?_,h⟩
    obtain⟨v,O,I⟩:=J.ok hR.root;have L:=D.2;rw[O]at L;injection L with L;subst L;exact⟨q,I⟩
  obtain⟨z,J,C⟩:=key;clear h;split at C
  ·rename_i Q g T l;split at C
   ·rename_i e E
    refine⟨_,C,λah ρ a w hR u D=>?_⟩
    obtain⟨q,I⟩:=J ah ρ a w hR u D;cases I with
    |cS=>exact⟨_,by simp[Builtin.len_,gT E,goInt],rfl,.int _ _ _⟩
    |cW=>exact⟨_,by simp[Builtin.len_,gT E,goInt],rfl,.int _ _ _⟩
    |de=>exact⟨_,by simp[Builtin.len_,gT E,goInt],rfl,.int _ _ _⟩
    |aF=>exact⟨_,by simp[Builtin.len_,gT E,goInt],rfl,.int _ _ _⟩
    |own=>exact⟨_,by simp[Builtin.len_,gT E,goInt],rfl,.int _ _ _⟩
   ·cases C
  ·split at C
   ·rename_i e E
    refine⟨_,C,λah ρ a w hR u D=>?_⟩
    obtain⟨q,I⟩:=J ah ρ a w hR u D;cases I;exact⟨_,by simp[Builtin.len_,gT E,goInt],rfl,.int _ _ _⟩
   ·cases C
  ·split at C
   ·rename_i E
    refine⟨_,C,λah ρ a w hR u D=>?_⟩
    obtain⟨q,I⟩:=J ah ρ a w hR u D;obtain rfl:=I.wE;exact⟨_,by simp[Builtin.len_,gT E,goInt],rfl,.int _ _ _⟩
   ·cases C
  ·cases C
 ·split at h
  ·rename_i e E
   refine⟨_,h,λah ρ a w hR u D=>?_⟩
   obtain⟨A,n,c,O,U,C,rfl⟩:=D;exact⟨_,by cases A<;>simp[sliced,Builtin.len_,gT E,goInt],rfl,.int _ _ _⟩
  ·cases h
 ·cases h
def T4{p:Bool×aa Lf}{y:A}(h:sH p=some y){u:Value}(C:RP w B ah ρ p u):RA w B ah ρ y u:=by
 unfold sH at h;split at h
 ·injection h with h;subst h;exact C
 ·rename_i z;injection h with h;subst h;obtain⟨D,E,I⟩:=C.2 0 z rfl;have:u=D:=by simpa using E
  subst this;exact I
 ·cases h
def amb{x:A}{i:Nat}{k:A->aj X}(h:wF x i k=some r):∃ y,k y=some r/\∀ (w:World) (B:Nat) (ah:bG) (ρ:Nat->Loc) (u:Value),RA w B ah ρ x u->
  ∃v,(Instr.extract u i).run P w = .ok v w/\RA w B ah ρ y v:=by
 unfold wF at h;split at h
 ·rename_i xs;split at h
  ·rename_i y C
   refine⟨y,h,λw B ah ρ u E=>?_⟩
   obtain⟨us,rfl,O,I⟩:=E;cases D:xs[i]? with
   |none=>rw[D]at C;cases C
   | some p=>
    rw[D]at C;obtain⟨v,J,L⟩:=I i p D;exact⟨v,by simp[Instr.extract,J],T4 C L⟩
  ·cases h
 ·cases h
def amc{k:aa Nat}(h:[d] <:+ k):bL d k=true:=by
 obtain⟨y,rfl⟩:=h;simp[bL]
def T5{k:aa Nat}(h:bL d k=true):[d] <:+ k:=by
 have h:k.getLast?=some d:=by simpa [bL]using h
 obtain⟨y,C⟩:=List.getLast?_eq_some_iff.1 h;exact⟨y,C.symm⟩
def MZ{j i s:Nat}{q:aa Nat}(C:q≠[]):bL d (j :: i :: s :: q)=bL d q:=by
 cases q with
 |nil=>exact absurd rfl C
 |cons x q=>simp[bL]
structure va (w w':World) (ah aE:bG) (d:Nat):Prop where
 size:w.heap.size<=w'.heap.size
 block:∀b,b<w.heap.size->ah b≠some [d]->w'.heap[b]?=w.heap[b]?
 wG:∀b,b<w.heap.size->aE b=ah b
 ne:∀b,ah b≠some []
def RV.mb{q:aa Nat}{x:V}{v:Value}(h:RV w B ah q x v)(C:va w w' ah aE d)(hq:¬ [d] <:+ q\/x.aF=true):RV w' B aE q x v:=by
 induction h with
 |int=>exact .int _ _ _
 |bool=>exact .bool _ _
 |str=>exact .str _ _
 |nil=>exact .nil _
 |cS=>exact .cS _ _ _
 |cW=>exact .cW _ _ _ _ _ (by first|assumption|omega)
 |de=>exact .de _ _ _ _ _ (by first|assumption|omega)
 | aF q t o T l b off cap u L hl hb U Y E Z I=>
  have J:ah b≠some [d]:=by rw[hl];simp
  exact .aF _ _ _ _ _ _ _ _ u L ((C.wG b hb).trans hl) (kI hb C.size) U Y (λi h j x D=>(kJ (a:=⟨b,_,none⟩) (C.block b hb J)).trans (E i h j x D)) (λi h j x D=>I i h j x D (.inr (jM t o l[i] L j x D)))
 | own q t o T l b cap cs u hl O hs hn hm E Z I=>
  have hb:b<w.heap.size:=(gd.1 O).1;have Q:¬ [d] <:+ q:=by
   rcases hq with hq|hq
   ·exact hq
   ·simp[V.aF]at hq;omega
  have J:ah b≠some [d]:=by
   rw[hl];intro e;injection e with e;exact Q (by rw[e];exact List.suffix_refl _)
  refine .own _ _ _ _ _ _ _ cs u ((C.wG b hb).trans hl) ((C.block b hb J).trans O) hs hn hm E (λi h j x D=>I i h j x D (.inl λnM=>Q ?_))
  have hq0:q≠[]:=by rintro rfl;exact C.ne b hl
  exact T5 ((MZ hq0).symm.trans (amc nM))
def amd{j i s:Nat}{q:aa Nat}(C:q≠[])(h:bL d (j :: i :: s :: q)=false):bL d q=false:=by
 cases q with
 |nil=>exact absurd rfl C
 |cons x q=>simpa [bL]using h
def T6(C:va w w' ah aE d)(I:∀ b k,ah b=some k->b<w.heap.size)(T:∀ r,r≠d->ρ' r=ρ r):∀ (k:aa Nat) (ad:Addr),bL d k=false->addrAt w ah ρ k=some ad->addrAt w' aE ρ' k=some ad
 |[],_,_,h=>h
 |[_],_,_,h=>h
 |[_,_],_,_,h=>h
 |[_,_,_],_,_,h=>by simp only[addrAt]at h ⊢;exact h
 | [j,i,s,r],_,J,h=>by
  have U:r≠d:=by rintro rfl;simp[bL]at J
  simp only[addrAt,T r U]at h ⊢;split at h
  ·rename_i v b n c U;split at h
   next hl=>rw[br ((C.wG _ (I _ _ hl)).trans hl)];exact h
   ·cases h
  ·cases h
 | j :: i :: s :: x :: y :: q,ad,J,h=>by
  have L:=amd (by simp) J;simp only[addrAt]at h ⊢;cases D:addrAt w ah ρ (x::y::q)with
  |none=>rw[D]at h;cases h
  | some O=>
   rw[T6 C I T _ _ L D];rw[D]at h;cases E:w.cell? O with
   |none=>simp[E]at h
   | some v=>
    have Y:ah O.block≠some [d]:=by
     obtain⟨Z,i',s',q',e,hl,_⟩:=wA _ _ D;rw[hl];intro Q;injection Q with Q;subst Q;rw[e]at L;simp[bL]at L
    have e:w'.cell? O=some v:=(kJ (C.block _ (block_lt_of_cell E) Y)).trans E;simp only[Option.bind_some,E]at h;simp only[Option.bind_some,e];split at h
    ·split at h
     next hl=>rw[br ((C.wG _ (I _ _ hl)).trans hl)];exact h
     ·cases h
    ·cases h
def aaz(I:va w w' ah aE d)(L:∀ b k,ah b=some k->b<w.heap.size)(J:∀ r,r≠d->ρ' r=ρ r)(k:aa Nat)(u:Value)(C:bL d k=false)(h:cH w ah ρ k=some u):cH w' aE ρ' k=some u:=by
 match k,C,h with
 |[],_,h=>simp[cH,addrAt]at h
 | [r],C,h=>
  have O:r≠d:=by rintro rfl;simp[bL]at C
  simp only[cH,J r O]at h ⊢;exact h
 | x :: y :: q,C,h=>
  simp only[cH]at h ⊢;cases D:addrAt w ah ρ (x::y::q)with
  |none=>rw[D]at h;cases h
  | some ad=>
   rw[T6 I L J _ _ C D];rw[D]at h;have h:w.cell? ad=some u:=h;have Q:ah ad.block≠some [d]:=by
    obtain⟨T,U,Y,Z,e,hl,_⟩:=wA _ _ D;rw[hl];intro E;injection E with E;subst E;rw[e]at C;simp[bL]at C
   exact(kJ (I.block _ (block_lt_of_cell h) Q)).trans h
def dy.mb{x:Lf}{u:Value}(h:dy w B ah ρ x u)(C:va w w' ah aE d)(D:∀ b k,ah b=some k->b<w.heap.size)(E:∀ r,r≠d->ρ' r=ρ r):dy w' B aE ρ' (x.drop d) u:=by
 cases x with
 |v x=>exact⟨h.1,h.2.mb C (.inr h.1)⟩
 |dead=>trivial
 | own k=>
  have e:Lf.drop d (.own k)=(bif bL d k then .dead else .own k):=rfl;rw[e];cases hl:bL d k with
  |true=>trivial
  |false=>exact⟨h.1,aaz C D E k u hl h.2⟩
def dU.mb{cs:aa Lf}{us:Array Value}(h:dU w B ah ρ cs us)(E:va w w' ah aE d)(I:∀ b k,ah b=some k->b<w.heap.size)(J:∀ r,r≠d->ρ' r=ρ r):dU w' B aE ρ' (cs.map (Lf.drop d)) us:=by
 refine⟨by rw[dh];exact h.1,λj x C=>?_⟩
 rw[dw]at C;cases D:cs[j]? with
 |none=>rw[D]at C;cases C
 | some y=>
  rw[D]at C;injection C with C;subst C;obtain⟨u,L,r⟩:=h.2 j y D;exact⟨u,L,r.mb E I J⟩
def RP.mb{p:Bool×aa Lf}{u:Value}(h:RP w B ah ρ p u)(C:va w w' ah aE d)(D:∀ b k,ah b=some k->b<w.heap.size)(E:∀ r,r≠d->ρ' r=ρ r):RP w' B aE ρ' (p.1,p.2.map (Lf.drop d)) u:=by
 obtain⟨b,cs⟩:=p;cases b with
 |true=>obtain⟨us,e,h⟩:=h;exact⟨us,e,h.mb C D E⟩
 |false=>exact dU.mb h C D E
def RA.mb{x:A}{u:Value}(h:RA w B ah ρ x u)(C:va w w' ah aE d)(J:∀ b k,ah b=some k->b<w.heap.size)(I:∀ r,r≠d->ρ' r=ρ r):RA w' B aE ρ' (x.drop d) u:=by
 cases x with
 |undef=>trivial
 |skip=>exact h
 |lf x=>exact dy.mb h C J I
 |agg cs=>exact RP.mb (p:=(true,cs)) h C J I
 | cQ xs=>
  obtain⟨us,e,Q,h⟩:=h
  refine⟨us,e,by rw[dh];exact Q,λj p D=>?_⟩
  rw[dw]at D;cases T:xs[j]? with
  |none=>rw[T]at D;cases D
  | some y=>
   rw[T]at D;injection D with D;subst D;obtain⟨v,L,r⟩:=h j y T;exact⟨v,L,r.mb C J I⟩
 | ptr k=>
  have e:A.drop d (.ptr k)=(bif bL d k then .undef else .ptr k):=rfl;rw[e];cases hl:bL d k with
  |true=>trivial
  |false=>obtain⟨ad,e,h⟩:=h;exact⟨ad,e,T6 C J I k _ hl h⟩
 | view k s i j=>
  have e:A.drop d (.view k s i j)=(bif bL d k then .undef else .view k s i j):=rfl;rw[e];cases hl:bL d k with
  |true=>trivial
  |false=>obtain⟨A,n,c,h,g⟩:=h;exact⟨A,n,c,aaz C J I k _ hl h,g⟩
 | pk r n=>
  have e:A.drop d (.pk r n)=(bif Nat.beq r d then .undef else .pk r n):=rfl;rw[e];cases hl:Nat.beq r d with
  |true=>trivial
  | false=>
   have E:r≠d:=by rintro rfl;simp at hl
   obtain⟨b,e,h⟩:=h;exact⟨b,(I r E).trans e,h⟩
 | aG r j=>
  have e:A.drop d (.aG r j)=(bif Nat.beq r d then .undef else .aG r j):=rfl;rw[e];cases hl:Nat.beq r d with
  |true=>trivial
  | false=>
   have E:r≠d:=by rintro rfl;simp at hl
   obtain⟨b,off,e,h⟩:=h;exact⟨b,off,(I r E).trans e,h⟩
 | hJ cs=>
  obtain⟨b,off,e,hb,hl,h⟩:=h;have U:ah b≠some [d]:=by rw[hl];simp
  refine⟨b,off,e,kI hb C.size,(C.wG b hb).trans hl,λj x Y=>?_⟩
  obtain⟨O,v,L,E⟩:=h j x Y;exact⟨O,v,(kJ (a:=⟨b,_,none⟩) (C.block b hb U)).trans L,E.mb C (.inr O)⟩
 | kO f cs=>
  obtain⟨pv,Z,h⟩:=h;refine⟨pv,Z,?_⟩;obtain⟨b,off,e,hb,hl,h⟩:=h;have U:ah b≠some [d]:=by rw[hl];simp
  refine⟨b,off,e,kI hb C.size,(C.wG b hb).trans hl,λj x Y=>?_⟩
  obtain⟨O,v,L,E⟩:=h j x Y;exact⟨O,v,(kJ (a:=⟨b,_,none⟩) (C.block b hb U)).trans L,E.mb C (.inr O)⟩
 | fn f cap=>
  have e:A.drop d (.fn f cap)=(bif cap.any (λp=>Nat.beq p.1 d)then .undef else .fn f cap):=rfl;rw[e];cases hl:cap.any (λp=>Nat.beq p.1 d)with
  |true=>trivial
  | false=>
   obtain⟨vs,e,Q,h⟩:=h
   refine⟨vs,e,Q,λj p D=>?_⟩
   obtain⟨b,off,e2,h2⟩:=h j p D;have E:p.1≠d:=by
    rintro rfl;have:=kK.1 hl p (ga D);simp at this
   exact⟨b,off,(I _ E).trans e2,h2⟩
def eM.mb{r:Nat}(E:r≠d){x:aZ}(h:eM w B ah ρ r x)(I:va w w' ah aE d)(U:∀ b k,ah b=some k->b<w.heap.size)(O:∀ r,r≠d->ρ' r=ρ r):eM w' B aE ρ' r (x.drop d):=by
 have Z:¬ [d] <:+ [r]:=TV (λe=>E e.symm);cases h with
 | aB b off cells e cs us J hl Q hs Y=>
  have hb:b<w.heap.size:=(gd.1 Q).1;have T:ah b≠some [d]:=by
   rw[hl];intro e;injection e with e;injection e with e;exact E e
  refine .aB b off cells e _ us ((O r E).trans J) ((I.wG b hb).trans hl) ((I.block b hb T).trans Q) (by rw[dh];exact hs) (λj x C=>?_)
  rw[dw]at C;cases D:cs[j]? with
  |none=>rw[D]at C;cases C
  | some y=>
   rw[D]at C;injection C with C;subst C;exact⟨(Y j y D).1,(Y j y D).2.mb I U O⟩
 |sl v y J hr1=>exact .sl v y ((O r E).trans J) (hr1.mb I (.inl Z))
 | mp b c es l J hl Q he=>
  have hb:b<w.heap.size:=(gd.1 Q).1;have T:ah b≠some [d]:=by
   rw[hl];intro e;injection e with e;injection e with e;exact E e
  exact .mp b c es l ((O r E).trans J) ((I.wG b hb).trans hl) ((I.block b hb T).trans Q) he
 | gh us xs J C=>
  refine .gh us _ ((O r E).trans J) (λj x L=>?_)
  rw[dw]at L;cases D:xs[j]? with
  |none=>rw[D]at L;cases L
  | some y=>
   rw[D]at L;injection L with L;subst L;exact(C j y D).mb I U O
def Rl.yU{x:aZ}(h:Rl w0 N ah ρ σ a w)(O:w0.F d=none)(hb:jl w0 w w')(E:va w w' ah aE d)(Q:∀ b k,w.heap.size<=b->aE b=some k->b<w'.heap.size/\k≠[])(I:∀ r,r≠d->ρ' r=ρ r)(T:eM w' w0.heap.size aE ρ' d x):
  Rl w0 N aE ρ' ((σ.drop d).root d x) a w':=by
 have L:∀b k,ah b=some k->b<w.heap.size:=λb k hb=>(h.cX b k hb).2.1
 refine⟨h.below.trans hb,λb k J=>?_,λr y C=>?_,λk=>(h.tmp k).mb E L I,h.size,h.defers,λr U D=>(I r (by rintro rfl;rw[O]at D;cases D)).trans (h.fix r U D),h.di⟩
 ·rcases Nat.lt_or_ge b w.heap.size with Y | nK
  ·rw[E.wG b Y]at J;have:=h.cX b k J;exact⟨this.1,kI this.2.1 E.size,this.2.2⟩
  ·have:=Q b k nK J;exact⟨.inl (Nat.le_trans h.below.size nK),this.1,this.2⟩
 ·by_cases D:r=d
  ·subst D;have C:(bV (σ.drop r).m r (some x)) r=some y:=C;rw[cg]at C;injection C with C;subst C;exact T
  ·have C:(bV (σ.drop d).m d (some x)) r=some y:=C;rw[cF _ _ _ D]at C;have hb:Nat.beq r d=false:=by
    cases hb:Nat.beq r d with
    |false=>rfl
    |true=>exact absurd (ck hb) D
   simp only[S.drop,hb,aq]at C;cases hm:σ.m r with
   |none=>rw[hm]at C;cases C
   | some z=>
    rw[hm]at C;injection C with C;subst C;exact(h.root r z hm).mb D E L I
end
def ia(q:Nat)(nk k:aa Nat):aa Nat:=bif bL q k then k.dropLast++nk else k
def bG.ia(ah:bG)(q:Nat)(nk:aa Nat):bG:=λb=>(ah b).map (Proofs.YtglnbhiaknohlaaGreat.ia q nk)
section
variable {P:Program} {w w':World} {w0:Wd} {B N:Nat} {ah aE:bG} {ρ ρ':Nat->Loc} {σ:S} {a:Act} {X:Type} {d q:Nat} {nk:aa Nat}
def aaA:ia q nk [q]=nk:=by simp[ia,bL]
def ame{k:aa Nat}(h:bL q k=false):ia q nk k=k:=by simp[ia,h]
def amf{j i s:Nat}{k:aa Nat}(C:k≠[]):ia q nk (j :: i :: s :: k)=j :: i :: s :: ia q nk k:=by
 unfold ia;rw[MZ C];cases bL q k with
 |false=>rfl
 | true=>
  cases k with
  |nil=>exact absurd rfl C
  |cons x k=>simp
def aaB{k:aa Nat}(C:nk≠[])(D:k≠[]):ia q nk k≠[]:=by
 unfold ia;cases bL q k with
 |false=>simpa using D
 |true=>simp[C]
def bG.T7{b:Nat}(h:ah b=none):ah.ia q nk b=none:=by simp[bG.ia,h]
def bG.aaC{b:Nat}{k:aa Nat}(h:ah b=some k):ah.ia q nk b=some (Proofs.YtglnbhiaknohlaaGreat.ia q nk k):=by simp[bG.ia,h]
def bG.aaD{b:Nat}{k:aa Nat}(h:ah b=some k)(C:bL q k=false):ah.ia q nk b=some k:=by rw[bG.aaC h,ame C]
def RV.ia{k:aa Nat}{x:V}{v:Value}(h:RV w B ah k x v)(I:∀ b,ah b≠some []):RV w B (ah.ia q nk) (Proofs.YtglnbhiaknohlaaGreat.ia q nk k) x v:=by
 induction h with
 |int=>exact .int _ _ _
 |bool=>exact .bool _ _
 |str=>exact .str _ _
 |nil=>exact .nil _
 |cS=>exact .cS _ _ _
 |cW=>exact .cW _ _ _ _ _ (by first|assumption|omega)
 |de=>exact .de _ _ _ _ _ (by first|assumption|omega)
 | aF k t o J l b off cap u L hl hb O Q C T D=>
  exact .aF _ _ _ _ _ _ _ _ u L (bG.T7 hl) hb O Q C (λi h j x E=>D i h j x E)
 | own k t o J l b cap cs u hl U Y Z hm C T D=>
  have hk:k≠[]:=by rintro rfl;exact I b hl
  refine .own _ _ _ _ _ _ _ cs u (bG.aaC hl) U Y Z hm C (λi h j x E=>?_)
  have:=D i h j x E;rw[amf hk]at this;exact this
structure Rel (q:Nat) (ah aE:bG):Prop where
 ne:∀b,ah b≠some []
 none:∀b,ah b=none->aE b=Option.none
 gk:∀b k,ah b=some k->bL q k=false->aE b=some k
def G2(C:∀b,ah b≠some []):Rel q ah (ah.ia q nk):=⟨C,λ_ h=>bG.T7 h,λ_ _ h D=>bG.aaD h D⟩
def RV.rel(D:Rel q ah aE){k:aa Nat}{x:V}{v:Value}(h:RV w B ah k x v)(hk:bL q k=false\/x.aF=true):RV w B aE k x v:=by
 induction h with
 |int=>exact .int _ _ _
 |bool=>exact .bool _ _
 |str=>exact .str _ _
 |nil=>exact .nil _
 |cS=>exact .cS _ _ _
 |cW=>exact .cW _ _ _ _ _ (by first|assumption|omega)
 |de=>exact .de _ _ _ _ _ (by first|assumption|omega)
 | aF k t o O l b off cap u J hl hb Q T E U I=>
  exact .aF _ _ _ _ _ _ _ _ u J (D.none _ hl) hb Q T E (λi h j x C=>I i h j x C (.inr (jM t o l[i] J j x C)))
 | own k t o O l b cap cs u hl Y Z hn hm E U I=>
  have L:bL q k=false:=by
   rcases hk with hk|hk
   ·exact hk
   ·simp[V.aF]at hk;omega
  refine .own _ _ _ _ _ _ _ cs u (D.gk _ _ hl L) Y Z hn hm E (λi h j x C=>I i h j x C ?_)
  cases k with
  |nil=>exact absurd hl (D.ne b)
  |cons z k=>exact .inl (by rw[MZ (by simp)];exact L)
def T8(C:Rel q ah aE):∀ (k:aa Nat) (ad:Addr),bL q k=false->addrAt w ah ρ k=some ad->addrAt w aE ρ k=some ad
 |[],_,_,h=>h
 |[_],_,_,h=>h
 |[_,_],_,_,h=>h
 |[_,_,_],_,_,h=>by simp only[addrAt]at h ⊢;exact h
 | [j,i,s,r],_,D,h=>by
  have J:bL q [r]=false:=by simpa [bL]using D
  simp only[addrAt]at h ⊢;split at h
  ·rename_i v b n c e;split at h
   next hl=>rw[br (C.gk _ _ hl J)];exact h
   ·cases h
  ·cases h
 | j :: i :: s :: x :: y :: k,ad,D,h=>by
  have I:bL q (x::y::k)=false:=by simpa [bL]using D
  simp only[addrAt]at h ⊢;cases E:addrAt w ah ρ (x::y::k)with
  |none=>rw[E]at h;cases h
  | some L=>
   rw[T8 C _ _ I E];rw[E]at h;split at h
   ·rename_i v b n c e;split at h
    next hl=>rw[br (C.gk _ _ hl I)];exact h
    ·cases h
   ·cases h
def T9(E:Rel q ah aE)(k:aa Nat)(u:Value)(C:bL q k=false)(h:cH w ah ρ k=some u):cH w aE ρ k=some u:=by
 match k,C,h with
 |[],_,h=>simp[cH,addrAt]at h
 |[r],_,h=>exact h
 | x :: y :: k,C,h=>
  simp only[cH]at h ⊢;cases D:addrAt w ah ρ (x::y::k)with
  |none=>rw[D]at h;cases h
  | some ad=>
   rw[T8 E _ _ C D];rw[D]at h;exact h
def dy.rel(C:Rel q ah aE){x:Lf}{u:Value}(h:dy w B ah ρ x u):dy w B aE ρ (x.drop q) u:=by
 cases x with
 |v x=>exact⟨h.1,h.2.rel C (.inr h.1)⟩
 |dead=>trivial
 | own k=>
  have e:Lf.drop q (.own k)=(bif bL q k then .dead else .own k):=rfl;rw[e];cases hl:bL q k with
  |true=>trivial
  |false=>exact⟨h.1,T9 C k u hl h.2⟩
def dU.rel(E:Rel q ah aE){cs:aa Lf}{us:Array Value}(h:dU w B ah ρ cs us):dU w B aE ρ (cs.map (Lf.drop q)) us:=by
 refine⟨by rw[dh];exact h.1,λj x C=>?_⟩
 rw[dw]at C;cases D:cs[j]? with
 |none=>rw[D]at C;cases C
 | some y=>
  rw[D]at C;injection C with C;subst C;obtain⟨u,I,r⟩:=h.2 j y D;exact⟨u,I,r.rel E⟩
def RP.rel(C:Rel q ah aE){p:Bool×aa Lf}{u:Value}(h:RP w B ah ρ p u):RP w B aE ρ (p.1,p.2.map (Lf.drop q)) u:=by
 obtain⟨b,cs⟩:=p;cases b with
 |true=>obtain⟨us,e,h⟩:=h;exact⟨us,e,h.rel C⟩
 |false=>exact dU.rel C h
def RA.rel(C:Rel q ah aE){x:A}{u:Value}(h:RA w B ah ρ x u):RA w B aE ρ (x.drop q) u:=by
 cases x with
 |undef=>trivial
 |skip=>exact h
 |lf x=>exact dy.rel C h
 |agg cs=>exact RP.rel C (p:=(true,cs)) h
 | cQ xs=>
  obtain⟨us,e,Q,h⟩:=h
  refine⟨us,e,by rw[dh];exact Q,λj p D=>?_⟩
  rw[dw]at D;cases J:xs[j]? with
  |none=>rw[J]at D;cases D
  | some y=>
   rw[J]at D;injection D with D;subst D;obtain⟨v,E,r⟩:=h j y J;exact⟨v,E,r.rel C⟩
 | ptr k=>
  have e:A.drop q (.ptr k)=(bif bL q k then .undef else .ptr k):=rfl;rw[e];cases hl:bL q k with
  |true=>trivial
  |false=>obtain⟨ad,e,h⟩:=h;exact⟨ad,e,T8 C k ad hl h⟩
 | view k s i j=>
  have e:A.drop q (.view k s i j)=(bif bL q k then .undef else .view k s i j):=rfl;rw[e];cases hl:bL q k with
  |true=>trivial
  |false=>obtain⟨A,n,c,h,r⟩:=h;exact⟨A,n,c,T9 C k _ hl h,r⟩
 | aG r j=>
  have e:A.drop q (.aG r j)=(bif Nat.beq r q then .undef else .aG r j):=rfl;rw[e];cases hl:Nat.beq r q with
  |true=>trivial
  |false=>exact h
 | pk r n=>
  have e:A.drop q (.pk r n)=(bif Nat.beq r q then .undef else .pk r n):=rfl;rw[e];cases hl:Nat.beq r q with
  |true=>trivial
  |false=>exact h
 | hJ cs=>
  obtain⟨b,off,e,hb,hl,h⟩:=h
  refine⟨b,off,e,hb,C.none _ hl,λj x L=>?_⟩
  obtain⟨I,v,E,O⟩:=h j x L;exact⟨I,v,E,O.rel C (.inr I)⟩
 | kO f cs=>
  obtain⟨pv,T,h⟩:=h;refine⟨pv,T,?_⟩;obtain⟨b,off,e,hb,hl,h⟩:=h
  refine⟨b,off,e,hb,C.none _ hl,λj x L=>?_⟩
  obtain⟨I,v,E,O⟩:=h j x L;exact⟨I,v,E,O.rel C (.inr I)⟩
 | fn f cap=>
  have e:A.drop q (.fn f cap)=(bif cap.any (λp=>Nat.beq p.1 q)then .undef else .fn f cap):=rfl;rw[e];cases hl:cap.any (λp=>Nat.beq p.1 q)with
  |true=>trivial
  |false=>exact h
def eM.rel(J:Rel q ah aE){r:Nat}(T:r≠q){x:aZ}(h:eM w B ah ρ r x):eM w B aE ρ r (x.drop q):=by
 have L:bL q [r]=false:=by simpa [bL]using λe=>T e
 cases h with
 | aB b off cells e cs us E hl O U Q=>
  refine .aB b off cells e _ us E (J.gk _ _ hl L) O (by rw[dh];exact U) (λj x C=>?_)
  rw[dw]at C;cases D:cs[j]? with
  |none=>rw[D]at C;cases C
  | some y=>
   rw[D]at C;injection C with C;subst C;exact⟨(Q j y D).1,(Q j y D).2.rel J⟩
 |sl v y E Y=>exact .sl v y E (Y.rel J (.inl L))
 |mp b c Z l E hl O he=>exact .mp b c Z l E (J.gk _ _ hl L) O he
 | gh us xs E C=>
  refine .gh us _ E (λj x I=>?_)
  rw[dw]at I;cases D:xs[j]? with
  |none=>rw[D]at I;cases I
  | some y=>
   rw[D]at I;injection I with I;subst I;exact(C j y D).rel J
def Rl.wH(h:Rl w0 N ah ρ σ a w):∀b,ah b≠some []:=λb hb=>(h.cX b [] hb).2.2 rfl
def Rl.rel(h:Rl w0 N ah ρ σ a w)(I:Rel q ah aE)(J:∀ b k,aE b=some k->(∃ D,ah b=some D)/\k≠[]):Rl w0 N aE ρ (σ.drop q) a w:=by
 refine⟨h.below,λb k L=>?_,λr x C=>?_,λk=>(h.tmp k).rel I,h.size,h.defers,h.fix,h.di⟩
 ·obtain⟨⟨D,hl⟩,O⟩:=J b k L;have:=h.cX b D hl;exact⟨this.1,this.2.1,O⟩
 ·have C:(bif Nat.beq r q then none else (σ.m r).map (aZ.drop q))=some x:=C;cases hb:Nat.beq r q with
  |true=>rw[hb]at C;cases C
  | false=>
   rw[hb,aq]at C;have Q:r≠q:=by rintro rfl;simp at hb
   cases E:σ.m r with
   |none=>rw[E]at C;cases C
   | some y=>
    rw[E]at C;injection C with C;subst C;exact(h.root r y E).rel I Q
def Rl.amg{z:V}(h:Rl w0 N ah ρ σ a w)(J:σ.m q=some (.sl z))(L:nk≠[]):∃ u,ρ q = .dI u/\Rl w0 N (ah.ia q nk) ρ (σ.drop q) a w/\RV w w0.heap.size (ah.ia q nk) nk z u:=by
 have E:=h.wH;have I:=h.root q _ J;generalize D:aZ.sl z=x at I;cases I with
 |aB=>cases D
 |mp=>cases D
 |gh=>cases D
 | sl u y O Q=>
  injection D with D;subst D
  refine⟨u,O,h.rel (G2 E) λb k C=>?_,?_⟩
  ·unfold bG.ia at C;cases hl:ah b with
   |none=>rw[hl]at C;cases C
   | some T=>
    rw[hl]at C;injection C with C;subst C;exact⟨⟨T,rfl⟩,aaB L (λe=>E b (by rw[hl,e]))⟩
  ·have:=Q.ia (q:=q) (nk:=nk) E
   rwa [aaA]at this
def ic(r:Nat)(key:Nat->aa Nat):Nat->Nat->aa Lf->S->aj (aa V×S)
 |_,_,[],σ=>some ([],σ)
 |f+1,j,.v x::xs,σ=>(ic r key f (j+1) xs σ).map λp=>(x::p.1,p.2)
 | f+1,j,.own [q] :: xs,σ=>match σ.m q with
  |some (.sl z)=>bif Nat.beq q r then none else (ic r key f (j+1) (xs.map (Lf.drop q)) (σ.drop q)).map λp=>(z::p.1,p.2)
  |_=>none
 |_,_,_,_=>none
def M0{r:Nat}{key:Nat->aa Nat}(Q:∀ j,bL r (key j)=true):∀ (f j:Nat) (xs:aa Lf) (σ E:S) (I:aa V),ic r key f j xs σ=some (I,E)->∀ ah ρ a w,Rl w0 N ah ρ σ a w->∀ us:aa Value,dU w w0.heap.size ah ρ xs us.toArray->
  ∃ aE,Rl w0 N aE ρ E a w/\I.length=xs.length/\(∀ (n:Nat) x,I[n]?=some x->∃ u,us[n]?=some u/\RV w w0.heap.size aE (key (j+n)) x u)/\(∀ k x v,bL r k=true->RV w w0.heap.size ah k x v->RV w w0.heap.size aE k x v)/\
   (∀x,σ.m r=some (.sl x)->E.m r=some (.sl x))/\(∀k u,bL r k=true->cH w ah ρ k=some u->cH w aE ρ k=some u)/\(∀b,ah b=some [r]->aE b=some [r])/\(∀b,ah b=none->aE b=none)
 | 0,j,[],σ,E,I,h,ah,ρ,a,w,hR,us,J=>by
  simp only[ic,iy,Prod.mk.injEq]at h;obtain⟨rfl,rfl⟩:=h;exact⟨ah,hR,rfl,by simp,λ_ _ _ _ h=>h,λ_ h=>h,λ_ _ _ h=>h,λ_ h=>h,λ_ h=>h⟩
 | f+1,j,[],σ,E,I,h,ah,ρ,a,w,hR,us,J=>by
  simp only[ic,iy,Prod.mk.injEq]at h;obtain⟨rfl,rfl⟩:=h;exact⟨ah,hR,rfl,by simp,λ_ _ _ _ h=>h,λ_ h=>h,λ_ _ _ h=>h,λ_ h=>h,λ_ h=>h⟩
 |0,j,x::xs,σ,E,I,h,ah,ρ,a,w,hR,us,J=>by simp[ic]at h
 | f+1,j,x :: xs,σ,E,I,h,ah,ρ,a,w,hR,us,J=>by
  obtain⟨O,us,rfl⟩:∃ O M1,us=O :: M1:=by
   cases us with
   |nil=>have:=J.1;simp at this
   |cons O us=>exact⟨_,_,rfl⟩
  have T:dy w w0.heap.size ah ρ x O:=by
   obtain⟨u,e,h⟩:=J.2 0 x rfl;simp at e;subst e;exact h
  have mR:dU w w0.heap.size ah ρ xs us.toArray:=⟨by have:=J.1;simpa using this,λn y C=>by
   obtain⟨u,e,h⟩:=J.2 (n+1) y C;exact⟨u,by simpa using e,h⟩⟩
  cases x with
  | v x=>
   simp only[ic,Option.map_eq_some_iff]at h;obtain⟨⟨Z,ov⟩,h,e⟩:=h;simp only[Prod.mk.injEq]at e;obtain⟨rfl,rfl⟩:=e;obtain⟨aE,U,Y,h3,D,h5⟩:=M0 Q f (j+1) xs σ ov Z h ah ρ a w hR us mR
   refine⟨aE,U,by simp[Y],λn y C=>?_,D,h5⟩
   cases n with
   | zero=>
    simp at C;subst C;refine⟨O,rfl,D _ _ _ (Q _) (T.2.key T.1)⟩
   | succ n=>
    obtain⟨u,e,h⟩:=h3 n y (by simpa using C);exact⟨u,by simpa using e,by rw[show j+(n+1)=j+1+n by omega];exact h⟩
  |dead=>simp[ic]at h
  | own k=>
   match k,T,h with
   |[],_,h=>simp[ic]at h
   |_::_::_,_,h=>simp[ic]at h
   | [q],T,h=>
    simp only[ic]at h;split at h
    ·rename_i z hz;cases Ua:Nat.beq q r with
     |true=>rw[Ua]at h;cases h
     | false=>
      rw[Ua,aq,Option.map_eq_some_iff]at h;obtain⟨⟨Z,ov⟩,amh,e⟩:=h;simp only[Prod.mk.injEq]at e;obtain⟨rfl,rfl⟩:=e;have eU:q≠r:=by rintro rfl;simp at Ua
      have hkj:key j≠[]:=by intro e;have:=Q j;rw[e]at this;simp[bL]at this
      obtain⟨u,dz,gM,mS⟩:=hR.amg hz hkj;have G3:u=O:=by
       have D:=T.2;simp only[cH,dz]at D;injection D
      subst G3;have ow:∀ k,bL r k=true->bL q k=false:=by
       intro k L;cases hq:bL q k with
       |false=>rfl
       | true=>
        exfalso;have U:=T5 L;have Y:=T5 hq;exact eU (aar U Y)
      obtain⟨aE,U,Y,h3,D,h5,h6,h7,h8⟩:=M0 Q f (j+1) (xs.map (Lf.drop q)) (σ.drop q) ov Z amh _ ρ a w gM us (mR.rel (G2 hR.wH))
      refine⟨aE,U,by simp[Y],λn y C=>?_,λk x v L hv=>D _ _ _ L (hv.rel (G2 hR.wH) (.inl (ow k L))),λx hx=>h5 x ?_,λk v L hv=>h6 k v L (T9 (G2 hR.wH) k v (ow k L) hv),λb hb=>h7 b (bG.aaD hb (by simpa [bL]using λe=>eU e.symm)),λb hb=>h8 b (bG.T7 hb)⟩
      ·cases n with
       | zero=>
        simp at C;subst C;exact⟨u,rfl,D _ _ _ (Q _) mS⟩
       | succ n=>
        obtain⟨u,e,h⟩:=h3 n y (by simpa using C);exact⟨u,by simpa using e,by rw[show j+(n+1)=j+1+n by omega];exact h⟩
      ·have hb:Nat.beq r q=false:=by
        cases hb:Nat.beq r q with
        |false=>rfl
        |true=>exact absurd (ck hb).symm eU
       simp only[S.drop,hb,aq,hx,jj,aZ.drop]
    ·cases h
end
def iT:Value->Lf
 |.int k n=>.v (.int k n)
 |.bool b=>.v (.bool b)
 |.string s=>.v (.str s)
 |.slice none 0 0=>.v .nil
 |_=>.dead
def zeroV:Value->aj V
 |.int k n=>some (.int k n)
 |.bool b=>some (.bool b)
 |.string s=>some (.str s)
 |.slice none 0 0=>some .nil
 |_=>none
def G4:aa Value->aj (aa V)
 |[]=>some []
 | v :: C=>match zeroV v,G4 C with
  |some x,some xs=>some (x::xs)
  |_,_=>none
def zeroOf(P:Program)(e:TypeId):aj Value:=(P.info? e).bind (·.zero)
def bytesOf(P:Program)(e:TypeId):aj Nat:=(P.info? e).map (·.bytes)
def iC{X:Type}(N:Nat)(σ:S)(d:Nat)(x:aZ)(y:A)(k:S->aj X):aj X:=
 bif Nat.blt d N then k (((σ.drop d).root d x).set d y)else none
def sI{X:Type}(P:Program)(N:Nat)(σ:S)(d:Nat)(e:TypeId)(k:S->aj X):aj X:=
 match zeroOf P e with
 |some z=>iC N σ d (.aB (z.cells.toList.map iT)) (.aG d 0) k
 |none=>none
def vb(P:Program)(t:TypeId):aj (TypeId×TC):=
 match qy P t with
 |none=>none
 | some e=>match aam e,jv P e,bytesOf P e with
  |some C,some n,some b=>bif Nat.beq n (aD C)&&Nat.ble b 65536 then some (e,C)else none
  |_,_,_=>none
def M3(P:Program)(e:TypeId)(C:TC):aj (T C):=
 match zeroOf P e with
 |none=>none
 | some z=>match G4 z.cells.toList with
  |none=>none
  |some D=>dec C (full C) D
def Bc{X:Type}(P:Program)(N:Nat)(σ:S)(d:Nat)(t:TypeId)(l c:A)(k:S->aj X):aj X:=
 match vb P t,l,c with
 | some (e,C),.lf (.v (.int _ n)),.lf (.v (.int _ c))=>match M3 P e C with
  |none=>none
  |some z=>if 0<=n/\n<=c/\c<1073741824 then iC N σ d (.sl (.sl C (full C+2) false (List.replicate n.toNat z))) (.lf (.own [d])) k else none
 |_,_,_=>none
def V.M4(t:TC):V->aj (aa (T t))
 |.sl C _ _ l=>if h:C=t then some (h ▸ l)else none
 |.nil=>some []
 |_=>none
def qB{X:Type}(P:Program)(N:Nat)(σ:S)(d:Nat)(t:TypeId)(x y:A)(k:S->aj X):aj X:=
 match vb P t with
 | some (e,C)=>bif Nat.beq (full C) 0&&(zeroOf P e).any (λz=>Nat.beq z.cells.size (aD C))then qx σ y λD=>(match D.M4 C with
  |none=>none
  | some l2=>match x with
   |.lf (.v .nil)=>bif bD l2.length then iC N σ d (.sl (.sl C 2 false l2)) (.lf (.own [d])) k else none
   | .lf (.own [r])=>(match σ.m r with
    |some (.sl (.sl E (o+2) q l))=>if h:E=C then (bif Nat.blt d N&&(Nat.blt r N ||Nat.ble 60000 r)&&bD (l.length+l2.length)then k (((σ.drop r).root r (.sl (.sl C (o+2) false ((h ▸ l)++l2)))).set d (.lf (.own [r])))else none)else none
    |_=>none)
   |_=>none)else none
 |none=>none
section
variable {P:Program} {w w':World} {w0:Wd} {B N:Nat} {ah aE:bG} {ρ ρ':Nat->Loc} {σ:S} {a:Act} {X:Type} {d:Nat} {r:X} {q:Nat} {o:Oper}
def M5(v:Value):dy w B ah ρ (iT v) v:=by
 unfold iT;split
 ·exact⟨rfl,.int _ _ _⟩
 ·exact⟨rfl,.bool _ _⟩
 ·exact⟨rfl,.str _ _⟩
 ·exact⟨rfl,.nil _⟩
 ·trivial
def aaE{v:Value}{x:V}(h:zeroV v=some x)(q:aa Nat):RV w B ah q x v:=by
 unfold zeroV at h;split at h<;>first|(injection h with h;subst h;first|exact .int _ _ _|exact .bool _ _|exact .str _ _|exact .nil _)|cases h
def Ub:∀ (C:aa Value) (xs:aa V),G4 C=some xs->xs.length=C.length/\∀ (j:Nat) x,xs[j]?=some x->∃ v,C[j]?=some v/\zeroV v=some x
 | [],xs,h=>by
  simp[G4]at h;subst h;simp
 | v :: C,xs,h=>by
  unfold G4 at h;split at h
  ·rename_i y ys E I;injection h with h;subst h;obtain⟨J,L⟩:=Ub C ys I
   refine⟨by simp[J],λj x D=>?_⟩
   cases j with
   |zero=>simp at D;subst D;exact⟨v,rfl,E⟩
   |succ j=>simp at D;simpa using L j x D
  ·cases h
def jl.aaF(w0:Wd)(w:World)(o:Obj)(h:w0.heap.size<=w.heap.size):jl w0 w (w.alloc o):=.of ((Below.refl w0.heap.size w).alloc h o) (eB _)
def Rl.DT{c:Array Value}{e:TypeId}{x:aZ}{ρ':Nat->Loc}(h:Rl w0 N ah ρ σ a w)(D:w0.F d=none)(E:∀ r,r≠d->ρ' r=ρ r)
  (I:eM (w.alloc (.cells c e)) w0.heap.size (bV ah w.heap.size (some [d])) ρ' d x):Rl w0 N (bV ah w.heap.size (some [d])) ρ' ((σ.drop d).root d x) a (w.alloc (.cells c e)):=by
 refine h.yU D (jl.aaF w0 w _ h.below.size) ⟨by simp,λb hb _=>Below.heap_alloc w _ b hb,λb hb=>cF _ _ _ (by omega),λb hb=>(h.cX b [] hb).2.2 rfl⟩ (λb k hb C=>?_) E I
 by_cases e:b=w.heap.size
 ·subst e;rw[cg]at C;injection C with C;subst C;exact⟨by simp,by simp⟩
 ·rw[cF _ _ _ e]at C;have:=(h.cX b k C).2.1;omega
def pL{x:aZ}{y:A}{k:S->aj X}(h:iC N σ d x y k=some r):d<N/\k (((σ.drop d).root d x).set d y)=some r:=by
 unfold iC at h;cases C:Nat.blt d N with
 |false=>rw[C]at h;cases h
 |true=>rw[C]at h;exact⟨by have:=cI C;omega,h⟩
def ami{e:TypeId}{k:S->aj X}(h:sI P N σ d e k=some r):∃ I,k I=some r/\∀ ah ρ a w,Rl w0 N ah ρ σ a w->∃ w' aE ρ' v,(Instr.alloc e true (.tuple #[])).run P w = .ok v w'/\Rl w0 N aE ρ' I (a.put (some d) v) w':=by
 unfold sI at h;split at h
 ·rename_i z D;obtain⟨J,h⟩:=pL h
  refine⟨_,h,λah ρ a w hR=>?_⟩
  have O:(Instr.alloc e true (.tuple #[])).run P w = .ok (.pointer (some ⟨w.heap.size,0,none⟩)) (w.alloc (.cells z.cells e)):=by
   unfold zeroOf at D;cases hi:P.info? e with
   |none=>simp[hi]at D
   | some i=>
    have D:i.zero=some z:=by simpa [hi]using D
    simp[Instr.alloc,zeroValue,typeInfo,hi,D,newVar,newRow]
  refine⟨_,bV ah w.heap.size (some [d]),bV ρ d (.aB w.heap.size 0),_,O,(hR.DT (hR.di d (.inl J)) (λr Q=>cF _ _ _ Q) ?_).set ⟨w.heap.size,0,cg _ _ _,rfl⟩ J⟩
  refine .aB w.heap.size 0 z.cells e _ (λj=>z.cells.getD j undef) (cg _ _ _) (cg _ _ _) (heap_alloc_new w _) (by simp) λj x C=>?_
  rw[dw]at C;cases E:z.cells.toList[j]? with
  |none=>rw[E]at C;cases C
  | some v=>
   rw[E]at C;injection C with C;subst C;have L:z.cells[j]?=some v:=by simpa using E
   have T:z.cells.getD j undef=v:=by rw[iu,L];rfl
   rw[T,fo];exact⟨L,M5 v⟩
 ·cases h
def yV{t e:TypeId}{I:TC}(h:vb P t=some (e,I)):P.underlying t=some (.slice e)/\tid I=e/\∃ i,P.info? e=some i/\i.size=aD I/\i.bytes<=65536:=by
 unfold vb at h;split at h
 ·cases h
 ·rename_i J C;split at h
  ·rename_i L n b O E hb;cases D:(Nat.beq n (aD L)&&Nat.ble b 65536)with
   |false=>rw[D]at h;cases h
   | true=>
    rw[D,ak]at h;injection h with h;injection h with Q T;subst Q T;rw[aM]at D;refine⟨?_,alV O,?_⟩
    ·unfold qy at C;split at C
     next Y U=>injection C with C;subst C;exact U
     ·cases C
    ·unfold jv at E;unfold bytesOf at hb;cases hi:P.info? J with
     |none=>simp[hi]at E
     | some i=>
      simp only[hi,jj,iy]at E hb;refine⟨i,rfl,E.trans (ck D.1),by rw[hb];exact cI D.2⟩
  ·cases h
def aaG(z:Array Value)(n i j:Nat)(C:j<z.size)(h:i*z.size+j<n):(madeCells z n)[i*z.size+j]?=some z[j]:=by
 have D:(i*z.size+j) % z.size=j:=by rw[Nat.add_comm,Nat.add_mul_mod_self_right,Nat.mod_eq_of_lt C]
 simp only[madeCells,Array.getElem?_map,Array.getElem?_range,h,if_true,jj,D];simp[C]
def amj{t:TypeId}{l c:A}{k:S->aj X}(h:Bc P N σ d t l c k=some r):∃ Y,k Y=some r/\∀ ah ρ a w,Rl w0 N ah ρ σ a w->∀ u v,RA w w0.heap.size ah ρ l u->RA w w0.heap.size ah ρ c v->
  ∃w' aE ρ' x,(Instr.makeSlice t u v).run P w = .ok x w'/\Rl w0 N aE ρ' Y (a.put (some d) x) w':=by
 unfold Bc at h;split at h
 ·rename_i e D kl n kc c rE;split at h
  ·cases h
  ·rename_i z E;split at h
   ·rename_i hb;obtain⟨Z,h⟩:=pL h
    refine⟨_,h,λah ρ a w hR u v hu O=>?_⟩
    obtain rfl:=hu.2.gO;obtain rfl:=O.2.gO;obtain⟨iY,ht,i,hi,gx,lI⟩:=yV rE;unfold M3 at E;split at E
    ·cases E
    ·rename_i C DU;split at E
     ·cases E
     ·rename_i vs l9;have pM:i.zero=some C:=by unfold zeroOf at DU;simpa [hi]using DU
      obtain⟨sJ,mc⟩:=Ub _ _ l9;have Q:=l6 D (full D) vs z E;have L:C.cells.size=aD D:=by rw[<-jZ D (full D) z,<-Q.1,sJ];simp
      have SV:(i.bytes:Int)*c<=281474976710656:=by
       have h1:(i.bytes:Int)<=65536:=by omega
       have h2:(i.bytes:Int)*c<=65536*c:=Int.mul_le_mul_of_nonneg_right h1 (by omega);omega
      have ew:=run_make (P:=P) w t e i C iY hi pM kl kc n c hb.1 hb.2.1 SV (by omega);rw[gx,<-L]at ew
      refine⟨_,bV ah w.heap.size (some [d]),bV ρ d (.dI (.slice (some ⟨w.heap.size,0,none⟩) n.toNat c.toNat)),_,ew,(hR.DT (hR.di d (.inl Z)) (λr hr=>cF _ _ _ hr) ?_).set ⟨rfl,?_⟩ Z⟩
      ·refine .sl _ _ (cg _ _ _) ?_;have hlen:(List.replicate n.toNat z).length=n.toNat:=by simp
       have:=RV.own (w:=w.alloc (.cells (madeCells C.cells (c.toNat*C.cells.size)) e)) (B:=w0.heap.size) (ah:=bV ah w.heap.size (some [d])) [d] D (full D) false (List.replicate n.toNat z) w.heap.size c.toNat (madeCells C.cells (c.toNat*C.cells.size)) (λ_ j=>C.cells.getD j undef)
        (cg _ _ _) (by rw[ht];exact heap_alloc_new w _) (by rw[size_madeCells,L]) (by rw[hlen];omega) ⟨by unfold maxLen;omega,λh=>by cases h⟩ (λT h' j x I=>?_) (λT h' j x I=>?_)
       ·rw[hlen]at this;exact this
       ·rw[List.getElem_replicate]at I;have J:j<aD D:=by have:=(dQ.1 I).1;rwa [jZ]at this
        rw[hlen]at h';rw[<-L]at J;rw[<-L,aaG C.cells _ T j J (by
         have:(T+1)*C.cells.size<=c.toNat*C.cells.size:=iN _ (by omega);rw[gH]at this;omega)]
        simp[iu,J]
       ·rw[List.getElem_replicate]at I;have J:j<(enc D (full D) z).length:=(dQ.1 I).1;rw[<-Q.1]at J;have U:=bO J;generalize vs[j]=y at U;obtain⟨v,O,Uc⟩:=mc j y U;have rz:C.cells[j]?=some v:=by simpa using O
        have hg:C.cells.getD j undef=v:=by rw[iu,rz];rfl
        rw[hg];exact(aaE Uc _).wk (Q.2 j y x U I)
      ·simp[cH,cg]
   ·cases h
 ·cases h
def DV(t:TC)(h:full t=0)(o C:Nat)(x:T t):enc t o x=enc t C x:=by
 have key:∀ o,enc t o x=enc t 0 x:=by
  intro o;rw[aan t o x];have:=yQ t o x h
  conv=>lhs;rw[<-List.map_id (enc t o x)]
  apply lX;intro y D;have E:=this y D;cases y<;>first|rfl|cases E
 rw[key o,key C]
def wI(u:Nat->Nat->Value)(n s:Nat):aa Value:=(List.range (n*s)).map λk=>u (k / s) (k % s)
def aaH(u:Nat->Nat->Value)(n s i j:Nat)(hi:i<n)(C:j<s):(wI u n s)[i*s+j]?=some (u i j):=by
 have D:i*s+j<n*s:=by
  have:(i+1)*s<=n*s:=iN _ hi;rw[gH]at this;omega
 have E:(i*s+j) / s=i:=by rw[Nat.add_comm,Nat.add_mul_div_right _ _ (by omega),Nat.div_eq_of_lt C,fo]
 have I:(i*s+j) % s=j:=by rw[Nat.add_comm,Nat.add_mul_mod_self_right,Nat.mod_eq_of_lt C]
 simp[wI,D,E,I]
def M6(u:Nat->Nat->Value)(n s k:Nat)(v:Value)(D:0<s)(h:(wI u n s)[k]?=some v):∃ i j,k=i*s+j/\i<n/\j<s/\v=u i j:=by
 have C:k<n*s:=by
  have:=(dQ.1 h).1
  simpa [wI]using this
 refine⟨k / s,k % s,by rw[Nat.mul_comm];exact(Nat.div_add_mod k s).symm,Nat.div_lt_of_lt_mul (by rw[Nat.mul_comm];exact C),Nat.mod_lt _ D,?_⟩;simp only[wI,dw,List.getElem?_range C,jj,iy]at h;exact h.symm
def Bd(t:TC)(o:Nat)(x:T t)(j:Nat)(C:j<aD t):∃y,(enc t o x)[j]?=some y:=⟨_,bO (by rw[jZ];exact C)⟩
def wJ(t:TC)(l:aa (T t))(C:aa Value):Prop:=
 ∀i (hi:i<l.length) (o j:Nat) x,(enc t o l[i])[j]?=some x->∃v,C[i*aD t+j]?=some v/\v.oneCell'=true/\∀(w':World) (B':Nat) (aE:bG) (D:aa Nat),RV w' B' aE D x v
def RV.reads{q:aa Nat}{t:TC}{g:Nat}{qn:Bool}{l:aa (T t)}{u:Value}(h:RV w B ah q (.sl t g qn l) u)(O:full t=0):
  ∃A c news,u = .slice A l.length c/\Reads w w.heap.size (aD t) A l.length news/\(∀v∈news,v.oneCell'=true)/\wJ t l news:=by
 cases h with
 |cS=>exact⟨none,0,[],rfl,Reads.none_,by simp,λi hi=>by simp at hi⟩
 |cW=>exact⟨_,_,[],rfl,⟨by simp,λh=>by simp at h⟩,by simp,λi hi=>by simp at hi⟩
 |de=>exact⟨_,_,[],rfl,⟨by simp,λh=>by simp at h⟩,by simp,λi hi=>by simp at hi⟩
 | aF _ _ _ _ _ b off cap us ho hl hb h1 pG Q J=>
  have L:∀ i (hi:i<l.length) j,j<aD t->(us i j).oneCell'=true:=by
   intro i hi j C;obtain⟨y,E⟩:=Bd t g l[i] j C;exact(J i hi j y E).one
  refine⟨_,cap,wI us l.length (aD t),rfl,⟨by simp[wI],λY=>⟨b,off,rfl,hb,λk v I=>?_⟩⟩,λv I=>?_,λi hi o j x D=>?_⟩
  ·obtain⟨i,j,rfl,hi,C,rfl⟩:=M6 us _ _ k v (pE t) I;obtain⟨y,E⟩:=Bd t g l[i] j C;exact Q i hi j y E
  ·obtain⟨k,U⟩:=List.mem_iff_getElem?.1 I;obtain⟨i,j,rfl,hi,C,rfl⟩:=M6 us _ _ k v (pE t) U;exact L i hi j C
  ·have C:j<aD t:=by have:=(dQ.1 D).1;rwa [jZ]at this
   rw[DV t O o g]at D
   refine⟨us i j,aaH us _ _ i j hi C,L i hi j C,λw' B' aE q'=>(J i hi j x D).tL (yQ t g l[i] O x (ga D))⟩
 | own _ _ o _ _ b cap cs us hl Z hs Y hm Q J=>
  have L:∀ i (hi:i<l.length) j,j<aD t->(us i j).oneCell'=true:=by
   intro i hi j C;obtain⟨y,E⟩:=Bd t o l[i] j C;exact(J i hi j y E).one
  refine⟨_,cap,wI us l.length (aD t),rfl,⟨by simp[wI],λY=>⟨b,0,rfl,(gd.1 Z).1,λk v I=>?_⟩⟩,λv I=>?_,λi hi o' j x D=>?_⟩
  ·obtain⟨i,j,rfl,hi,C,rfl⟩:=M6 us _ _ k v (pE t) I;obtain⟨y,E⟩:=Bd t o l[i] j C;rw[fo,cell_of_row w b _ cs _ _ Z];exact Q i hi j y E
  ·obtain⟨k,U⟩:=List.mem_iff_getElem?.1 I;obtain⟨i,j,rfl,hi,C,rfl⟩:=M6 us _ _ k v (pE t) U;exact L i hi j C
  ·have C:j<aD t:=by have:=(dQ.1 D).1;rwa [jZ]at this
   rw[DV t O o' o]at D
   refine⟨us i j,aaH us _ _ i j hi C,L i hi j C,λw' B' aE q'=>(J i hi j x D).tL (yQ t o l[i] O x (ga D))⟩
def RV.aaI{q:aa Nat}{t:TC}{o:Nat}{D:Bool}{l:aa (T t)}{u:Value}(h:RV w B ah q (.sl t (o+2) D l) u)(E:full t=0){B':Nat}(hB:∀ b,ah b=some q->B'<=b):
  ∃xs,w.ownsRow B' (tid t) (aD t) u l.length xs/\(∀b,u.ownBlock=some b->ah b=some q)/\(D=true->u.ownBlock≠none)/\wJ t l xs:=by
 cases h with
 |cW=>omega
 |de=>omega
 |cS=>exact⟨[],⟨by simp,.inl ⟨rfl,rfl⟩⟩,by simp[Value.ownBlock],by simp,λi hi=>by simp at hi⟩
 |aF _ _ _ _ _ _ _ _ _ ho=>omega
 | own _ _ _ _ _ b cap cs us hl O I J Q U L=>
  refine⟨cs.toList.take (l.length*aD t),⟨?_,.inr ⟨b,cap,cs,rfl,hB b hl,O,J,Q.1,I,rfl⟩⟩,λY Z=>?_,λ_=>by simp[Value.ownBlock],λi hi o' j x C=>?_⟩
  ·have sK:cs.toList.length=cap*aD t:=by rw[<-I];simp
   rw[fF,sK];have:=iN (aD t) J;omega
  ·have:b=Y:=by simpa [Value.ownBlock]using Z
   subst this;exact hl
  ·have hj:j<aD t:=by have:=(dQ.1 C).1;rwa [jZ]at this
   have dZ:i*aD t+j<l.length*aD t:=by
    have:(i+1)*aD t<=l.length*aD t:=iN _ hi;rw[gH]at this;omega
   rw[DV t E o' o]at C
   refine⟨us i j,?_,(L i hi j x C).one,λw' B' aE q'=>(L i hi j x C).tL (yQ t o l[i] E x (ga C))⟩
   rw[List.getElem?_take,br dZ,oc];exact U i hi j x C
def wJ.append{t:TC}{l l2:aa (T t)}{xs ys:aa Value}(h:wJ t l xs)(I:wJ t l2 ys)(hl:xs.length=l.length*aD t):wJ t (l++l2) (xs++ys):=by
 intro i hi o j x C;have L:j<aD t:=by have:=(dQ.1 C).1;rwa [jZ]at this
 by_cases E:i<l.length
 ·rw[List.getElem_append_left E]at C;obtain⟨v,D,r⟩:=h i E o j x C;refine⟨v,?_,r⟩;rw[List.getElem?_append_left (dQ.1 D).1];exact D
 ·rw[List.getElem_append_right (by omega)]at C;have J:i-l.length<l2.length:=by rw[o8]at hi;omega
  obtain⟨v,D,r⟩:=I (i-l.length) J o j x C;refine⟨v,?_,r⟩;have e:i*aD t+j=xs.length+((i-l.length)*aD t+j):=by
   rw[hl,Nat.sub_mul];have:l.length*aD t<=i*aD t:=iN _ (by omega);omega
  rw[e,List.getElem?_append_right (by omega),Nat.add_sub_cancel_left];exact D
def Ud{q:aa Nat}{t:TC}{o:Nat}{l:aa (T t)}{u:Value}{xs:aa Value}{B':Nat}(h:w.ownsRow B' (tid t) (aD t) u l.length xs)(I:wJ t l xs)(hl:∀ b,u.ownBlock=some b->ah b=some q):
  RV w B ah q (.sl t (o+2) false l) u:=by
 rcases h.2 with ⟨rfl,J⟩|⟨b,cap,cs,rfl,hB,L,O,Q,U,Y⟩
 ·have:l=[]:=List.eq_nil_of_length_eq_zero J;subst this;exact .cS _ _ _
 ·have E:∀ i (hi:i<l.length) j x,(enc t o l[i])[j]?=some x->∃ v,cs[i*aD t+j]?=some v/\∀ (w':World) (B':Nat) (aE:bG) (Z:aa Nat),RV w' B' aE Z x v:=by
   intro i hi j x D;obtain⟨v,C,_,r⟩:=I i hi o j x D;refine⟨v,?_,r⟩;rw[<-Y,List.getElem?_take]at C;split at C
   ·rw[oc]at C;exact C
   ·cases C
  refine .own q t o false l b cap cs (λi j=>(cs[i*aD t+j]?).getD undef) (hl b rfl) L U O ⟨Q,λh=>by cases h⟩ (λi hi j x D=>?_) (λi hi j x D=>?_)
  ·obtain⟨v,C,_⟩:=E i hi j x D;rw[C];rfl
  ·obtain⟨v,C,r⟩:=E i hi j x D;rw[C];exact r _ _ _ _
def Rl.append{t e ty:TypeId}{C:TC}{i:TypeInfo}{z:Value}{rr o g:Nat}{q qn:Bool}{l l2:aa (T C)}{u v:Value}{q':aa Nat}{Bx:Nat}{Ue:bG}(h:Rl w0 N ah ρ σ a w)(hF:w0.F rr=none)(iY:P.underlying t=some (.slice e))(ht:tid C=e)(hi:P.info? e=some i)(hz:i.zero=some z)
  (gx:i.size=aD C) (lI:i.bytes<=65536) (pN:z.cells.size=aD C) (hf:full C=0) (hd:RV w w0.heap.size ah [rr] (.sl C (o+2) q l) u) (hs:RV w Bx Ue q' (.sl C g qn l2) v) (hlen:l.length+l2.length<1073741824):
  ∃D w' aE,(Builtin.append_ #[t,t] ty #[u,v]).run P w = .ok D w'/\Rl w0 N aE (bV ρ rr (.dI D)) ((σ.drop rr).root rr (.sl (.sl C (o+2) false (l++l2)))) a w'/\mQ D=true:=by
 subst ht;obtain⟨xs,yW,O,G5,jm⟩:=hd.aaI hf (B':=0) (λb _=>iO b);obtain⟨A,c,news,rfl,G6,pO,G7⟩:=hs.reads hf;have gz:(l.length+l2.length)*i.bytes<=140737488355328:=by
  have h1:(l.length+l2.length)*i.bytes<=1073741824*65536:=Nat.mul_le_mul (by omega) lI;omega
 obtain⟨D,w',ew,J,I,me⟩:=SS (P:=P) w 0 t ty (tid C) i z (aD C) i.bytes iY hi hz gx rfl pN (pE C) u l.length xs yW _ A l2.length c news G6 pO (by unfold maxLen;omega) gz (iO _);have G8:(l++l2).length=l.length+l2.length:=o8;rw[<-G8]at J;have Be:=jm.append G7 yW.1;have fW:mQ D=true:=by rcases J.2 with ⟨rfl,_⟩|⟨_,_,_,rfl,_⟩<;>rfl
 have Q:Below 0 w w':=(Below.refl 0 w).grown I (iO _) (λ_ _=>iO _);have sL:jl w0 w w':=⟨Q.os,Q.tape,Q.output,Q.size,λk E hL=>I.block k (kI E h.below.size) (λL=>by
  rcases(h.cX k _ (O k L.symm)).1 with h1|h1
  ·exact absurd E (Nat.not_lt.2 h1)
  ·exact h1 hL)⟩
 by_cases U:D.ownBlock=some w.heap.size
 ·have dZ:w.heap.size<w'.heap.size:=by
   rcases J.2 with ⟨rfl,_⟩|⟨b,cap,cs,rfl,_,hh,_⟩
   ·cases U
   ·have:b=w.heap.size:=by simpa [Value.ownBlock]using U
    subst this;exact(gd.1 hh).1
  refine⟨D,w',bV ah w.heap.size (some [rr]),ew,h.yU hF sL ⟨I.size,λb hb Y=>I.block b hb (λL=>Y (O b L.symm)),λb hb=>cF _ _ _ (by omega),λb hb=>(h.cX b [] hb).2.2 rfl⟩ (λb k hb E=>?_) (λr Z=>cF _ _ _ Z) (.sl D _ (cg _ _ _) (Ud J Be (λb hb=>?_))),fW⟩
  ·by_cases e:b=w.heap.size
   ·subst e;rw[cg]at E;injection E with E;subst E;exact⟨dZ,by simp⟩
   ·rw[cF _ _ _ e]at E;have:=(h.cX b k E).2.1;omega
  ·rw[U]at hb;injection hb with hb;subst hb;exact cg _ _ _
 ·have Uf:D.ownBlock=u.ownBlock:=by
   rcases me with me|me
   ·exact me
   ·exact absurd me U
  refine⟨D,w',ah,ew,h.yU hF sL ⟨I.size,λb hb Y=>I.block b hb (λL=>Y (O b L.symm)),λ_ _=>rfl,λb hb=>(h.cX b [] hb).2.2 rfl⟩ (λb k hb E=>?_) (λr Z=>cF _ _ _ Z) (.sl D _ (cg _ _ _) (Ud J Be (λb hb=>O b (by rw[<-Uf];exact hb)))),fW⟩
  have:=(h.cX b k E).2.1;omega
def Ug{t:TC}{x:V}{l:aa (T t)}(h:x.M4 t=some l){q:aa Nat}{u:Value}(D:RV w B ah q x u):∃ g C,RV w B ah q (.sl t g C l) u:=by
 unfold V.M4 at h;split at h
 ·rename_i I g C J;split at h
  next E=>subst E;injection h with h;subst h;exact⟨g,C,D⟩
  ·cases h
 ·injection h with h;subst h;cases D;exact⟨0,false,.cS _ _ _⟩
 ·cases h
def Uh{x:Lf}{k:V->aj X}(h:iS σ x k=some r):∃ y,(∀ ah ρ a w,Rl w0 N ah ρ σ a w->∀ u,dy w w0.heap.size ah ρ x u->∃ q,RV w w0.heap.size ah q y u)/\k y=some r:=by
 cases x with
 |v z=>exact⟨z,λah ρ a w _ u D=>⟨[],D.2⟩,h⟩
 |dead=>cases h
 | own q=>
  obtain⟨z,E,h⟩:=sF q _ h
  refine⟨z,λah ρ a w hR u D=>?_,h⟩
  obtain⟨v,I,J⟩:=E.ok hR.root;have C:=D.2;rw[I]at C;injection C with C;subst C;exact⟨q,J⟩
def aaJ{y:A}{k:V->aj X}(h:qx σ y k=some r):∃ z,(∀ ah ρ a w,Rl w0 N ah ρ σ a w->∀ u,RA w w0.heap.size ah ρ y u->∃ q B' aE,RV w B' aE q z u)/\k z=some r:=by
 unfold qx at h;split at h
 ·obtain⟨z,C,D⟩:=Uh (w0:=w0) (N:=N) h;exact⟨z,λah ρ a w hR u E=>let ⟨q,I⟩:=C ah ρ a w hR u E;⟨q,_,_,I⟩,D⟩
 ·obtain⟨z,D,_,C⟩:=aau h;exact⟨z,λah ρ a w hR u E=>⟨[],0,_,C _ _ _ _ _ _ hR u E 0⟩,D⟩
 ·cases h
def amk{t ty:TypeId}{x y:A}{k:S->aj X}(h:qB P N σ d t x y k=some r):∃ dV,k dV=some r/\∀ ah ρ a w,Rl w0 N ah ρ σ a w->∀ u v,RA w w0.heap.size ah ρ x u->RA w w0.heap.size ah ρ y v->
  ∃w' aE ρ' z,(Builtin.append_ #[t,t] ty #[u,v]).run P w = .ok z w'/\Rl w0 N aE ρ' dV (a.put (some d) z) w':=by
 unfold qB at h;split at h
 ·rename_i e tc rE;obtain⟨iY,ht,i,hi,gx,lI⟩:=yV rE;cases J:(Nat.beq (full tc) 0&&(zeroOf P e).any (λz=>Nat.beq z.cells.size (aD tc)))with
  |false=>rw[J]at h;cases h
  | true=>
   rw[J,ak]at h;rw[aM]at J;have hf:=ck J.1;obtain⟨z,hz,O⟩:=(Option.any_eq_true _ _).1 J.2;have O:=ck O;have pM:i.zero=some z:=by unfold zeroOf at hz;simpa [hi]using hz
   obtain⟨yv,M7,C⟩:=aaJ (w0:=w0) (N:=N) h;clear h;split at C
   ·cases C
   ·rename_i l2 mc;split at C
    ·cases D:bD l2.length with
     |false=>rw[D]at C;cases C
     | true=>
      rw[D,ak]at C;have D:l2.length<1073741824:=by simpa [bD]using D
      obtain⟨Q,h3⟩:=pL C
      refine⟨_,h3,λah ρ a w hR u v L T=>?_⟩
      have L:u = .slice none 0 0:=by cases L.2;rfl
      subst L;obtain⟨q',_,_,E⟩:=M7 ah ρ a w hR v T;obtain⟨g,qn,E⟩:=Ug mc E;obtain⟨U,w',aE,Y,Z,fW⟩:=hR.append (ty:=ty) (rr:=d) (o:=0) (q:=false) (l:=[]) (hR.di d (.inl Q)) iY ht hi pM gx lI O hf (.cS _ _ _) E (by simpa using D);exact⟨w',aE,_,U,Y,Z.set ⟨fW,by simp[cH,cg]⟩ Q⟩
    ·rename_i rr;split at C
     ·rename_i t' o q l hm;split at C
      ·rename_i mg;subst mg;cases D:(Nat.blt d N&&(Nat.blt rr N || Nat.ble 60000 rr)&&bD (l.length+l2.length))with
       |false=>rw[D]at C;cases C
       | true=>
        rw[D,ak]at C;rw[aM,aM,ei]at D;have G9:l.length+l2.length<1073741824:=by simpa [bD]using D.2
        have Q:d<N:=by have:=cI D.1.1;omega
        have rA:rr<N\/60000<=rr:=D.1.2.imp (λh=>by have:=cI h;omega) (λh=>cI h)
        refine⟨_,C,λah ρ a w hR u v L T=>?_⟩
        obtain⟨q',_,_,E⟩:=M7 ah ρ a w hR v T;obtain⟨g,qn,E⟩:=Ug mc E;have gP:=hR.root rr _ hm;generalize I:aZ.sl (.sl t' (o+2) q l)=x at gP;cases gP with
        |aB=>cases I
        |mp=>cases I
        |gh=>cases I
        | sl uu y dz hr=>
         injection I with I;subst I;have G3:uu=u:=by
          have h4:=L.2;simp only[cH,dz]at h4;injection h4
         subst G3;obtain⟨U,w',aE,Y,Z,fW⟩:=hR.append (ty:=ty) (hR.di rr rA) iY ht hi pM gx lI O hf hr E G9;exact⟨w',aE,_,U,Y,Z.set ⟨fW,by simp[cH,cg]⟩ Q⟩
      ·cases C
     ·cases C
    ·cases C
 ·cases h
def Rl.aaK{t:TC}{g p:Nat}{U:Bool}{l ys:aa (T t)}{news:aa Value}(h:Rl w0 N ah ρ σ a w)(hm:σ.m q=some (.sl (.sl t (g+2) U l)))(hf:full t=0)(hp:p+ys.length<=l.length)(ow:0<l.length)(jm:wJ t ys news)(rF:news.length=ys.length*aD t):
  ∃ b cap,ρ q = .dI (.slice (some ⟨b,0,none⟩) l.length cap)/\l.length<=cap/\(∀ n,n<news.length->(w.cell? ⟨b,p*aD t+n,none⟩).isSome=true/\w.frozen? ⟨b,p*aD t+n,none⟩=false)/\
   Rl w0 N ah ρ ⟨σ.t,bV σ.m q (some (.sl (.sl t (g+2) U (splice l p ys))))⟩ a (w.setCells b (p*aD t) news):=by
 have gP:=h.root q _ hm;generalize L:aZ.sl (.sl t (g+2) U l)=x at gP;cases gP with
 |aB=>cases L
 |mp=>cases L
 |gh=>cases L
 | sl v y dz mh=>
  injection L with L;subst L;cases mh with
  |cS=>exact absurd ow (Nat.lt_irrefl 0)
  |cW=>exact absurd ow (Nat.lt_irrefl 0)
  |de=>exact absurd ow (Nat.lt_irrefl 0)
  |aF _ _ _ _ _ _ _ _ _ ho=>omega
  | own _ _ _ _ _ b cap cs u qA Y hs hn sD hc Z=>
   have A6:(p+ys.length)*aD t<=cap*aD t:=iN _ (by omega);rw[Nat.add_mul]at A6;have l7:p*aD t+news.length<=cs.size:=by rw[rF,hs];exact A6
   have hW:=MS w b (p*aD t) news;obtain⟨I,gz,nL⟩:=Gi b (tid t) news (p*aD t) w cs Y l7;have tM:∀ n,I[n]?=if n<p*aD t then cs[n]? else if n<p*aD t+news.length then news[n-p*aD t]? else cs[n]?:=by
    intro n;have e2:I[n]?=(splice cs.toList (p*aD t) news)[n]?:=by
     rw[show I[n]?=I.toList[n]? by simp,nL];rfl
    rw[e2,wB _ _ _ (by simpa using l7)];simp
   have GY:I.size=cs.size:=by
    rw[<-lW,nL];have:=sB cs.toList (p*aD t) news (by simpa using l7);simp only[splice]at this;rw[this];simp
   have tO:=pE t;have hC:ru w (w.setCells b (p*aD t) news) ah ρ:=by
    intro k ad v ha E fW;by_cases eU:ad.block=b
    ·obtain⟨D,C,s',q',rfl,TX,al2,uW,_⟩:=wA k ad ha;have sE:ad=⟨b,ad.off,none⟩:=by cases ad;simp_all
     rw[sE,cell_of_row w b _ cs _ _ Y]at E;rw[sE,cell_of_row _ b _ I _ _ gz,tM];by_cases O:ad.off<p*aD t
     ·rw[br O];exact E
     ·by_cases h2:ad.off<p*aD t+news.length
      ·exfalso;have hk:ad.off=(ad.off / aD t)*aD t+ad.off % aD t:=by rw[Nat.mul_comm];exact(Nat.div_add_mod _ _).symm
       have dZ:ad.off<l.length*aD t:=by
        have:(p+ys.length)*aD t<=l.length*aD t:=iN _ hp;rw[Nat.add_mul]at this;omega
       have hi:ad.off / aD t<l.length:=Nat.div_lt_of_lt_mul (by rw[Nat.mul_comm];exact dZ);obtain⟨y,hy⟩:=Bd t g l[ad.off / aD t] (ad.off % aD t) (Nat.mod_lt _ tO);have h3:=hc _ hi _ y hy;rw[<-hk,E]at h3;injection h3 with h3;have:=(Z _ hi _ y hy).aas (yQ t g _ hf y (ga hy));rw[<-h3,fW]at this;cases this
      ·rw[bE O,bE h2];exact E
    ·exact(kJ (hW.block _ eU)).trans E
   have A5:cH w ah ρ [q]=some (.slice (some ⟨b,0,none⟩) l.length cap):=by simp only[cH,dz]
   refine⟨b,cap,dz,hn,λn wD=>⟨?_,frozen_of_row w b _ cs _ Y⟩,h.wrote hW qA hC ((yR.root q _ _ hm).ok h.root hW qA (List.suffix_refl _) hC A5 ?_)⟩
   ·rw[cell_of_row w b _ cs _ _ Y];simp;omega
   ·have hlen:(splice l p ys).length=l.length:=sB l p ys hp;have key:∀ C (h:C<(splice l p ys).length) (D:Nat) x,(enc t g (splice l p ys)[C])[D]?=some x->∃ v,I[C*aD t+D]?=some v/\RV (w.setCells b (p*aD t) news) w0.heap.size ah (D :: C :: aD t :: [q]) x v:=by
     intro C h' D x Q;have sC:D<aD t:=by have:=(dQ.1 Q).1;rwa [jZ]at this
     have J:=bO h';generalize (splice l p ys)[C]=e at J Q;rw[wB l p ys hp]at J;have uX:=yQ t g e hf x (ga Q);have old:l[C]?=some e->∃ v,cs[C*aD t+D]?=some v/\RV (w.setCells b (p*aD t) news) w0.heap.size ah (D :: C :: aD t :: [q]) x v:=λhle=>by
      obtain⟨hi,rfl⟩:=dQ.1 hle;exact⟨_,hc C hi D x Q,(Z C hi D x Q).tL uX⟩
     by_cases O:C<p
     ·rw[br O]at J;have dZ:(C+1)*aD t<=p*aD t:=iN _ O;rw[gH]at dZ;rw[tM,br];exact old J
     ·rw[bE O]at J;by_cases h2:C<p+ys.length
      ·rw[br h2]at J;obtain⟨hi,rfl⟩:=dQ.1 J;obtain⟨v,E,_,mS⟩:=jm (C-p) hi g D x Q;have aBV:(C-p)*aD t=C*aD t-p*aD t:=Nat.sub_mul _ _ _;have hle:p*aD t<=C*aD t:=iN _ (by omega);have dZ:=(dQ.1 E).1;refine⟨v,?_,mS _ _ _ _⟩;rw[tM,bE,br,<-E];congr 1;omega
      ·rw[bE h2]at J;have nK:(p+ys.length)*aD t<=C*aD t:=iN _ (by omega);rw[Nat.add_mul]at nK;rw[tM,bE,bE (by rw[rF];omega)];exact old J
    rw[<-hlen]
    refine .own [q] t g U (splice l p ys) b cap I (λC D=>(I[C*aD t+D]?).getD undef) qA gz (GY.trans hs) (by rw[hlen];exact hn) ⟨sD.1,λh=>by rw[hlen];exact sD.2 h⟩ (λC h D x pH=>?_) (λC h D x pH=>?_)
    ·obtain⟨v,E,_⟩:=key C h D x pH;rw[E];rfl
    ·obtain⟨v,E,Z⟩:=key C h D x pH;rw[E];exact Z
def aaL(b i c s:Nat):sliced (some ⟨b,0,none⟩) 0 i c s = .slice (some ⟨b,0,none⟩) i c:=by
 unfold sliced;split
 ·rfl
 ·rw[jj,Addr.add_lit];simp
def Bf{X:Type}(P:Program)(N:Nat)(σ:S)(d:Nat)(t:TypeId)(x y:A)(k:S->aj X):aj X:=
 match x,y with
 | .view [q] s 0 i,.view [E] I j m=>(match vb P t with
  | some (e,C)=>bif Nat.beq E q&&Nat.beq s (aD C)&&Nat.beq I (aD C)&&Nat.beq (full C) 0&&Nat.blt d N then (match σ.m q with
   |some (.sl (.sl D (o+2) J l))=>bif Nat.beq (full D) 0&&Nat.beq (aD D) (aD C)then (if i<=j/\j<=m/\m<=l.length/\0<l.length then k ((σ.root q (.sl (.sl D (o+2) J (splice l i ((l.take m).drop j))))).set d (.view [q] s 0 (i+(m-j))))else none)else none
   |_=>none)else none
  |none=>none)
 |_,_=>none
def aml{t ty:TypeId}{x y:A}{k:S->aj X}(h:Bf P N σ d t x y k=some r):∃ dV,k dV=some r/\∀ ah ρ a w,Rl w0 N ah ρ σ a w->∀ u v,RA w w0.heap.size ah ρ x u->RA w w0.heap.size ah ρ y v->
  ∃w' aE ρ' z,(Builtin.append_ #[t,t] ty #[u,v]).run P w = .ok z w'/\Rl w0 N aE ρ' dV (a.put (some d) z) w':=by
 unfold Bf at h;split at h
 ·rename_i q s i q' s' j m;split at h
  ·rename_i e D rE;obtain⟨iY,ht,inf,hi,O,lI⟩:=yV rE;cases Q:(Nat.beq q' q&&Nat.beq s (aD D)&&Nat.beq s' (aD D)&&Nat.beq (full D) 0&&Nat.blt d N)with
   |false=>rw[Q]at h;cases h
   | true=>
    rw[Q,ak]at h;simp only[aM]at Q;obtain⟨⟨⟨⟨c1,c2⟩,c3⟩,c4⟩,c5⟩:=Q;obtain rfl:=ck c1;obtain rfl:=ck c2;obtain rfl:=ck c3;have hd:d<N:=by have:=cI c5;omega
    split at h
    ·rename_i T g qn l hm;cases J:(Nat.beq (full T) 0&&Nat.beq (aD T) (aD D))with
     |false=>rw[J]at h;cases h
     | true=>
      rw[J,ak]at h;rw[aM]at J;have hf:=ck J.1;have L:=ck J.2;split at h
      ·rename_i hb;obtain⟨b1,b2,b3,b4⟩:=hb
       refine⟨_,h,λah ρ a w hR u v hu hv=>?_⟩
       obtain⟨A,n,c,Ui,a1,a2,rfl⟩:=hu;obtain⟨A',n',c',U,a1',a2',rfl⟩:=hv;rw[Ui]at U;injection U with U;injection U with C e2 e3;subst C e2 e3
       -- what is moved
       have gP:=hR.root q' _ hm;generalize E:aZ.sl (.sl T (g+2) qn l)=x at gP;cases gP with
       |aB=>cases E
       |mp=>cases E
       |gh=>cases E
       | sl Y y dz mh=>
        injection E with E;subst E;have M8:Y = .slice A n c:=by
         simp only[cH,dz]at Ui;injection Ui
        subst M8;have M9:RV w 0 (λ_=>none) [] (.sl T 0 qn l) (.slice A n c):=mh.gL;have hn:n=l.length:=by cases M9<;>rfl
        obtain⟨hp,yX,rG⟩:=M9.part (a:=j) (h:=m) (by omega) b2 (by omega);obtain⟨A2,c2,news,fW,Z,pO,jm⟩:=hp.reads hf;have hlen:((l.take m).drop j).length=m-j:=by rw[List.length_drop,fF];omega
        obtain⟨b,cap,jN,pG,pP,gM⟩:=hR.aaK hm hf (p:=i) (ys:=(l.take m).drop j) (news:=news) (by rw[hlen];omega) b4 jm (by rw[hlen];exact hlen ▸ Z.1);rw[dz]at jN;injection jN with jN;injection jN with C e2 e3;subst C e2 e3;rw[hlen]at fW;have Na:sliced (some ⟨b,0,none⟩) 0 i c (aD D) = .slice (some ⟨b,0,none⟩) i c:=aaL b i c _;obtain⟨ad,Y⟩:∃ ad,sliced (some ⟨b,0,none⟩) j m c (aD D) = .slice (some ad) (m-j) (c-j):=by
         unfold sliced;by_cases hcj:c=j
         ·rw[br hcj];exact⟨_,rfl⟩
         ·rw[bE hcj];exact⟨_,rfl⟩
        have Uj:A2=some ad:=by
         rw[L,Y]at fW;injection fW with C;exact C.symm
        subst Uj;have rF:news.length=(m-j)*inf.size:=by rw[Z.1,hlen,O,L]
        have ew:=run_append_room_cells (P:=P) w t ty e inf iY hi b 0 i c ad (m-j) (c-j) news rF (λk u I=>by
         have sM:=(dQ.1 I).1;have tO:0<((l.take m).drop j).length:=by
          rcases Nat.eq_zero_or_pos ((l.take m).drop j).length with h0|h0
          ·rw[Z.1,h0]at sM;omega
          ·exact h0
         obtain⟨b',A9,C,_,sK⟩:=Z.2 tO;injection C with C;subst C;rw[Addr.add_lit];exact sK k u I) pO (by omega) (λk I=>by rw[fo,O,<-L];exact(pP k I).1) (λk I=>by rw[fo,O,<-L];exact(pP k I).2)
        refine⟨_,ah,ρ,_,by rw[Na,Y];exact ew,?_⟩;rw[fo,O,<-L];exact gM.set ⟨some ⟨b,0,none⟩,l.length,c,by simp only[cH,dz],iO _,by omega,(aaL b _ c _).symm⟩ hd
      ·cases h
    ·cases h
  ·cases h
 ·cases h
def amm{t:TypeId}{x y:A}{k:S->aj X}(h:Bf P N σ d t x y k=some r):∃ I,k I=some r/\∀ (X:Type) (k:S->aj X),Bf P N σ d t x y k=k I:=by
 unfold Bf at h;split at h
 ·rename_i q s i L O j m;split at h
  ·rename_i e C Q;cases D:(Nat.beq L q&&Nat.beq s (aD C)&&Nat.beq O (aD C)&&Nat.beq (full C) 0&&Nat.blt d N)with
   |false=>rw[D]at h;cases h
   | true=>
    rw[D,ak]at h;split at h
    ·rename_i J g U l T;cases E:(Nat.beq (full J) 0&&Nat.beq (aD J) (aD C))with
     |false=>rw[E]at h;cases h
     | true=>
      rw[E,ak]at h;split at h
      ·rename_i hb
       refine⟨_,h,λX k=>?_⟩
       simp only[Bf,Q,D,T,E,ak];rw[br hb]
      ·cases h
    ·cases h
  ·cases h
 ·cases h
def Bg{X:Type}(P:Program)(σ:S)(t:TypeId)(x:A)(k:S->aj X):aj X:=
 match x with
 | .view [q] s i j=>(match vb P t with
  | some (e,C)=>(match M3 P e C with
   | some z=>(match σ.m q with
    |some (.sl (.sl D (o+2) E l))=>if h:C=D then (bif Nat.beq s (aD C)&&Nat.beq (full C) 0 then (if i<=j/\j<=l.length then k (σ.root q (.sl (.sl D (o+2) E (splice l i (List.replicate (j-i) (h ▸ z))))))else none)else none)else none
    |_=>none)
   |none=>none)
  |none=>none)
 |_=>none
def amn{t ty:TypeId}{x:A}{k:S->aj X}(h:Bg P σ t x k=some r):∃ dV,k dV=some r/\∀ ah ρ a w,Rl w0 N ah ρ σ a w->∀ u,RA w w0.heap.size ah ρ x u->
  ∃w',(Builtin.clear_ #[t] ty #[u]).run P w = .ok (.tuple #[]) w'/\Rl w0 N ah ρ dV a w':=by
 unfold Bg at h;split at h
 ·rename_i q s i j;split at h
  ·rename_i e C rE;obtain⟨iY,ht,inf,hi,gx,lI⟩:=yV rE;split at h
   ·rename_i z O;split at h
    ·rename_i t' g Z l hm;split at h
     ·rename_i mg;subst mg;cases Q:(Nat.beq s (aD C)&&Nat.beq (full C) 0)with
      |false=>rw[Q]at h;cases h
      | true=>
       rw[Q,ak]at h;rw[aM]at Q;obtain rfl:=ck Q.1;have hf:=ck Q.2;split at h
       ·rename_i hb
        refine⟨_,h,λah ρ a w hR u hu=>?_⟩
        obtain⟨A,n,c,T,a1,a2,rfl⟩:=hu;unfold M3 at O;split at O
        ·cases O
        ·rename_i D DU;split at O
         ·cases O
         ·rename_i vs l9;have pM:inf.zero=some D:=by unfold zeroOf at DU;simpa [hi]using DU
          obtain⟨sJ,mc⟩:=Ub _ _ l9;have E:=l6 C (full C) vs z O;have pN:D.cells.size=aD C:=by rw[<-jZ C (full C) z,<-E.1,sJ];simp
          have hzr:∀w:World,(zeroValue e).run P w = .ok D w:=λw=>by simp[zeroValue,typeInfo,hi,pM]
          rcases Nat.eq_zero_or_pos (j-i)with h0|h0
          ·have uW:splice l i (List.replicate (j-i) z)=l:=by rw[h0];simp[splice]
           refine⟨w,?_,?_⟩
           ·unfold sliced;rw[h0];cases (if c=i then A else A.map (·.add (i*aD C)))<;>simp[Builtin.clear_,gT iY]
           ·show Rl w0 N ah ρ (σ.root q (.sl (.sl C (g+2) Z (splice l i (List.replicate (j-i) z))))) a w;rw[uW];have:σ.root q (.sl (.sl C (g+2) Z l))=σ:=by
             unfold S.root;have:bV σ.m q (some (.sl (.sl C (g+2) Z l)))=σ.m:=by
              funext k;by_cases E:k=q
              ·subst E;rw[cg,hm]
              ·rw[cF _ _ _ E]
             rw[this]
            rw[this];exact hR
          ·have pQ:(Builtin.zeroCells D.cells (j-i))=madeCells D.cells ((j-i)*D.cells.size):=rfl;have jm:wJ C (List.replicate (j-i) z) (Builtin.zeroCells D.cells (j-i)).toList:=by
            intro i' h' o' I x J;rw[List.getElem_replicate]at J;have hj:I<aD C:=by have:=(dQ.1 J).1;rwa [jZ]at this
            rw[mO]at h';have sC:=hj;rw[<-pN]at sC;have U:(Builtin.zeroCells D.cells (j-i)).toList[i'*aD C+I]?=some D.cells[I]:=by
             rw[pQ,oc,<-pN];exact aaG D.cells _ i' I sC (by
              have:(i'+1)*D.cells.size<=(j-i)*D.cells.size:=iN _ (by omega);rw[gH]at this;omega)
            rw[DV C hf o' (full C)]at J;have He:I<(enc C (full C) z).length:=(dQ.1 J).1;rw[<-E.1]at He;have hy:=bO He;generalize vs[I]=y at hy;obtain⟨v,Y,Uc⟩:=mc I y hy;have L:D.cells[I]=v:=by
             have e1:D.cells.toList[I]?=some D.cells[I]:=by simp[sC]
             rw[e1]at Y;injection Y
            have mS:∀(w':World) (B':Nat) (aE:bG) (q':aa Nat),RV w' B' aE q' x v:=λw' B' aE q'=>(aaE Uc _).wk (E.2 I y x hy J)
            exact⟨_,U,by rw[L];exact(mS w 0 (λ_=>none) []).one,λw' B' aE q'=>by rw[L];exact mS _ _ _ _⟩
           have rF:(Builtin.zeroCells D.cells (j-i)).toList.length=(List.replicate (j-i) z).length*aD C:=by rw[pQ,mO,lW,size_madeCells,pN]
           obtain⟨b,cap,dz,pG,U,gM⟩:=hR.aaK hm hf (p:=i) (ys:=List.replicate (j-i) z) (by rw[mO];omega) (by omega) jm rF;simp only[cH,dz]at T;injection T with T;injection T with e1 e2 e3;subst e1 e2 e3;refine⟨_,?_,gM⟩;have fW:sliced (some ⟨b,0,none⟩) i j cap (aD C) = .slice (some ⟨b,i*aD C,none⟩) (j-i) (cap-i):=by
            unfold sliced;rw[bE,jj,Addr.add_lit,fo]
           have lJ:=run_storeCells_cells (P:=P) b (i*aD C) (Builtin.zeroCells D.cells (j-i)).toList 0 w (λk E=>(U k E).1) (λk E=>(U k E).2) (λv Y=>by
            obtain⟨k,E⟩:=List.mem_iff_getElem?.1 Y;have sM:=(dQ.1 E).1;rw[rF,mO]at sM;have tO:=pE C;obtain⟨x,J⟩:=Bd C 0 z (k % aD C) (Nat.mod_lt _ tO);have dZ:k / aD C<(List.replicate (j-i) z).length:=by rw[mO];exact Nat.div_lt_of_lt_mul (by rw[Nat.mul_comm];exact sM)
            obtain⟨v',L,pO,_⟩:=jm (k / aD C) dZ 0 (k % aD C) x (by rw[List.getElem_replicate];exact J);rw[Nat.mul_comm,Nat.div_add_mod,E]at L;injection L with L;rw[L];exact pO)
           simp only[Nat.add_zero]at lJ;rw[fW];obtain⟨n',wD⟩:∃n',j-i=n'+1:=⟨j-i-1,by omega⟩
           rw[wD]at lJ ⊢;simp[Builtin.clear_,gT iY,hzr,lJ]
       ·cases h
     ·cases h
    ·cases h
   ·cases h
  ·cases h
 ·cases h
def amo{t:TypeId}{x:A}{k:S->aj X}(h:Bg P σ t x k=some r):∃ D,k D=some r/\∀ (X:Type) (k:S->aj X),Bg P σ t x k=k D:=by
 unfold Bg at h;split at h
 ·rename_i q s i j;split at h
  ·rename_i e E I;split at h
   ·rename_i z J;split at h
    ·rename_i Q g T l L;split at h
     ·rename_i O;subst O;cases C:(Nat.beq s (aD E)&&Nat.beq (full E) 0)with
      |false=>rw[C]at h;cases h
      | true=>
       rw[C,ak]at h;split at h
       ·rename_i hb
        refine⟨_,h,λX k=>?_⟩
        simp only[Bg,I,J,L,C,ak,dite_true];rw[br hb]
       ·cases h
     ·cases h
    ·cases h
   ·cases h
  ·cases h
 ·cases h
end
def yY(place:Nat->aj (Nat×Nat))(cells:aa Lf):aa (Nat×A)->aj (aa Lf)
 |[]=>some cells
 | (i,x) :: rest=>match place i,x.yT with
  |some (off,n),some xs=>if xs.length=n/\off+n<=cells.length then (bif xs.all Lf.live then yY place (splice cells off xs) rest else none)else none
  |_,_=>none
def aaM(P:Program)(t:TypeId):aj (Nat->aj (Nat×Nat)):=
 match P.underlying t with
 |some (.array _ e)=>(P.info? e).map λC=>λi=>some (i*C.size,C.size)
 |some (.struct fields)=>(fields.toList.mapM (λf=>(P.info? f.type).map λi=>(f.offset,i.size))).map λps=>(ps.toArray[·]?)
 |_=>none
def vc{X:Type}(P:Program)(σ:S)(t:TypeId)(parts:aa (Nat×Operand))(k:A->aj X):aj X:=
 match zeroOf P t,aaM P t with
 | some z,some pl=>match yY pl (z.cells.toList.map iT) (parts.map λp=>(p.1,aI σ p.2))with
  |some cs=>k (.agg cs)
  |none=>none
 |_,_=>none
def Lf.asV:Lf->aj V
 |.v x=>some x
 |_=>none
def ve:aa Lf->aj (aa V)
 |[]=>some []
 | x :: xs=>match x.asV,ve xs with
  |some y,some ys=>some (y::ys)
  |_,_=>none
def Hf(t:TC)(g:Nat):Nat->aa V->aj (aa (T t))
 |0,[]=>some []
 |0,_=>none
 | n+1,C=>match dec t g (C.take (aD t)),Hf t g n (C.drop (aD t))with
  |some x,some xs=>some (x::xs)
  |_,_=>none
def Bh{X:Type}(P:Program)(N:Nat)(σ:S)(d:Nat)(t:TypeId)(len:Nat)(parts:aa (Nat×Operand))(k:S->aj X):aj X:=
 match vb P t with
 | some (e,C)=>match zeroOf P e with
  | some z=>bif Nat.beq (full C) 0&&Nat.beq z.cells.size (aD C)&&Nat.blt (len*aD C) 16777217 then (match yY (λi=>some (i*aD C,aD C)) (List.replicate len (z.cells.toList.map iT)).flatten (parts.map λp=>(p.1,aI σ p.2))with
   | some cs=>(match ve cs with
    | some D=>(match Hf C 0 len D with
     |some l=>iC N σ d (.sl (.sl C 2 true l)) (.lf (.own [d])) k
     |none=>none)
    |none=>none)
   |none=>none)else none
  |none=>none
 |none=>none
section
variable {P:Program} {w w':World} {w0:Wd} {B N:Nat} {ah aE:bG} {ρ ρ':Nat->Loc} {σ:S} {a:Act} {X:Type} {d:Nat} {r:X}
def aaN(off:Nat):∀ (l:aa Value) (n:Nat) (cs:Array Value),off+n+l.length<=cs.size->
  ((l.zipIdx n).foldl (λ(cs:Array Value) (p:Value×Nat)=>cs.setIfInBounds (off+p.2) p.1) cs).toList=splice cs.toList (off+n) l
 |[],n,cs,_=>by simp[splice]
 | v :: l,n,cs,h=>by
  simp only[lY]at h;rw[List.zipIdx_cons,List.foldl_cons,aaN off l (n+1) (cs.setIfInBounds (off+n) v) (by simp;omega)];have C:off+n<cs.toList.length:=by simp;omega
  simp only[splice,Array.toList_setIfInBounds,lY];have D:(cs.toList.set (off+n) v).take (off+(n+1))=cs.toList.take (off+n)++[v]:=by
   rw[show off+(n+1)=off+n+1 by omega,List.take_succ_eq_append_getElem (by simpa using C),List.getElem_set_self,List.take_set_of_le (eB _)]
  have E:(cs.toList.set (off+n) v).drop (off+(n+1)+l.length)=cs.toList.drop (off+(n+1)+l.length):=by
   rw[List.drop_set_of_lt (by omega)]
  rw[D,E,show off+n+(l.length+1)=off+(n+1)+l.length by omega];simp
def dU.splice{cs xs:aa Lf}{D E:Array Value}(h:dU w B ah ρ cs D)(I:dU w B ah ρ xs E){off:Nat}(J:off+xs.length<=cs.length){L:Array Value}(Q:L.toList=Proofs.YtglnbhiaknohlaaGreat.splice D.toList off E.toList):dU w B ah ρ (Proofs.YtglnbhiaknohlaaGreat.splice cs off xs) L:=by
 have T:off+E.toList.length<=D.toList.length:=by rw[lW,lW,I.1,h.1];exact J
 refine⟨?_,λj x C=>?_⟩
 ·rw[sB _ _ _ J,<-lW,Q,sB _ _ _ T,lW,h.1]
 ·have e:L[j]?=(Proofs.YtglnbhiaknohlaaGreat.splice D.toList off E.toList)[j]?:=by rw[<-Q,oc]
  rw[e,wB _ _ _ T,lW,I.1];rw[wB _ _ _ J]at C;by_cases O:j<off
  ·simp only[O,if_true,oc]at C ⊢;exact h.2 j x C
  ·by_cases U:j<off+xs.length
   ·simp only[O,U,if_true,if_false,oc]at C ⊢;exact I.2 _ x C
   ·simp only[O,U,if_false,oc]at C ⊢;exact h.2 j x C
def Nb{place:Nat->aj (Nat×Nat)}:∀ (parts:aa (Nat×A)) (cells:aa Lf) (C:Array Value) (D:aa (Nat×Value)) (out:aa Lf),yY place cells parts=some out->dU w B ah ρ cells C->D.length=parts.length->
  (∀(j:Nat) p q,parts[j]?=some p->D[j]?=some q->p.1=q.1/\RA w B ah ρ p.2 q.2)->∃E,Instr.fill place C D=some E/\dU w B ah ρ out E
 | [],cells,C,D,out,h,hR,hl,I=>by
  have:D=[]:=List.eq_nil_of_length_eq_zero hl;subst this;injection h with h;subst h;exact⟨C,rfl,hR⟩
 | (i,x) :: rest,cells,C,D,out,h,hR,hl,I=>by
  cases D with
  |nil=>simp at hl
  | cons v D=>
   obtain⟨i',v⟩:=v;obtain⟨e,O⟩:=I 0 _ _ rfl rfl;simp only at e O;subst e;unfold yY at h;split at h
   ·rename_i off n xs T U;split at h
    ·rename_i hb;cases J:xs.all Lf.live with
     |false=>rw[J]at h;cases h
     | true=>
      rw[J,ak]at h;obtain⟨Q,_⟩:=G1 U J O;have L:v.cells.size=n:=by rw[Q.1];exact hb.1
      have Y:¬ (off+v.cells.size > C.size):=by rw[L,hR.1];omega
      have Z:(v.cells.zipIdx.foldl (λ(cs:Array Value) (p:Value×Nat)=>cs.setIfInBounds (off+p.2) p.1) C).toList=Proofs.YtglnbhiaknohlaaGreat.splice C.toList off v.cells.toList:=by
       have:=aaN off v.cells.toList 0 C (by rw[lW];omega);rw[<-Array.foldl_toList,Array.toList_zipIdx];exact this
      have uW:=hR.splice Q (off:=off) (by rw[hb.1];exact hb.2) Z;obtain⟨E,qz,gM⟩:=Nb rest _ _ D out h uW (by simpa using hl) (λj p q hp' TX=>I (j+1) p q (by simpa using hp') (by simpa using TX));refine⟨E,?_,gM⟩;have eU:(v.cells.size≠n || off+v.cells.size > C.size)=false:=by
       simp only[L,ne_eq,not_true_eq_false,decide_false,Bool.false_or,od];rw[<-L];exact Y
      simp only[Instr.fill,T];rw[bE (by rw[eU];simp)];exact qz
    ·cases h
   ·cases h
def amp(z:Value):dU w B ah ρ (z.cells.toList.map iT) z.cells:=by
 refine⟨by simp,λj x C=>?_⟩
 rw[dw]at C;cases D:z.cells.toList[j]? with
 |none=>rw[D]at C;cases C
 | some v=>
  rw[D]at C;injection C with C;subst C;exact⟨v,by simpa using D,M5 v⟩
def amq{t:TypeId}{parts:Array (Nat×Operand)}{k:A->aj X}(h:vc P σ t parts.toList k=some r):∃ y,k y=some r/\∀ ah ρ a w,Rl w0 N ah ρ σ a w->
  ∃v,(Instr.build t (parts.map λ(i,x)=>(i,a.eval x))).run P w = .ok v w/\RA w w0.heap.size ah ρ y v:=by
 unfold vc at h;split at h
 ·rename_i z pl E C;split at h
  ·rename_i cs U
   refine⟨_,h,λah ρ a w hR=>?_⟩
   obtain⟨O,Q,Y⟩:=Nb (w:=w) (B:=w0.heap.size) (ah:=ah) (ρ:=ρ) _ _ z.cells (parts.toList.map λp=>(p.1,a.eval p.2)) cs U (amp z) (by simp) (λj p q D I=>by
    rw[dw]at D I;cases T:parts.toList[j]? with
    |none=>rw[T]at D;cases D
    | some x=>
     rw[T]at D I;injection D with D;injection I with I;subst D I;exact⟨rfl,hR.aI x.2⟩)
   refine⟨_,run_build (P:=P) w t _ O ?_,O,rfl,Y⟩;have Z:(parts.map λ(i,x)=>(i,a.eval x)).toList=parts.toList.map λp=>(p.1,a.eval p.2):=by simp
   rw[Z];unfold zeroOf at E;unfold Program.built;cases hi:P.info? t with
   |none=>simp[hi]at E
   | some i=>
    have E:i.zero=some z:=by simpa [hi]using E
    unfold aaM at C;split at C
    ·rename_i n e J;cases L:P.info? e with
     |none=>simp[L]at C
     | some ie=>
      rw[L]at C;injection C with C;subst C;simp only[J,E,L];exact Q
    ·rename_i fields J;cases D:fields.toList.mapM (λf=>(P.info? f.type).map λi=>(f.offset,i.size))with
     |none=>rw[D]at C;cases C
     | some ps=>
      rw[D]at C;injection C with C;subst C;simp only[J,E,D];exact Q
    ·cases C
  ·cases h
 ·cases h
def Nc:∀ (cs:aa Lf) (C:aa V),ve cs=some C->cs=C.map .v
 |[],C,h=>by injection h with h;subst h;rfl
 | x :: xs,C,h=>by
  unfold ve at h;split at h
  next y ys D E=>injection h with h;subst h;rw[Nc xs ys E,List.map_cons];cases x<;>first|(injection D with D;rw[D])|cases D
  ·cases h
def Uk(t:TC)(g:Nat):∀ (n:Nat) (C:aa V) (l:aa (T t)),Hf t g n C=some l->l.length=n/\C.length=n*aD t/\∀ i (hi:i<l.length) (j:Nat) x,(enc t g l[i])[j]?=some x->∃ y,C[i*aD t+j]?=some y/\Wk y x
 | 0,[],l,h=>by
  injection h with h;subst h;exact⟨rfl,by simp,λi hi=>by simp at hi⟩
 |0,_::_,l,h=>by cases h
 | n+1,C,l,h=>by
  unfold Hf at h;split at h
  ·rename_i x xs O Q;injection h with h;subst h;obtain⟨U,Y,Z⟩:=Uk t g n _ xs Q;have I:=l6 t g _ x O;have hlen:(C.take (aD t)).length=aD t:=by rw[I.1,jZ]
   have nK:aD t<=C.length:=by rw[fF]at hlen;omega
   refine⟨by simp[U],?_,λi hi j y D=>?_⟩
   ·rw[List.length_drop]at Y;rw[gH];omega
   ·cases i with
    | zero=>
     simp only[List.getElem_cons_zero]at D;have J:j<aD t:=by have:=(dQ.1 D).1;rwa [jZ]at this
     have E:=bO (l:=C.take (aD t)) (i:=j) (by rw[hlen];exact J);refine⟨_,?_,I.2 j _ y E D⟩;rw[List.getElem?_take,br J]at E;rw[Nat.zero_mul,fo];exact E
    | succ i=>
     simp only[List.getElem_cons_succ]at D;obtain⟨z,L,hw⟩:=Z i (by simpa using hi) j y D;refine⟨z,?_,hw⟩;rw[List.getElem?_drop]at L;rw[gH,show i*aD t+aD t+j=aD t+(i*aD t+j) by omega];exact L
  ·cases h
end
end Go.Proofs.YtglnbhiaknohlaaGreat
