/-
  Running the program over pure contents, and that it follows (part 1). Nothing here is a claim.
-/
import Derived.Test.YtcioagfjiccleaaGreatAppend
import Derived.Test.YtcioagfjiccleaaGreatLaws
import Derived.Handy
import Derived.Great.BuildSlice
import Derived.ArgAppend
set_option linter.unusedSimpArgs false
namespace Go.Proofs.YtcioagfjiccleaaGreat
open Go.RowKit
set_option linter.defProp false
abbrev af:=List
abbrev aj:=Option
abbrev ak:=Unit
def aq:=@cond_true
def eH:=@Bool.or_eq_true
def aJ:=@Bool.and_eq_true
def cz:=@Nat.eq_of_beq_eq_true
def cH:=@Nat.le_of_ble_eq_true
def iy:=@List.mem_of_getElem?
def dH:=@List.getElem?_map
def mG:=@Nat.lt_of_lt_of_le
def mH:=@World.cell?_of_block
def gS:=@Array.getElem?_eq_some_iff
def fQ:=@Nat.zero_add
def bu:=@if_pos
def eV:=@List.length_map
def mW:=@List.any_eq_false
def au:=@cond_false
def jy:=@Array.getD_eq_getD_getElem?
def mX:=@Array.length_toList
def nu:=@Array.getElem?_toList
def bJ:=@if_neg
def kM:=@List.length_set
def dJ:=@List.getElem?_eq_some_iff
def bT:=@List.getElem?_eq_getElem
def gZ:=@Nat.le_refl
def kz:=@Nat.mul_le_mul_right
def je:=@Nat.succ_mul
def jU:=@Option.map_some
def fz:=@Sem.run_bind
def kA:=@Result.andThen_ok
def jr:=@run_underlying
def cA:=@congrArg
def iL:=@List.mem_cons
def c9:=@List.all_eq_true
def dy:=@List.getElem_mem
def jV:=@Nat.ble_eq_true_of_le
def gp:=@Option.some.injEq
def jL:=@Prod.mk.injEq
def lK:=@List.map_congr_left
def lM:=@List.length_take
def nv:=@List.length_replicate
def n9:=@List.length_cons
def oW:=@decide_eq_false_iff_not
def kN:=@List.map_cons
def iz:=@List.getD_eq_getElem?_getD
def oX:=@Bool.or_eq_false_iff
def hD:=@Bool.not_eq_true'
def dF:=@Bool.true_and
def aK:=@dif_pos
def rF:=@List.length_singleton
def iA:=@List.mem_range
def pR:=@List.getElem_range
def bz:=@decide_eq_true
def iB:=@decide_eq_true_eq
def cm:=@Bool.not_true
def uc:=@Int.tmod_eq_emod_of_nonneg
def bK:=@decide_eq_false
def bX:=@Int.toNat_natCast
def cZ:=@Int.natCast_zero
def iM:=@Int.eq_ofNat_of_zero_le
def jf:=@Sum.elim_inl
def lV:=@List.mem_iff_getElem
def qv:=@List.findIdx?_eq_some_iff_getElem
def gq:=@List.length_range
def vf:=@Int.tdiv_eq_ediv_of_nonneg
def iC:=@beq_iff_eq
set_option linter.unusedVariables false
set_option linter.unusedSimpArgs false
structure aR where
 cU:Int
 aI:Int
 rows:Int
 aU:Int
structure aV where
 aE:Int
 row:Int
 cO:Int
structure pS where
 order:Int
 hash:Bool
structure LY where
 owner:List Int
structure aT where
 kind:Int
 aE:Int
 row:Int
 cO:Int
structure fA where
 pT:Int
 rp:Int
 kB:Int
 qw:Int
 oa:Int
 mI:Int
 qx:Int
 qy:Int
 ny:Int
 wr:Int
 rG:Int
 rH:Int
 ud:Int
 sL:Int
 sM:Int
 xp:Int
 xs:Int
structure gy where
 open_:Bool
 row:Int
structure dj where
 aI:List gy
 aX:Int
structure fo where
 at_:Int
 cmd:aT
structure gA where
 last:List Int
 aY:List Int
structure cq where
 symbols:List Int
 jg:Bool
structure dK where
 cells:List cq
 bU:List Int
 bL:List Int
structure rI where
 bU:Int
 bL:Int
structure dm where
 rows:List Int
 counts:List Int
 fR:Int
structure fF where
 cg:Int
 map:List Int
structure eo where
 aN:List Int
 wait:Int
 gL:Bool
structure bk where
 id:Int
 bM:Int
 line:Int
 write:Bool
 data:Int
 at_:Int
structure cI where
 weight:Int
 iN:Int
structure mJ where
 on:Bool
 low:Int
 high:Int
structure LZ where
 owner:List Int
 length:Int
structure L0 where
 id:Int
 at_:Int
structure jh where
 state:Int
 since:Int
 idle:Int
structure ue where
 down:Int
 sleep:Int
structure cy where
 line:Int
 code:Int
 times:Int
structure L1 where
 agr:List ByteArray
structure L2 where
 ags:List Int
 next:Int
structure L3 where
 count:Int
 commands:List aT
structure En where
 count:Int
 tag:Int
structure G1 where
 root:Int
 mid:List En
 leaf:List En
structure L4 where
 key:Int
 tree:G1
 data:List Int
 tags:List Int
structure rJ where
 next:Int
 every:Int
 wait:Int
structure L5 where
 index:Int
 before:cq
 after:cq
 code:Int
structure L6 where
 aE:Int
 from_:Int
 to:Int
 next:Int
structure eM where
 fS:Int
 cap:Int
 fB:Int
 low:Int
 high:Int
 weights:List Int
 eE:ue
structure kX where
 ck:eM
 next:eM
 waits:Bool
structure gu where
 aD:aR
 bV:fA
 mapping:pS
 cg:Int
 interval:Int
 kO:Int
 gf:rI
structure eN where
 id:Int
 at_:Int
 data:Int
 code:Int
structure ay where
 config:gu
 box:kX
 now:Int
 br:dj
 ready:gA
 array:dK
 spare:fF
 bh:eo
 bx:List dm
 guard:List Int
 pending:List aV
 queue:List bk
 shares:List cI
 drain:mJ
 aX:jh
 cB:rJ
 errors:List cy
 trace:List fo
 bR:List eN
structure iO where
 kind:Int
 request:bk
 n:Int
 xT:Int
 addr:aV
 hJ:eM
structure L7 where
 line:Int
 data:Int
 code:Int
structure bG where
 b:List Int
 i:Int
 h:Int
inductive TC where
 |int|u8|bool|str
 |fq
 |Addr
 |vg
 |Ad
 |Command
 |nA
 |kP
 |lW
 |Event
 |qz
 |Cell
 |Array
 |wD
 |lN
 |pU
 |mY
 |ep
 |iZ
 |uf
 |Ae
 |Af
 |Power
 |wE
 |gB
 |Ag
 |Ah
 |Receiver
 |Node
 |Tree
 |Ai
 |vh
 |Aj
 |Move
 |lX
 |qA
 |Config
 |lY
 |cr
 |Act
 |Fact
 |lZ
 |sl (t:TC)
 |Eo
 |Ak (g:Nat)
 |Al (g:Nat)
 |Am (g:Nat)
 |fnCommand (g:Nat)
deriving DecidableEq
def T:TC->Type
 |.int=>Int
 |.u8=>Int
 |.bool=>Bool
 |.str=>ByteArray
 |.fq=>aR
 |.Addr=>aV
 |.vg=>pS
 |.Ad=>LY
 |.Command=>aT
 |.nA=>fA
 |.kP=>gy
 |.lW=>dj
 |.Event=>fo
 |.qz=>gA
 |.Cell=>cq
 |.Array=>dK
 |.wD=>rI
 |.lN=>dm
 |.pU=>fF
 |.mY=>eo
 |.ep=>bk
 |.iZ=>cI
 |.uf=>mJ
 |.Ae=>LZ
 |.Af=>L0
 |.Power=>jh
 |.wE=>ue
 |.gB=>cy
 |.Ag=>L1
 |.Ah=>L2
 |.Receiver=>L3
 |.Node=>En
 |.Tree=>G1
 |.Ai=>L4
 |.vh=>rJ
 |.Aj=>L5
 |.Move=>L6
 |.lX=>eM
 |.qA=>kX
 |.Config=>gu
 |.lY=>eN
 |.cr=>ay
 |.Act=>iO
 |.Fact=>L7
 |.lZ=>bG
 |.sl t=>af (T t)
 |.Eo=>ay
 |.Ak _=>Int
 |.Al _=>bk
 |.Am _=>aV
 |.fnCommand _=>aT
def aB:TC->Nat
 |.Eo=>76
 |.Ak _=>3
 |.Al _=>8
 |.Am _=>5
 |.fnCommand _=>6
 |.fq=>4
 |.Addr=>3
 |.vg=>2
 |.Ad=>1
 |.Command=>4
 |.nA=>17
 |.kP=>2
 |.lW=>2
 |.Event=>5
 |.qz=>2
 |.Cell=>2
 |.Array=>3
 |.wD=>2
 |.lN=>3
 |.pU=>2
 |.mY=>3
 |.ep=>6
 |.iZ=>2
 |.uf=>3
 |.Ae=>2
 |.Af=>2
 |.Power=>3
 |.wE=>2
 |.gB=>3
 |.Ag=>1
 |.Ah=>2
 |.Receiver=>2
 |.Node=>2
 |.Tree=>3
 |.Ai=>6
 |.vh=>3
 |.Aj=>6
 |.Move=>4
 |.lX=>8
 |.qA=>17
 |.Config=>28
 |.lY=>4
 |.cr=>75
 |.Act=>20
 |.Fact=>3
 |.lZ=>3
 |_=>1
def full:TC->Nat
 |.int|.u8|.bool|.str=>0
 |.fq=>0
 |.Addr=>0
 |.vg=>0
 |.Ad=>2
 |.Command=>0
 |.nA=>0
 |.kP=>0
 |.lW=>2
 |.Event=>0
 |.qz=>2
 |.Cell=>2
 |.Array=>4
 |.wD=>0
 |.lN=>2
 |.pU=>2
 |.mY=>2
 |.ep=>0
 |.iZ=>0
 |.uf=>0
 |.Ae=>2
 |.Af=>0
 |.Power=>0
 |.wE=>0
 |.gB=>0
 |.Ag=>2
 |.Ah=>2
 |.Receiver=>2
 |.Node=>0
 |.Tree=>2
 |.Ai=>2
 |.vh=>0
 |.Aj=>2
 |.Move=>0
 |.lX=>2
 |.qA=>2
 |.Config=>0
 |.lY=>0
 |.cr=>4
 |.Act=>2
 |.Fact=>0
 |.lZ=>2
 |.sl t=>full t+2
 |.Eo=>4
 |.Ak _=>0
 |.Al _=>0
 |.Am _=>0
 |.fnCommand _=>0
def tid:TC->TypeId
 |.int=>3
 |.u8=>5
 |.bool=>4
 |.str=>9
 |.fq=>25
 |.Addr=>79
 |.vg=>29
 |.Ad=>0
 |.Command=>167
 |.nA=>27
 |.kP=>189
 |.lW=>47
 |.Event=>169
 |.qz=>49
 |.Cell=>179
 |.Array=>52
 |.wD=>31
 |.lN=>147
 |.pU=>54
 |.mY=>56
 |.ep=>77
 |.iZ=>161
 |.uf=>62
 |.Ae=>0
 |.Af=>0
 |.Power=>64
 |.wE=>36
 |.gB=>164
 |.Ag=>0
 |.Ah=>0
 |.Receiver=>0
 |.Node=>0
 |.Tree=>0
 |.Ai=>0
 |.vh=>66
 |.Aj=>0
 |.Move=>0
 |.lX=>38
 |.qA=>44
 |.Config=>33
 |.lY=>172
 |.cr=>71
 |.Act=>81
 |.Fact=>0
 |.lZ=>127
 |.sl .int=>34
 |.sl .bool=>276
 |.sl .str=>0
 |_=>0
inductive V where
 |int (k:IntKind) (n:Int)
 |bool (b:Bool)
 |str (s:ByteArray)
 |nil
 |sl (t:TC) (o:Nat) (q:Bool) (l:List (T t))
def V.aQ:V->aj Int|.int .i64 n=>some n|_=>none
def V.Q0:V->aj Int|.int .u8 n=>some n|_=>none
def V.oc:V->aj Bool|.bool b=>some b|_=>none
def V.Q1:V->aj ByteArray|.str s=>some s|_=>none
def V.dX(t:TC)(o:Nat):V->aj (af (T t))
 |.sl t' o' _ l=>bif Nat.beq o' o ||(Nat.ble (full t+2) o'&&Nat.ble (full t+2) o)then (if h:t'=t then some (h ▸ l)else none)else none
 |.nil=>some []
 |_=>none
inductive Wk:V->V->Prop
 |same (x:V):Wk x x
 |nil (t:TC) (o:Nat):Wk .nil (.sl t o false [])
 |q (t:TC) (o:Nat) (l:List (T t)):Wk (.sl t o true l) (.sl t o false l)
 |gr (t:TC) (o o':Nat) (qn:Bool) (l:List (T t)) (h:full t+2<=o) (h':full t+2<=o'):Wk (.sl t o' qn l) (.sl t o false l)
def bW(xs ys:af V):Prop:=xs.length=ys.length/\∀(j:Nat) (x y:V),xs[j]?=some x->ys[j]?=some y->Wk x y
theorem bW.nil:bW [] []:=⟨rfl,by simp⟩
theorem bW.cons{x y:V}{xs ys:af V}(h:Wk x y)(k:bW xs ys):bW (x :: xs) (y :: ys):=by
 refine⟨by simp[k.1],λj a b ha hb=>?_⟩
 cases j with
 |zero=>simp at ha hb;subst ha;subst hb;exact h
 |succ j=>simp at ha hb;exact k.2 j a b ha hb
theorem V.aS{x:V}{n:Int}(h:x.aQ=some n):Wk x (.int .i64 n):=by
 unfold V.aQ at h;split at h<;>first|(injection h with h;subst h;exact .same _)|cases h
theorem V.agt{x:V}{n:Int}(h:x.Q0=some n):Wk x (.int .u8 n):=by
 unfold V.Q0 at h;split at h<;>first|(injection h with h;subst h;exact .same _)|cases h
theorem V.pV{x:V}{n:Bool}(h:x.oc=some n):Wk x (.bool n):=by
 unfold V.oc at h;split at h<;>first|(injection h with h;subst h;exact .same _)|cases h
theorem V.agu{x:V}{n:ByteArray}(h:x.Q1=some n):Wk x (.str n):=by
 unfold V.Q1 at h;split at h<;>first|(injection h with h;subst h;exact .same _)|cases h
theorem V.eJ{x:V}{t:TC}{o:Nat}{l:af (T t)}(h:x.dX t o=some l):Wk x (.sl t o false l):=by
 unfold V.dX at h;split at h
 ·rename_i t' o' q l';cases hc:(Nat.beq o' o || (Nat.ble (full t+2) o'&&Nat.ble (full t+2) o))with
  |false=>rw[hc]at h;cases h
  | true=>
   rw[hc,aq]at h;split at h
   ·rename_i ht;subst ht;injection h with h;subst h;rw[eH,aJ]at hc;rcases hc with hc | hc
    ·obtain rfl:=cz hc;cases q
     ·exact .same _
     ·exact .q _ _ _
    ·exact .gr _ _ _ _ _ (cH hc.2) (cH hc.1)
   ·cases h
 ·injection h with h;subst h;exact .nil _ _
 ·cases h
def Ep(o:Nat)(x:aR):af V:=[.int .i64 x.cU,.int .i64 x.aI,.int .i64 x.rows,.int .i64 x.aU]
def An(o:Nat)(x:aV):af V:=[.int .i64 x.aE,.int .i64 x.row,.int .i64 x.cO]
def Er(o:Nat)(x:pS):af V:=[.int .i64 x.order,.bool x.hash]
def G2(o:Nat)(x:LY):af V:=[.sl .int o false x.owner]
def Ao(o:Nat)(x:aT):af V:=[.int .i64 x.kind,.int .i64 x.aE,.int .i64 x.row,.int .i64 x.cO]
def Es(o:Nat)(x:fA):af V:=[.int .i64 x.pT,.int .i64 x.rp,.int .i64 x.kB,.int .i64 x.qw,.int .i64 x.oa,.int .i64 x.mI,.int .i64 x.qx,.int .i64 x.qy,.int .i64 x.ny,.int .i64 x.wr,.int .i64 x.rG,.int .i64 x.rH,.int .i64 x.ud,.int .i64 x.sL,.int .i64 x.sM,.int .i64 x.xp,.int .i64 x.xs]
def Et(o:Nat)(x:gy):af V:=[.bool x.open_,.int .i64 x.row]
def G3(o:Nat)(x:dj):af V:=[.sl .kP o false x.aI,.int .i64 x.aX]
def Eu(o:Nat)(x:fo):af V:=[.int .i64 x.at_,.int .i64 x.cmd.kind,.int .i64 x.cmd.aE,.int .i64 x.cmd.row,.int .i64 x.cmd.cO]
def G4(o:Nat)(x:gA):af V:=[.sl .int o false x.last,.sl .int o false x.aY]
def G5(o:Nat)(x:cq):af V:=[.sl .int o false x.symbols,.bool x.jg]
def G6(o:Nat)(x:dK):af V:=[.sl .Cell o false x.cells,.sl .int o false x.bU,.sl .int o false x.bL]
def Ev(o:Nat)(x:rI):af V:=[.int .i64 x.bU,.int .i64 x.bL]
def G7(o:Nat)(x:dm):af V:=[.sl .int o false x.rows,.sl .int o false x.counts,.int .i64 x.fR]
def G8(o:Nat)(x:fF):af V:=[.int .i64 x.cg,.sl .int o false x.map]
def G9(o:Nat)(x:eo):af V:=[.sl .int o false x.aN,.int .i64 x.wait,.bool x.gL]
def Ap(o:Nat)(x:bk):af V:=[.int .i64 x.id,.int .i64 x.bM,.int .i64 x.line,.bool x.write,.int .i64 x.data,.int .i64 x.at_]
def Ew(o:Nat)(x:cI):af V:=[.int .i64 x.weight,.int .i64 x.iN]
def Ex(o:Nat)(x:mJ):af V:=[.bool x.on,.int .i64 x.low,.int .i64 x.high]
def He(o:Nat)(x:LZ):af V:=[.sl .int o false x.owner,.int .i64 x.length]
def Ey(o:Nat)(x:L0):af V:=[.int .i64 x.id,.int .i64 x.at_]
def Ez(o:Nat)(x:jh):af V:=[.int .i64 x.state,.int .i64 x.since,.int .i64 x.idle]
def EA(o:Nat)(x:ue):af V:=[.int .i64 x.down,.int .i64 x.sleep]
def EB(o:Nat)(x:cy):af V:=[.int .i64 x.line,.int .i64 x.code,.int .i64 x.times]
def Hf(o:Nat)(x:L1):af V:=[.sl .str o false x.agr]
def Hg(o:Nat)(x:L2):af V:=[.sl .int o false x.ags,.int .i64 x.next]
def Hh(o:Nat)(x:L3):af V:=[.int .i64 x.count,.sl .Command o false x.commands]
def EC(o:Nat)(x:En):af V:=[.int .i64 x.count,.int .i64 x.tag]
def Hi(o:Nat)(x:G1):af V:=[.int .i64 x.root,.sl .Node o false x.mid,.sl .Node o false x.leaf]
def Hj(o:Nat)(x:L4):af V:=[.int .i64 x.key,.int .i64 x.tree.root,.sl .Node o false x.tree.mid,.sl .Node o false x.tree.leaf,.sl .int o false x.data,.sl .int o false x.tags]
def ED(o:Nat)(x:rJ):af V:=[.int .i64 x.next,.int .i64 x.every,.int .i64 x.wait]
def Hl(o:Nat)(x:L5):af V:=[.int .i64 x.index,.sl .int o false x.before.symbols,.bool x.before.jg,.sl .int o false x.after.symbols,.bool x.after.jg,.int .i64 x.code]
def EE(o:Nat)(x:L6):af V:=[.int .i64 x.aE,.int .i64 x.from_,.int .i64 x.to,.int .i64 x.next]
def Ho(o:Nat)(x:eM):af V:=[.int .i64 x.fS,.int .i64 x.cap,.int .i64 x.fB,.int .i64 x.low,.int .i64 x.high,.sl .int o false x.weights,.int .i64 x.eE.down,.int .i64 x.eE.sleep]
def Hp(o:Nat)(x:kX):af V:=[.int .i64 x.ck.fS,.int .i64 x.ck.cap,.int .i64 x.ck.fB,.int .i64 x.ck.low,.int .i64 x.ck.high,.sl .int o false x.ck.weights,.int .i64 x.ck.eE.down,.int .i64 x.ck.eE.sleep,.int .i64 x.next.fS,.int .i64 x.next.cap,.int .i64 x.next.fB,.int .i64 x.next.low,.int .i64 x.next.high,.sl .int o false x.next.weights,.int .i64 x.next.eE.down,.int .i64 x.next.eE.sleep,.bool x.waits]
def EF(o:Nat)(x:gu):af V:=[.int .i64 x.aD.cU,.int .i64 x.aD.aI,.int .i64 x.aD.rows,.int .i64 x.aD.aU,.int .i64 x.bV.pT,.int .i64 x.bV.rp,.int .i64 x.bV.kB,.int .i64 x.bV.qw,.int .i64 x.bV.oa,.int .i64 x.bV.mI,.int .i64 x.bV.qx,.int .i64 x.bV.qy,.int .i64 x.bV.ny,.int .i64 x.bV.wr,.int .i64 x.bV.rG,.int .i64 x.bV.rH,.int .i64 x.bV.ud,.int .i64 x.bV.sL,.int .i64 x.bV.sM,.int .i64 x.bV.xp,.int .i64 x.bV.xs,.int .i64 x.mapping.order,.bool x.mapping.hash,.int .i64 x.cg,.int .i64 x.interval,.int .i64 x.kO,.int .i64 x.gf.bU,.int .i64 x.gf.bL]
def EG(o:Nat)(x:eN):af V:=[.int .i64 x.id,.int .i64 x.at_,.int .i64 x.data,.int .i64 x.code]
def Aq(o:Nat)(x:ay):af V:=[.int .i64 x.config.aD.cU,.int .i64 x.config.aD.aI,.int .i64 x.config.aD.rows,.int .i64 x.config.aD.aU,.int .i64 x.config.bV.pT,.int .i64 x.config.bV.rp,.int .i64 x.config.bV.kB,.int .i64 x.config.bV.qw,.int .i64 x.config.bV.oa,.int .i64 x.config.bV.mI,.int .i64 x.config.bV.qx,.int .i64 x.config.bV.qy,.int .i64 x.config.bV.ny,.int .i64 x.config.bV.wr,.int .i64 x.config.bV.rG,.int .i64 x.config.bV.rH,.int .i64 x.config.bV.ud,.int .i64 x.config.bV.sL,.int .i64 x.config.bV.sM,.int .i64 x.config.bV.xp,.int .i64 x.config.bV.xs,.int .i64 x.config.mapping.order,.bool x.config.mapping.hash,.int .i64 x.config.cg,.int .i64 x.config.interval,.int .i64 x.config.kO,.int .i64 x.config.gf.bU,.int .i64 x.config.gf.bL,.int .i64 x.box.ck.fS,.int .i64 x.box.ck.cap,.int .i64 x.box.ck.fB,.int .i64 x.box.ck.low,.int .i64 x.box.ck.high,.sl .int o false x.box.ck.weights,.int .i64 x.box.ck.eE.down,.int .i64 x.box.ck.eE.sleep,.int .i64 x.box.next.fS,.int .i64 x.box.next.cap,.int .i64 x.box.next.fB,.int .i64 x.box.next.low,.int .i64 x.box.next.high,.sl .int o false x.box.next.weights,.int .i64 x.box.next.eE.down,.int .i64 x.box.next.eE.sleep,.bool x.box.waits,.int .i64 x.now,.sl .kP o false x.br.aI,.int .i64 x.br.aX,.sl .int o false x.ready.last,.sl .int o false x.ready.aY,.sl .Cell o false x.array.cells,.sl .int o false x.array.bU,.sl .int o false x.array.bL,.int .i64 x.spare.cg,.sl .int o false x.spare.map,.sl .int o false x.bh.aN,.int .i64 x.bh.wait,.bool x.bh.gL,.sl .lN o false x.bx,.sl .int o false x.guard,.sl .Addr o false x.pending,.sl .ep o false x.queue,.sl .iZ o false x.shares,.bool x.drain.on,.int .i64 x.drain.low,.int .i64 x.drain.high,.int .i64 x.aX.state,.int .i64 x.aX.since,.int .i64 x.aX.idle,.int .i64 x.cB.next,.int .i64 x.cB.every,.int .i64 x.cB.wait,.sl .gB o false x.errors,.sl .Event o false x.trace,.sl .lY o false x.bR]
def Hq(o:Nat)(x:iO):af V:=[.int .i64 x.kind,.int .i64 x.request.id,.int .i64 x.request.bM,.int .i64 x.request.line,.bool x.request.write,.int .i64 x.request.data,.int .i64 x.request.at_,.int .i64 x.n,.int .i64 x.xT,.int .i64 x.addr.aE,.int .i64 x.addr.row,.int .i64 x.addr.cO,.int .i64 x.hJ.fS,.int .i64 x.hJ.cap,.int .i64 x.hJ.fB,.int .i64 x.hJ.low,.int .i64 x.hJ.high,.sl .int o false x.hJ.weights,.int .i64 x.hJ.eE.down,.int .i64 x.hJ.eE.sleep]
def EH(o:Nat)(x:L7):af V:=[.int .i64 x.line,.int .i64 x.data,.int .i64 x.code]
def Hr(o:Nat)(x:bG):af V:=[.sl .u8 o false x.b,.int .i64 x.i,.int .i64 x.h]
def enc:(t:TC)->(o:Nat)->T t->af V
 |.int,_,x=>[.int .i64 x]
 |.u8,_,x=>[.int .u8 x]
 |.bool,_,x=>[.bool x]
 |.str,_,x=>[.str x]
 |.fq,o,x=>Ep o x
 |.Addr,o,x=>An o x
 |.vg,o,x=>Er o x
 |.Ad,o,x=>G2 o x
 |.Command,o,x=>Ao o x
 |.nA,o,x=>Es o x
 |.kP,o,x=>Et o x
 |.lW,o,x=>G3 o x
 |.Event,o,x=>Eu o x
 |.qz,o,x=>G4 o x
 |.Cell,o,x=>G5 o x
 |.Array,o,x=>G6 o x
 |.wD,o,x=>Ev o x
 |.lN,o,x=>G7 o x
 |.pU,o,x=>G8 o x
 |.mY,o,x=>G9 o x
 |.ep,o,x=>Ap o x
 |.iZ,o,x=>Ew o x
 |.uf,o,x=>Ex o x
 |.Ae,o,x=>He o x
 |.Af,o,x=>Ey o x
 |.Power,o,x=>Ez o x
 |.wE,o,x=>EA o x
 |.gB,o,x=>EB o x
 |.Ag,o,x=>Hf o x
 |.Ah,o,x=>Hg o x
 |.Receiver,o,x=>Hh o x
 |.Node,o,x=>EC o x
 |.Tree,o,x=>Hi o x
 |.Ai,o,x=>Hj o x
 |.vh,o,x=>ED o x
 |.Aj,o,x=>Hl o x
 |.Move,o,x=>EE o x
 |.lX,o,x=>Ho o x
 |.qA,o,x=>Hp o x
 |.Config,o,x=>EF o x
 |.lY,o,x=>EG o x
 |.cr,o,x=>Aq o x
 |.Act,o,x=>Hq o x
 |.Fact,o,x=>EH o x
 |.lZ,o,x=>Hr o x
 |.sl t,o,x=>[.sl t o false x]
 |.Eo,o,x=>.bool true::Aq o x
 |.Ak g,o,x=>.bool false::.int .i64 (g:Int)::[.int .i64 x]
 |.Al g,o,x=>.bool false::.int .i64 (g:Int)::Ap o x
 |.Am g,o,x=>.bool false::.int .i64 (g:Int)::An o x
 |.fnCommand g,o,x=>.bool false::.int .i64 (g:Int)::Ao o x
def Q2(o:Nat)(cs:af V):aj aR:=match cs with
 |a0::a1::a2::a3::[]=>(a0.aQ).bind λx0=>(a1.aQ).bind λx1=>(a2.aQ).bind λx2=>(a3.aQ).bind λx3=>some ⟨x0,x1,x2,x3⟩
 |_=>none
def L8(o:Nat)(cs:af V):aj aV:=match cs with
 |a0::a1::a2::[]=>(a0.aQ).bind λx0=>(a1.aQ).bind λx1=>(a2.aQ).bind λx2=>some ⟨x0,x1,x2⟩
 |_=>none
def Q3(o:Nat)(cs:af V):aj pS:=match cs with
 |a0::a1::[]=>(a0.aQ).bind λx0=>(a1.oc).bind λx1=>some ⟨x0,x1⟩
 |_=>none
def Q4(o:Nat)(cs:af V):aj LY:=match cs with
 |a0::[]=>(a0.dX .int o).bind λx0=>some ⟨x0⟩
 |_=>none
def L9(o:Nat)(cs:af V):aj aT:=match cs with
 |a0::a1::a2::a3::[]=>(a0.aQ).bind λx0=>(a1.aQ).bind λx1=>(a2.aQ).bind λx2=>(a3.aQ).bind λx3=>some ⟨x0,x1,x2,x3⟩
 |_=>none
def Q5(o:Nat)(cs:af V):aj fA:=match cs with
 |a0::a1::a2::a3::a4::a5::a6::a7::a8::a9::xU::xV::xW::xX::xY::xZ::ya::[]=>(a0.aQ).bind λx0=>(a1.aQ).bind λx1=>(a2.aQ).bind λx2=>(a3.aQ).bind λx3=>(a4.aQ).bind λx4=>(a5.aQ).bind λx5=>(a6.aQ).bind λx6=>(a7.aQ).bind λx7=>(a8.aQ).bind λx8=>(a9.aQ).bind λx9=>(xU.aQ).bind λrK=>(xV.aQ).bind λrL=>(xW.aQ).bind λrM=>(xX.aQ).bind λrN=>(xY.aQ).bind λrO=>(xZ.aQ).bind λrP=>(ya.aQ).bind λrQ=>some ⟨x0,x1,x2,x3,x4,x5,x6,x7,x8,x9,rK,rL,rM,rN,rO,rP,rQ⟩
 |_=>none
def Q6(o:Nat)(cs:af V):aj gy:=match cs with
 |a0::a1::[]=>(a0.oc).bind λx0=>(a1.aQ).bind λx1=>some ⟨x0,x1⟩
 |_=>none
def Q7(o:Nat)(cs:af V):aj dj:=match cs with
 |a0::a1::[]=>(a0.dX .kP o).bind λx0=>(a1.aQ).bind λx1=>some ⟨x0,x1⟩
 |_=>none
def Q8(o:Nat)(cs:af V):aj fo:=match cs with
 |a0::a1::a2::a3::a4::[]=>(a0.aQ).bind λx0=>(a1.aQ).bind λx1=>(a2.aQ).bind λx2=>(a3.aQ).bind λx3=>(a4.aQ).bind λx4=>some ⟨x0,⟨x1,x2,x3,x4⟩⟩
 |_=>none
def Q9(o:Nat)(cs:af V):aj gA:=match cs with
 |a0::a1::[]=>(a0.dX .int o).bind λx0=>(a1.dX .int o).bind λx1=>some ⟨x0,x1⟩
 |_=>none
def Ra(o:Nat)(cs:af V):aj cq:=match cs with
 |a0::a1::[]=>(a0.dX .int o).bind λx0=>(a1.oc).bind λx1=>some ⟨x0,x1⟩
 |_=>none
def Rb(o:Nat)(cs:af V):aj dK:=match cs with
 |a0::a1::a2::[]=>(a0.dX .Cell o).bind λx0=>(a1.dX .int o).bind λx1=>(a2.dX .int o).bind λx2=>some ⟨x0,x1,x2⟩
 |_=>none
def Rc(o:Nat)(cs:af V):aj rI:=match cs with
 |a0::a1::[]=>(a0.aQ).bind λx0=>(a1.aQ).bind λx1=>some ⟨x0,x1⟩
 |_=>none
def Rd(o:Nat)(cs:af V):aj dm:=match cs with
 |a0::a1::a2::[]=>(a0.dX .int o).bind λx0=>(a1.dX .int o).bind λx1=>(a2.aQ).bind λx2=>some ⟨x0,x1,x2⟩
 |_=>none
def Re(o:Nat)(cs:af V):aj fF:=match cs with
 |a0::a1::[]=>(a0.aQ).bind λx0=>(a1.dX .int o).bind λx1=>some ⟨x0,x1⟩
 |_=>none
def Rf(o:Nat)(cs:af V):aj eo:=match cs with
 |a0::a1::a2::[]=>(a0.dX .int o).bind λx0=>(a1.aQ).bind λx1=>(a2.oc).bind λx2=>some ⟨x0,x1,x2⟩
 |_=>none
def Ma(o:Nat)(cs:af V):aj bk:=match cs with
 |a0::a1::a2::a3::a4::a5::[]=>(a0.aQ).bind λx0=>(a1.aQ).bind λx1=>(a2.aQ).bind λx2=>(a3.oc).bind λx3=>(a4.aQ).bind λx4=>(a5.aQ).bind λx5=>some ⟨x0,x1,x2,x3,x4,x5⟩
 |_=>none
def Rg(o:Nat)(cs:af V):aj cI:=match cs with
 |a0::a1::[]=>(a0.aQ).bind λx0=>(a1.aQ).bind λx1=>some ⟨x0,x1⟩
 |_=>none
def Rh(o:Nat)(cs:af V):aj mJ:=match cs with
 |a0::a1::a2::[]=>(a0.oc).bind λx0=>(a1.aQ).bind λx1=>(a2.aQ).bind λx2=>some ⟨x0,x1,x2⟩
 |_=>none
def Ri(o:Nat)(cs:af V):aj LZ:=match cs with
 |a0::a1::[]=>(a0.dX .int o).bind λx0=>(a1.aQ).bind λx1=>some ⟨x0,x1⟩
 |_=>none
def Rj(o:Nat)(cs:af V):aj L0:=match cs with
 |a0::a1::[]=>(a0.aQ).bind λx0=>(a1.aQ).bind λx1=>some ⟨x0,x1⟩
 |_=>none
def Rk(o:Nat)(cs:af V):aj jh:=match cs with
 |a0::a1::a2::[]=>(a0.aQ).bind λx0=>(a1.aQ).bind λx1=>(a2.aQ).bind λx2=>some ⟨x0,x1,x2⟩
 |_=>none
def Ro(o:Nat)(cs:af V):aj ue:=match cs with
 |a0::a1::[]=>(a0.aQ).bind λx0=>(a1.aQ).bind λx1=>some ⟨x0,x1⟩
 |_=>none
def Rp(o:Nat)(cs:af V):aj cy:=match cs with
 |a0::a1::a2::[]=>(a0.aQ).bind λx0=>(a1.aQ).bind λx1=>(a2.aQ).bind λx2=>some ⟨x0,x1,x2⟩
 |_=>none
def Rq(o:Nat)(cs:af V):aj L1:=match cs with
 |a0::[]=>(a0.dX .str o).bind λx0=>some ⟨x0⟩
 |_=>none
def Rr(o:Nat)(cs:af V):aj L2:=match cs with
 |a0::a1::[]=>(a0.dX .int o).bind λx0=>(a1.aQ).bind λx1=>some ⟨x0,x1⟩
 |_=>none
def Rs(o:Nat)(cs:af V):aj L3:=match cs with
 |a0::a1::[]=>(a0.aQ).bind λx0=>(a1.dX .Command o).bind λx1=>some ⟨x0,x1⟩
 |_=>none
def Rt(o:Nat)(cs:af V):aj En:=match cs with
 |a0::a1::[]=>(a0.aQ).bind λx0=>(a1.aQ).bind λx1=>some ⟨x0,x1⟩
 |_=>none
def Ru(o:Nat)(cs:af V):aj G1:=match cs with
 |a0::a1::a2::[]=>(a0.aQ).bind λx0=>(a1.dX .Node o).bind λx1=>(a2.dX .Node o).bind λx2=>some ⟨x0,x1,x2⟩
 |_=>none
def Rv(o:Nat)(cs:af V):aj L4:=match cs with
 |a0::a1::a2::a3::a4::a5::[]=>(a0.aQ).bind λx0=>(a1.aQ).bind λx1=>(a2.dX .Node o).bind λx2=>(a3.dX .Node o).bind λx3=>(a4.dX .int o).bind λx4=>(a5.dX .int o).bind λx5=>some ⟨x0,⟨x1,x2,x3⟩,x4,x5⟩
 |_=>none
def Rw(o:Nat)(cs:af V):aj rJ:=match cs with
 |a0::a1::a2::[]=>(a0.aQ).bind λx0=>(a1.aQ).bind λx1=>(a2.aQ).bind λx2=>some ⟨x0,x1,x2⟩
 |_=>none
def Rx(o:Nat)(cs:af V):aj L5:=match cs with
 |a0::a1::a2::a3::a4::a5::[]=>(a0.aQ).bind λx0=>(a1.dX .int o).bind λx1=>(a2.oc).bind λx2=>(a3.dX .int o).bind λx3=>(a4.oc).bind λx4=>(a5.aQ).bind λx5=>some ⟨x0,⟨x1,x2⟩,⟨x3,x4⟩,x5⟩
 |_=>none
def Ry(o:Nat)(cs:af V):aj L6:=match cs with
 |a0::a1::a2::a3::[]=>(a0.aQ).bind λx0=>(a1.aQ).bind λx1=>(a2.aQ).bind λx2=>(a3.aQ).bind λx3=>some ⟨x0,x1,x2,x3⟩
 |_=>none
def Rz(o:Nat)(cs:af V):aj eM:=match cs with
 |a0::a1::a2::a3::a4::a5::a6::a7::[]=>(a0.aQ).bind λx0=>(a1.aQ).bind λx1=>(a2.aQ).bind λx2=>(a3.aQ).bind λx3=>(a4.aQ).bind λx4=>(a5.dX .int o).bind λx5=>(a6.aQ).bind λx6=>(a7.aQ).bind λx7=>some ⟨x0,x1,x2,x3,x4,x5,⟨x6,x7⟩⟩
 |_=>none
def RB(o:Nat)(cs:af V):aj kX:=match cs with
 |a0::a1::a2::a3::a4::a5::a6::a7::a8::a9::xU::xV::xW::xX::xY::xZ::ya::[]=>(a0.aQ).bind λx0=>(a1.aQ).bind λx1=>(a2.aQ).bind λx2=>(a3.aQ).bind λx3=>(a4.aQ).bind λx4=>(a5.dX .int o).bind λx5=>(a6.aQ).bind λx6=>(a7.aQ).bind λx7=>(a8.aQ).bind λx8=>(a9.aQ).bind λx9=>(xU.aQ).bind λrK=>(xV.aQ).bind λrL=>(xW.aQ).bind λrM=>(xX.dX .int o).bind λrN=>(xY.aQ).bind λrO=>(xZ.aQ).bind λrP=>(ya.oc).bind λrQ=>some ⟨⟨x0,x1,x2,x3,x4,x5,⟨x6,x7⟩⟩,⟨x8,x9,rK,rL,rM,rN,⟨rO,rP⟩⟩,rQ⟩
 |_=>none
def RC(o:Nat)(cs:af V):aj gu:=match cs with
 |a0::a1::a2::a3::a4::a5::a6::a7::a8::a9::xU::xV::xW::xX::xY::xZ::ya::Hs::Ht::Hu::RD::RE::RG::RH::RI::RJ::RK::RL::[]=>(a0.aQ).bind λx0=>(a1.aQ).bind λx1=>(a2.aQ).bind λx2=>(a3.aQ).bind λx3=>(a4.aQ).bind λx4=>(a5.aQ).bind λx5=>(a6.aQ).bind λx6=>(a7.aQ).bind λx7=>(a8.aQ).bind λx8=>(a9.aQ).bind λx9=>(xU.aQ).bind λrK=>(xV.aQ).bind λrL=>(xW.aQ).bind λrM=>(xX.aQ).bind λrN=>(xY.aQ).bind λrO=>(xZ.aQ).bind λrP=>(ya.aQ).bind λrQ=>(Hs.aQ).bind λAs=>(Ht.aQ).bind λAt=>(Hu.aQ).bind λAu=>(RD.aQ).bind λHv=>(RE.aQ).bind λHw=>(RG.oc).bind λHx=>(RH.aQ).bind λHy=>(RI.aQ).bind λHz=>(RJ.aQ).bind λHA=>(RK.aQ).bind λHB=>(RL.aQ).bind λHC=>some ⟨⟨x0,x1,x2,x3⟩,⟨x4,x5,x6,x7,x8,x9,rK,rL,rM,rN,rO,rP,rQ,As,At,Au,Hv⟩,⟨Hw,Hx⟩,Hy,Hz,HA,⟨HB,HC⟩⟩
 |_=>none
def RM(o:Nat)(cs:af V):aj eN:=match cs with
 |a0::a1::a2::a3::[]=>(a0.aQ).bind λx0=>(a1.aQ).bind λx1=>(a2.aQ).bind λx2=>(a3.aQ).bind λx3=>some ⟨x0,x1,x2,x3⟩
 |_=>none
def Mb(o:Nat)(cs:af V):aj ay:=match cs with
 |a0::a1::a2::a3::a4::a5::a6::a7::a8::a9::xU::xV::xW::xX::xY::xZ::ya::Hs::Ht::Hu::RD::RE::RG::RH::RI::RJ::RK::RL::a28::a29::a30::a31::a32::a33::a34::a35::a36::a37::a38::a39::a40::a41::a42::a43::a44::a45::a46::a47::a48::a49::a50::a51::a52::a53::a54::a55::a56::a57::a58::a59::a60::a61::a62::a63::a64::a65::a66::a67::a68::a69::a70::a71::a72::a73::a74::[]=>(a0.aQ).bind λx0=>(a1.aQ).bind λx1=>(a2.aQ).bind λx2=>(a3.aQ).bind λx3=>(a4.aQ).bind λx4=>(a5.aQ).bind λx5=>(a6.aQ).bind λx6=>(a7.aQ).bind λx7=>(a8.aQ).bind λx8=>(a9.aQ).bind λx9=>(xU.aQ).bind λrK=>(xV.aQ).bind λrL=>(xW.aQ).bind λrM=>(xX.aQ).bind λrN=>(xY.aQ).bind λrO=>(xZ.aQ).bind λrP=>(ya.aQ).bind λrQ=>(Hs.aQ).bind λAs=>(Ht.aQ).bind λAt=>(Hu.aQ).bind λAu=>(RD.aQ).bind λHv=>(RE.aQ).bind λHw=>(RG.oc).bind λHx=>(RH.aQ).bind λHy=>(RI.aQ).bind λHz=>(RJ.aQ).bind λHA=>(RK.aQ).bind λHB=>(RL.aQ).bind λHC=>(a28.aQ).bind λXG=>(a29.aQ).bind λXH=>(a30.aQ).bind λXI=>(a31.aQ).bind λXJ=>(a32.aQ).bind λXK=>(a33.dX .int o).bind λXL=>(a34.aQ).bind λXM=>(a35.aQ).bind λXN=>(a36.aQ).bind λXO=>(a37.aQ).bind λXP=>(a38.aQ).bind λXQ=>(a39.aQ).bind λXR=>(a40.aQ).bind λXS=>(a41.dX .int o).bind λXT=>(a42.aQ).bind λXU=>(a43.aQ).bind λXV=>(a44.oc).bind λXW=>(a45.aQ).bind λXX=>(a46.dX .kP o).bind λXY=>(a47.aQ).bind λXZ=>(a48.dX .int o).bind λX0=>(a49.dX .int o).bind λX3=>(a50.dX .Cell o).bind λX4=>(a51.dX .int o).bind λX5=>(a52.dX .int o).bind λX6=>(a53.aQ).bind λX7=>(a54.dX .int o).bind λX8=>(a55.dX .int o).bind λX9=>(a56.aQ).bind λYa=>(a57.oc).bind λYb=>(a58.dX .lN o).bind λYc=>(a59.dX .int o).bind λYd=>(a60.dX .Addr o).bind λYe=>(a61.dX .ep o).bind λYf=>(a62.dX .iZ o).bind λYg=>(a63.oc).bind λYh=>(a64.aQ).bind λYi=>(a65.aQ).bind λYj=>(a66.aQ).bind λYk=>(a67.aQ).bind λYl=>(a68.aQ).bind λYm=>(a69.aQ).bind λYn=>(a70.aQ).bind λYo=>(a71.aQ).bind λYp=>(a72.dX .gB o).bind λYq=>(a73.dX .Event o).bind λYr=>(a74.dX .lY o).bind λYs=>some ⟨⟨⟨x0,x1,x2,x3⟩,⟨x4,x5,x6,x7,x8,x9,rK,rL,rM,rN,rO,rP,rQ,As,At,Au,Hv⟩,⟨Hw,Hx⟩,Hy,Hz,HA,⟨HB,HC⟩⟩,⟨⟨XG,XH,XI,XJ,XK,XL,⟨XM,XN⟩⟩,⟨XO,XP,XQ,XR,XS,XT,⟨XU,XV⟩⟩,XW⟩,XX,⟨XY,XZ⟩,⟨X0,X3⟩,⟨X4,X5,X6⟩,⟨X7,X8⟩,⟨X9,Ya,Yb⟩,Yc,Yd,Ye,Yf,Yg,⟨Yh,Yi,Yj⟩,⟨Yk,Yl,Ym⟩,⟨Yn,Yo,Yp⟩,Yq,Yr,Ys⟩
 |_=>none
def RN(o:Nat)(cs:af V):aj iO:=match cs with
 |a0::a1::a2::a3::a4::a5::a6::a7::a8::a9::xU::xV::xW::xX::xY::xZ::ya::Hs::Ht::Hu::[]=>(a0.aQ).bind λx0=>(a1.aQ).bind λx1=>(a2.aQ).bind λx2=>(a3.aQ).bind λx3=>(a4.oc).bind λx4=>(a5.aQ).bind λx5=>(a6.aQ).bind λx6=>(a7.aQ).bind λx7=>(a8.aQ).bind λx8=>(a9.aQ).bind λx9=>(xU.aQ).bind λrK=>(xV.aQ).bind λrL=>(xW.aQ).bind λrM=>(xX.aQ).bind λrN=>(xY.aQ).bind λrO=>(xZ.aQ).bind λrP=>(ya.aQ).bind λrQ=>(Hs.dX .int o).bind λAs=>(Ht.aQ).bind λAt=>(Hu.aQ).bind λAu=>some ⟨x0,⟨x1,x2,x3,x4,x5,x6⟩,x7,x8,⟨x9,rK,rL⟩,⟨rM,rN,rO,rP,rQ,As,⟨At,Au⟩⟩⟩
 |_=>none
def RO(o:Nat)(cs:af V):aj L7:=match cs with
 |a0::a1::a2::[]=>(a0.aQ).bind λx0=>(a1.aQ).bind λx1=>(a2.aQ).bind λx2=>some ⟨x0,x1,x2⟩
 |_=>none
def RQ(o:Nat)(cs:af V):aj bG:=match cs with
 |a0::a1::a2::[]=>(a0.dX .u8 o).bind λx0=>(a1.aQ).bind λx1=>(a2.aQ).bind λx2=>some ⟨x0,x1,x2⟩
 |_=>none
def Av{α:Type}(f:V->aj α):af V->aj α
 |[a]=>f a
 |_=>none
def RR{α:Type}(f:af V->aj α):af V->aj α
 |.bool true::cs=>f cs
 |_=>none
def EI{α:Type}(g:Nat)(f:af V->aj α):af V->aj α
 |.bool false::.int .i64 n::cs=>if n=(g:Int)then f cs else none
 |_=>none
def dec:(t:TC)->(o:Nat)->af V->aj (T t)
 |.int,_,cs=>Av V.aQ cs
 |.u8,_,cs=>Av V.Q0 cs
 |.bool,_,cs=>Av V.oc cs
 |.str,_,cs=>Av V.Q1 cs
 |.fq,o,cs=>Q2 o cs
 |.Addr,o,cs=>L8 o cs
 |.vg,o,cs=>Q3 o cs
 |.Ad,o,cs=>Q4 o cs
 |.Command,o,cs=>L9 o cs
 |.nA,o,cs=>Q5 o cs
 |.kP,o,cs=>Q6 o cs
 |.lW,o,cs=>Q7 o cs
 |.Event,o,cs=>Q8 o cs
 |.qz,o,cs=>Q9 o cs
 |.Cell,o,cs=>Ra o cs
 |.Array,o,cs=>Rb o cs
 |.wD,o,cs=>Rc o cs
 |.lN,o,cs=>Rd o cs
 |.pU,o,cs=>Re o cs
 |.mY,o,cs=>Rf o cs
 |.ep,o,cs=>Ma o cs
 |.iZ,o,cs=>Rg o cs
 |.uf,o,cs=>Rh o cs
 |.Ae,o,cs=>Ri o cs
 |.Af,o,cs=>Rj o cs
 |.Power,o,cs=>Rk o cs
 |.wE,o,cs=>Ro o cs
 |.gB,o,cs=>Rp o cs
 |.Ag,o,cs=>Rq o cs
 |.Ah,o,cs=>Rr o cs
 |.Receiver,o,cs=>Rs o cs
 |.Node,o,cs=>Rt o cs
 |.Tree,o,cs=>Ru o cs
 |.Ai,o,cs=>Rv o cs
 |.vh,o,cs=>Rw o cs
 |.Aj,o,cs=>Rx o cs
 |.Move,o,cs=>Ry o cs
 |.lX,o,cs=>Rz o cs
 |.qA,o,cs=>RB o cs
 |.Config,o,cs=>RC o cs
 |.lY,o,cs=>RM o cs
 |.cr,o,cs=>Mb o cs
 |.Act,o,cs=>RN o cs
 |.Fact,o,cs=>RO o cs
 |.lZ,o,cs=>RQ o cs
 |.sl t,o,cs=>Av (V.dX t o) cs
 |.Eo,o,cs=>RR (Mb o) cs
 |.Ak g,o,cs=>EI g (Av V.aQ) cs
 |.Al g,o,cs=>EI g (Ma o) cs
 |.Am g,o,cs=>EI g (L8 o) cs
 |.fnCommand g,o,cs=>EI g (L9 o) cs
def Yt:TC->Nat->af V
 |.cr,o=>Aq o ⟨⟨⟨0,0,0,0⟩,⟨0,0,0,0,0,0,0,0,0,0,0,0,0,0,0,0,0⟩,⟨0,false⟩,0,0,0,⟨0,0⟩⟩,⟨⟨0,0,0,0,0,[],⟨0,0⟩⟩,⟨0,0,0,0,0,[],⟨0,0⟩⟩,false⟩,0,⟨[],0⟩,⟨[],[]⟩,⟨[],[],[]⟩,⟨0,[]⟩,⟨[],0,false⟩,[],[],[],[],[],⟨false,0,0⟩,⟨0,0,0⟩,⟨0,0,0⟩,[],[],[]⟩
 |_,_=>[]
theorem lO(t:TC)(o:Nat)(x:T t):(enc t o x).length=aB t:=by cases t<;>rfl
theorem qB(t:TC):0<aB t:=by cases t<;>simp[aB]
theorem bind_some{α β:Type}{a:aj α}{f:α->aj β}{b:β}(h:a.bind f=some b):∃ x,a=some x/\f x=some b:=by
 cases a with
 |none=>cases h
 |some x=>exact⟨x,rfl,h⟩
theorem agv(o:Nat)(cs:af V)(x:aR)(h:Q2 o cs=some x):bW cs (Ep o x):=by
 unfold Q2 at h;split at h
 ·obtain⟨x0,h0,h⟩:=bind_some h;obtain⟨x1,h1,h⟩:=bind_some h;obtain⟨x2,h2,h⟩:=bind_some h;obtain⟨x3,h3,h⟩:=bind_some h;injection h with h;subst h;exact(.cons (V.aS h0) (.cons (V.aS h1) (.cons (V.aS h2) (.cons (V.aS h3) bW.nil))))
 ·cases h
theorem Yu(o:Nat)(cs:af V)(x:aV)(h:L8 o cs=some x):bW cs (An o x):=by
 unfold L8 at h;split at h
 ·obtain⟨x0,h0,h⟩:=bind_some h;obtain⟨x1,h1,h⟩:=bind_some h;obtain⟨x2,h2,h⟩:=bind_some h;injection h with h;subst h;exact(.cons (V.aS h0) (.cons (V.aS h1) (.cons (V.aS h2) bW.nil)))
 ·cases h
theorem agw(o:Nat)(cs:af V)(x:pS)(h:Q3 o cs=some x):bW cs (Er o x):=by
 unfold Q3 at h;split at h
 ·obtain⟨x0,h0,h⟩:=bind_some h;obtain⟨x1,h1,h⟩:=bind_some h;injection h with h;subst h;exact(.cons (V.aS h0) (.cons (V.pV h1) bW.nil))
 ·cases h
theorem agx(o:Nat)(cs:af V)(x:LY)(h:Q4 o cs=some x):bW cs (G2 o x):=by
 unfold Q4 at h;split at h
 ·obtain⟨x0,h0,h⟩:=bind_some h;injection h with h;subst h;exact(.cons (V.eJ h0) bW.nil)
 ·cases h
theorem Yv(o:Nat)(cs:af V)(x:aT)(h:L9 o cs=some x):bW cs (Ao o x):=by
 unfold L9 at h;split at h
 ·obtain⟨x0,h0,h⟩:=bind_some h;obtain⟨x1,h1,h⟩:=bind_some h;obtain⟨x2,h2,h⟩:=bind_some h;obtain⟨x3,h3,h⟩:=bind_some h;injection h with h;subst h;exact(.cons (V.aS h0) (.cons (V.aS h1) (.cons (V.aS h2) (.cons (V.aS h3) bW.nil))))
 ·cases h
theorem agy(o:Nat)(cs:af V)(x:fA)(h:Q5 o cs=some x):bW cs (Es o x):=by
 unfold Q5 at h;split at h
 ·obtain⟨x0,h0,h⟩:=bind_some h;obtain⟨x1,h1,h⟩:=bind_some h;obtain⟨x2,h2,h⟩:=bind_some h;obtain⟨x3,h3,h⟩:=bind_some h;obtain⟨x4,h4,h⟩:=bind_some h;obtain⟨x5,h5,h⟩:=bind_some h;obtain⟨x6,h6,h⟩:=bind_some h;obtain⟨x7,h7,h⟩:=bind_some h;obtain⟨x8,h8,h⟩:=bind_some h;obtain⟨x9,h9,h⟩:=bind_some h;obtain⟨rK,fJ,h⟩:=bind_some h;obtain⟨rL,gT,h⟩:=bind_some h;obtain⟨rM,jz,h⟩:=bind_some h;obtain⟨rN,gU,h⟩:=bind_some h;obtain⟨rO,js,h⟩:=bind_some h;obtain⟨rP,jA,h⟩:=bind_some h;obtain⟨rQ,gC,h⟩:=bind_some h;injection h with h;subst h;exact(.cons (V.aS h0) (.cons (V.aS h1) (.cons (V.aS h2) (.cons (V.aS h3) (.cons (V.aS h4) (.cons (V.aS h5) (.cons (V.aS h6) (.cons (V.aS h7) (.cons (V.aS h8) (.cons (V.aS h9) (.cons (V.aS fJ) (.cons (V.aS gT) (.cons (V.aS jz) (.cons (V.aS gU) (.cons (V.aS js) (.cons (V.aS jA) (.cons (V.aS gC) bW.nil)))))))))))))))))
 ·cases h
theorem agz(o:Nat)(cs:af V)(x:gy)(h:Q6 o cs=some x):bW cs (Et o x):=by
 unfold Q6 at h;split at h
 ·obtain⟨x0,h0,h⟩:=bind_some h;obtain⟨x1,h1,h⟩:=bind_some h;injection h with h;subst h;exact(.cons (V.pV h0) (.cons (V.aS h1) bW.nil))
 ·cases h
theorem agA(o:Nat)(cs:af V)(x:dj)(h:Q7 o cs=some x):bW cs (G3 o x):=by
 unfold Q7 at h;split at h
 ·obtain⟨x0,h0,h⟩:=bind_some h;obtain⟨x1,h1,h⟩:=bind_some h;injection h with h;subst h;exact(.cons (V.eJ h0) (.cons (V.aS h1) bW.nil))
 ·cases h
theorem agB(o:Nat)(cs:af V)(x:fo)(h:Q8 o cs=some x):bW cs (Eu o x):=by
 unfold Q8 at h;split at h
 ·obtain⟨x0,h0,h⟩:=bind_some h;obtain⟨x1,h1,h⟩:=bind_some h;obtain⟨x2,h2,h⟩:=bind_some h;obtain⟨x3,h3,h⟩:=bind_some h;obtain⟨x4,h4,h⟩:=bind_some h;injection h with h;subst h;exact(.cons (V.aS h0) (.cons (V.aS h1) (.cons (V.aS h2) (.cons (V.aS h3) (.cons (V.aS h4) bW.nil)))))
 ·cases h
theorem agC(o:Nat)(cs:af V)(x:gA)(h:Q9 o cs=some x):bW cs (G4 o x):=by
 unfold Q9 at h;split at h
 ·obtain⟨x0,h0,h⟩:=bind_some h;obtain⟨x1,h1,h⟩:=bind_some h;injection h with h;subst h;exact(.cons (V.eJ h0) (.cons (V.eJ h1) bW.nil))
 ·cases h
theorem agD(o:Nat)(cs:af V)(x:cq)(h:Ra o cs=some x):bW cs (G5 o x):=by
 unfold Ra at h;split at h
 ·obtain⟨x0,h0,h⟩:=bind_some h;obtain⟨x1,h1,h⟩:=bind_some h;injection h with h;subst h;exact(.cons (V.eJ h0) (.cons (V.pV h1) bW.nil))
 ·cases h
theorem agE(o:Nat)(cs:af V)(x:dK)(h:Rb o cs=some x):bW cs (G6 o x):=by
 unfold Rb at h;split at h
 ·obtain⟨x0,h0,h⟩:=bind_some h;obtain⟨x1,h1,h⟩:=bind_some h;obtain⟨x2,h2,h⟩:=bind_some h;injection h with h;subst h;exact(.cons (V.eJ h0) (.cons (V.eJ h1) (.cons (V.eJ h2) bW.nil)))
 ·cases h
theorem agF(o:Nat)(cs:af V)(x:rI)(h:Rc o cs=some x):bW cs (Ev o x):=by
 unfold Rc at h;split at h
 ·obtain⟨x0,h0,h⟩:=bind_some h;obtain⟨x1,h1,h⟩:=bind_some h;injection h with h;subst h;exact(.cons (V.aS h0) (.cons (V.aS h1) bW.nil))
 ·cases h
theorem agG(o:Nat)(cs:af V)(x:dm)(h:Rd o cs=some x):bW cs (G7 o x):=by
 unfold Rd at h;split at h
 ·obtain⟨x0,h0,h⟩:=bind_some h;obtain⟨x1,h1,h⟩:=bind_some h;obtain⟨x2,h2,h⟩:=bind_some h;injection h with h;subst h;exact(.cons (V.eJ h0) (.cons (V.eJ h1) (.cons (V.aS h2) bW.nil)))
 ·cases h
theorem agH(o:Nat)(cs:af V)(x:fF)(h:Re o cs=some x):bW cs (G8 o x):=by
 unfold Re at h;split at h
 ·obtain⟨x0,h0,h⟩:=bind_some h;obtain⟨x1,h1,h⟩:=bind_some h;injection h with h;subst h;exact(.cons (V.aS h0) (.cons (V.eJ h1) bW.nil))
 ·cases h
theorem agI(o:Nat)(cs:af V)(x:eo)(h:Rf o cs=some x):bW cs (G9 o x):=by
 unfold Rf at h;split at h
 ·obtain⟨x0,h0,h⟩:=bind_some h;obtain⟨x1,h1,h⟩:=bind_some h;obtain⟨x2,h2,h⟩:=bind_some h;injection h with h;subst h;exact(.cons (V.eJ h0) (.cons (V.aS h1) (.cons (V.pV h2) bW.nil)))
 ·cases h
theorem Yw(o:Nat)(cs:af V)(x:bk)(h:Ma o cs=some x):bW cs (Ap o x):=by
 unfold Ma at h;split at h
 ·obtain⟨x0,h0,h⟩:=bind_some h;obtain⟨x1,h1,h⟩:=bind_some h;obtain⟨x2,h2,h⟩:=bind_some h;obtain⟨x3,h3,h⟩:=bind_some h;obtain⟨x4,h4,h⟩:=bind_some h;obtain⟨x5,h5,h⟩:=bind_some h;injection h with h;subst h;exact(.cons (V.aS h0) (.cons (V.aS h1) (.cons (V.aS h2) (.cons (V.pV h3) (.cons (V.aS h4) (.cons (V.aS h5) bW.nil))))))
 ·cases h
theorem agJ(o:Nat)(cs:af V)(x:cI)(h:Rg o cs=some x):bW cs (Ew o x):=by
 unfold Rg at h;split at h
 ·obtain⟨x0,h0,h⟩:=bind_some h;obtain⟨x1,h1,h⟩:=bind_some h;injection h with h;subst h;exact(.cons (V.aS h0) (.cons (V.aS h1) bW.nil))
 ·cases h
theorem agK(o:Nat)(cs:af V)(x:mJ)(h:Rh o cs=some x):bW cs (Ex o x):=by
 unfold Rh at h;split at h
 ·obtain⟨x0,h0,h⟩:=bind_some h;obtain⟨x1,h1,h⟩:=bind_some h;obtain⟨x2,h2,h⟩:=bind_some h;injection h with h;subst h;exact(.cons (V.pV h0) (.cons (V.aS h1) (.cons (V.aS h2) bW.nil)))
 ·cases h
theorem agL(o:Nat)(cs:af V)(x:LZ)(h:Ri o cs=some x):bW cs (He o x):=by
 unfold Ri at h;split at h
 ·obtain⟨x0,h0,h⟩:=bind_some h;obtain⟨x1,h1,h⟩:=bind_some h;injection h with h;subst h;exact(.cons (V.eJ h0) (.cons (V.aS h1) bW.nil))
 ·cases h
theorem agM(o:Nat)(cs:af V)(x:L0)(h:Rj o cs=some x):bW cs (Ey o x):=by
 unfold Rj at h;split at h
 ·obtain⟨x0,h0,h⟩:=bind_some h;obtain⟨x1,h1,h⟩:=bind_some h;injection h with h;subst h;exact(.cons (V.aS h0) (.cons (V.aS h1) bW.nil))
 ·cases h
theorem agN(o:Nat)(cs:af V)(x:jh)(h:Rk o cs=some x):bW cs (Ez o x):=by
 unfold Rk at h;split at h
 ·obtain⟨x0,h0,h⟩:=bind_some h;obtain⟨x1,h1,h⟩:=bind_some h;obtain⟨x2,h2,h⟩:=bind_some h;injection h with h;subst h;exact(.cons (V.aS h0) (.cons (V.aS h1) (.cons (V.aS h2) bW.nil)))
 ·cases h
theorem agO(o:Nat)(cs:af V)(x:ue)(h:Ro o cs=some x):bW cs (EA o x):=by
 unfold Ro at h;split at h
 ·obtain⟨x0,h0,h⟩:=bind_some h;obtain⟨x1,h1,h⟩:=bind_some h;injection h with h;subst h;exact(.cons (V.aS h0) (.cons (V.aS h1) bW.nil))
 ·cases h
theorem agP(o:Nat)(cs:af V)(x:cy)(h:Rp o cs=some x):bW cs (EB o x):=by
 unfold Rp at h;split at h
 ·obtain⟨x0,h0,h⟩:=bind_some h;obtain⟨x1,h1,h⟩:=bind_some h;obtain⟨x2,h2,h⟩:=bind_some h;injection h with h;subst h;exact(.cons (V.aS h0) (.cons (V.aS h1) (.cons (V.aS h2) bW.nil)))
 ·cases h
theorem agQ(o:Nat)(cs:af V)(x:L1)(h:Rq o cs=some x):bW cs (Hf o x):=by
 unfold Rq at h;split at h
 ·obtain⟨x0,h0,h⟩:=bind_some h;injection h with h;subst h;exact(.cons (V.eJ h0) bW.nil)
 ·cases h
theorem agR(o:Nat)(cs:af V)(x:L2)(h:Rr o cs=some x):bW cs (Hg o x):=by
 unfold Rr at h;split at h
 ·obtain⟨x0,h0,h⟩:=bind_some h;obtain⟨x1,h1,h⟩:=bind_some h;injection h with h;subst h;exact(.cons (V.eJ h0) (.cons (V.aS h1) bW.nil))
 ·cases h
theorem agS(o:Nat)(cs:af V)(x:L3)(h:Rs o cs=some x):bW cs (Hh o x):=by
 unfold Rs at h;split at h
 ·obtain⟨x0,h0,h⟩:=bind_some h;obtain⟨x1,h1,h⟩:=bind_some h;injection h with h;subst h;exact(.cons (V.aS h0) (.cons (V.eJ h1) bW.nil))
 ·cases h
theorem agT(o:Nat)(cs:af V)(x:En)(h:Rt o cs=some x):bW cs (EC o x):=by
 unfold Rt at h;split at h
 ·obtain⟨x0,h0,h⟩:=bind_some h;obtain⟨x1,h1,h⟩:=bind_some h;injection h with h;subst h;exact(.cons (V.aS h0) (.cons (V.aS h1) bW.nil))
 ·cases h
theorem agU(o:Nat)(cs:af V)(x:G1)(h:Ru o cs=some x):bW cs (Hi o x):=by
 unfold Ru at h;split at h
 ·obtain⟨x0,h0,h⟩:=bind_some h;obtain⟨x1,h1,h⟩:=bind_some h;obtain⟨x2,h2,h⟩:=bind_some h;injection h with h;subst h;exact(.cons (V.aS h0) (.cons (V.eJ h1) (.cons (V.eJ h2) bW.nil)))
 ·cases h
theorem agV(o:Nat)(cs:af V)(x:L4)(h:Rv o cs=some x):bW cs (Hj o x):=by
 unfold Rv at h;split at h
 ·obtain⟨x0,h0,h⟩:=bind_some h;obtain⟨x1,h1,h⟩:=bind_some h;obtain⟨x2,h2,h⟩:=bind_some h;obtain⟨x3,h3,h⟩:=bind_some h;obtain⟨x4,h4,h⟩:=bind_some h;obtain⟨x5,h5,h⟩:=bind_some h;injection h with h;subst h;exact(.cons (V.aS h0) (.cons (V.aS h1) (.cons (V.eJ h2) (.cons (V.eJ h3) (.cons (V.eJ h4) (.cons (V.eJ h5) bW.nil))))))
 ·cases h
theorem agW(o:Nat)(cs:af V)(x:rJ)(h:Rw o cs=some x):bW cs (ED o x):=by
 unfold Rw at h;split at h
 ·obtain⟨x0,h0,h⟩:=bind_some h;obtain⟨x1,h1,h⟩:=bind_some h;obtain⟨x2,h2,h⟩:=bind_some h;injection h with h;subst h;exact(.cons (V.aS h0) (.cons (V.aS h1) (.cons (V.aS h2) bW.nil)))
 ·cases h
theorem agX(o:Nat)(cs:af V)(x:L5)(h:Rx o cs=some x):bW cs (Hl o x):=by
 unfold Rx at h;split at h
 ·obtain⟨x0,h0,h⟩:=bind_some h;obtain⟨x1,h1,h⟩:=bind_some h;obtain⟨x2,h2,h⟩:=bind_some h;obtain⟨x3,h3,h⟩:=bind_some h;obtain⟨x4,h4,h⟩:=bind_some h;obtain⟨x5,h5,h⟩:=bind_some h;injection h with h;subst h;exact(.cons (V.aS h0) (.cons (V.eJ h1) (.cons (V.pV h2) (.cons (V.eJ h3) (.cons (V.pV h4) (.cons (V.aS h5) bW.nil))))))
 ·cases h
theorem agY(o:Nat)(cs:af V)(x:L6)(h:Ry o cs=some x):bW cs (EE o x):=by
 unfold Ry at h;split at h
 ·obtain⟨x0,h0,h⟩:=bind_some h;obtain⟨x1,h1,h⟩:=bind_some h;obtain⟨x2,h2,h⟩:=bind_some h;obtain⟨x3,h3,h⟩:=bind_some h;injection h with h;subst h;exact(.cons (V.aS h0) (.cons (V.aS h1) (.cons (V.aS h2) (.cons (V.aS h3) bW.nil))))
 ·cases h
theorem agZ(o:Nat)(cs:af V)(x:eM)(h:Rz o cs=some x):bW cs (Ho o x):=by
 unfold Rz at h;split at h
 ·obtain⟨x0,h0,h⟩:=bind_some h;obtain⟨x1,h1,h⟩:=bind_some h;obtain⟨x2,h2,h⟩:=bind_some h;obtain⟨x3,h3,h⟩:=bind_some h;obtain⟨x4,h4,h⟩:=bind_some h;obtain⟨x5,h5,h⟩:=bind_some h;obtain⟨x6,h6,h⟩:=bind_some h;obtain⟨x7,h7,h⟩:=bind_some h;injection h with h;subst h;exact(.cons (V.aS h0) (.cons (V.aS h1) (.cons (V.aS h2) (.cons (V.aS h3) (.cons (V.aS h4) (.cons (V.eJ h5) (.cons (V.aS h6) (.cons (V.aS h7) bW.nil))))))))
 ·cases h
theorem ag0(o:Nat)(cs:af V)(x:kX)(h:RB o cs=some x):bW cs (Hp o x):=by
 unfold RB at h;split at h
 ·obtain⟨x0,h0,h⟩:=bind_some h;obtain⟨x1,h1,h⟩:=bind_some h;obtain⟨x2,h2,h⟩:=bind_some h;obtain⟨x3,h3,h⟩:=bind_some h;obtain⟨x4,h4,h⟩:=bind_some h;obtain⟨x5,h5,h⟩:=bind_some h;obtain⟨x6,h6,h⟩:=bind_some h;obtain⟨x7,h7,h⟩:=bind_some h;obtain⟨x8,h8,h⟩:=bind_some h;obtain⟨x9,h9,h⟩:=bind_some h;obtain⟨rK,fJ,h⟩:=bind_some h;obtain⟨rL,gT,h⟩:=bind_some h;obtain⟨rM,jz,h⟩:=bind_some h;obtain⟨rN,gU,h⟩:=bind_some h;obtain⟨rO,js,h⟩:=bind_some h;obtain⟨rP,jA,h⟩:=bind_some h;obtain⟨rQ,gC,h⟩:=bind_some h;injection h with h;subst h;exact(.cons (V.aS h0) (.cons (V.aS h1) (.cons (V.aS h2) (.cons (V.aS h3) (.cons (V.aS h4) (.cons (V.eJ h5) (.cons (V.aS h6) (.cons (V.aS h7) (.cons (V.aS h8) (.cons (V.aS h9) (.cons (V.aS fJ) (.cons (V.aS gT) (.cons (V.aS jz) (.cons (V.eJ gU) (.cons (V.aS js) (.cons (V.aS jA) (.cons (V.pV gC) bW.nil)))))))))))))))))
 ·cases h
theorem ag1(o:Nat)(cs:af V)(x:gu)(h:RC o cs=some x):bW cs (EF o x):=by
 unfold RC at h;split at h
 ·obtain⟨x0,h0,h⟩:=bind_some h;obtain⟨x1,h1,h⟩:=bind_some h;obtain⟨x2,h2,h⟩:=bind_some h;obtain⟨x3,h3,h⟩:=bind_some h;obtain⟨x4,h4,h⟩:=bind_some h;obtain⟨x5,h5,h⟩:=bind_some h;obtain⟨x6,h6,h⟩:=bind_some h;obtain⟨x7,h7,h⟩:=bind_some h;obtain⟨x8,h8,h⟩:=bind_some h;obtain⟨x9,h9,h⟩:=bind_some h;obtain⟨rK,fJ,h⟩:=bind_some h;obtain⟨rL,gT,h⟩:=bind_some h;obtain⟨rM,jz,h⟩:=bind_some h;obtain⟨rN,gU,h⟩:=bind_some h;obtain⟨rO,js,h⟩:=bind_some h;obtain⟨rP,jA,h⟩:=bind_some h;obtain⟨rQ,gC,h⟩:=bind_some h;obtain⟨As,od,h⟩:=bind_some h;obtain⟨At,lP,h⟩:=bind_some h;obtain⟨Au,oY,h⟩:=bind_some h;obtain⟨Hv,mZ,h⟩:=bind_some h;obtain⟨Hw,vi,h⟩:=bind_some h;obtain⟨Hx,sN,h⟩:=bind_some h;obtain⟨Hy,HD,h⟩:=bind_some h;obtain⟨Hz,wF,h⟩:=bind_some h;obtain⟨HA,yb,h⟩:=bind_some h;obtain⟨HB,Ch,h⟩:=bind_some h;obtain⟨HC,HE,h⟩:=bind_some h;injection h with h;subst h;exact(.cons (V.aS h0) (.cons (V.aS h1) (.cons (V.aS h2) (.cons (V.aS h3) (.cons (V.aS h4) (.cons (V.aS h5) (.cons (V.aS h6) (.cons (V.aS h7) (.cons (V.aS h8) (.cons (V.aS h9) (.cons (V.aS fJ) (.cons (V.aS gT) (.cons (V.aS jz) (.cons (V.aS gU) (.cons (V.aS js) (.cons (V.aS jA) (.cons (V.aS gC) (.cons (V.aS od) (.cons (V.aS lP) (.cons (V.aS oY) (.cons (V.aS mZ) (.cons (V.aS vi) (.cons (V.pV sN) (.cons (V.aS HD) (.cons (V.aS wF) (.cons (V.aS yb) (.cons (V.aS Ch) (.cons (V.aS HE) bW.nil))))))))))))))))))))))))))))
 ·cases h
theorem ag2(o:Nat)(cs:af V)(x:eN)(h:RM o cs=some x):bW cs (EG o x):=by
 unfold RM at h;split at h
 ·obtain⟨x0,h0,h⟩:=bind_some h;obtain⟨x1,h1,h⟩:=bind_some h;obtain⟨x2,h2,h⟩:=bind_some h;obtain⟨x3,h3,h⟩:=bind_some h;injection h with h;subst h;exact(.cons (V.aS h0) (.cons (V.aS h1) (.cons (V.aS h2) (.cons (V.aS h3) bW.nil))))
 ·cases h
theorem Yx(o:Nat)(cs:af V)(x:ay)(h:Mb o cs=some x):bW cs (Aq o x):=by
 unfold Mb at h;split at h
 ·obtain⟨x0,h0,h⟩:=bind_some h;obtain⟨x1,h1,h⟩:=bind_some h;obtain⟨x2,h2,h⟩:=bind_some h;obtain⟨x3,h3,h⟩:=bind_some h;obtain⟨x4,h4,h⟩:=bind_some h;obtain⟨x5,h5,h⟩:=bind_some h;obtain⟨x6,h6,h⟩:=bind_some h;obtain⟨x7,h7,h⟩:=bind_some h;obtain⟨x8,h8,h⟩:=bind_some h;obtain⟨x9,h9,h⟩:=bind_some h;obtain⟨rK,fJ,h⟩:=bind_some h;obtain⟨rL,gT,h⟩:=bind_some h;obtain⟨rM,jz,h⟩:=bind_some h;obtain⟨rN,gU,h⟩:=bind_some h;obtain⟨rO,js,h⟩:=bind_some h;obtain⟨rP,jA,h⟩:=bind_some h;obtain⟨rQ,gC,h⟩:=bind_some h;obtain⟨As,od,h⟩:=bind_some h;obtain⟨At,lP,h⟩:=bind_some h;obtain⟨Au,oY,h⟩:=bind_some h;obtain⟨Hv,mZ,h⟩:=bind_some h;obtain⟨Hw,vi,h⟩:=bind_some h;obtain⟨Hx,sN,h⟩:=bind_some h;obtain⟨Hy,HD,h⟩:=bind_some h;obtain⟨Hz,wF,h⟩:=bind_some h;obtain⟨HA,yb,h⟩:=bind_some h;obtain⟨HB,Ch,h⟩:=bind_some h;obtain⟨HC,HE,h⟩:=bind_some h;obtain⟨XG,h28,h⟩:=bind_some h;obtain⟨XH,HF,h⟩:=bind_some h;obtain⟨XI,HG,h⟩:=bind_some h;obtain⟨XJ,Yy,h⟩:=bind_some h;obtain⟨XK,Ci,h⟩:=bind_some h;obtain⟨XL,RS,h⟩:=bind_some h;obtain⟨XM,RT,h⟩:=bind_some h;obtain⟨XN,RU,h⟩:=bind_some h;obtain⟨XO,HH,h⟩:=bind_some h;obtain⟨XP,h37,h⟩:=bind_some h;obtain⟨XQ,RX,h⟩:=bind_some h;obtain⟨XR,h39,h⟩:=bind_some h;obtain⟨XS,RY,h⟩:=bind_some h;obtain⟨XT,RZ,h⟩:=bind_some h;obtain⟨XU,h42,h⟩:=bind_some h;obtain⟨XV,R0,h⟩:=bind_some h;obtain⟨XW,h44,h⟩:=bind_some h;obtain⟨XX,h45,h⟩:=bind_some h;obtain⟨XY,h46,h⟩:=bind_some h;obtain⟨XZ,HI,h⟩:=bind_some h;obtain⟨X0,h48,h⟩:=bind_some h;obtain⟨X3,h49,h⟩:=bind_some h;obtain⟨X4,HJ,h⟩:=bind_some h;obtain⟨X5,h51,h⟩:=bind_some h;obtain⟨X6,h52,h⟩:=bind_some h;obtain⟨X7,HK,h⟩:=bind_some h;obtain⟨X8,h54,h⟩:=bind_some h;obtain⟨X9,h55,h⟩:=bind_some h;obtain⟨Ya,h56,h⟩:=bind_some h;obtain⟨Yb,R1,h⟩:=bind_some h;obtain⟨Yc,R2,h⟩:=bind_some h;obtain⟨Yd,h59,h⟩:=bind_some h;obtain⟨Ye,R3,h⟩:=bind_some h;obtain⟨Yf,h61,h⟩:=bind_some h;obtain⟨Yg,h62,h⟩:=bind_some h;obtain⟨Yh,QY,h⟩:=bind_some h;obtain⟨Yi,HL,h⟩:=bind_some h;obtain⟨Yj,h65,h⟩:=bind_some h;obtain⟨Yk,h66,h⟩:=bind_some h;obtain⟨Yl,HM,h⟩:=bind_some h;obtain⟨Ym,h68,h⟩:=bind_some h;obtain⟨Yn,h69,h⟩:=bind_some h;obtain⟨Yo,HN,h⟩:=bind_some h;obtain⟨Yp,h71,h⟩:=bind_some h;obtain⟨Yq,h72,h⟩:=bind_some h;obtain⟨Yr,h73,h⟩:=bind_some h;obtain⟨Ys,h74,h⟩:=bind_some h;injection h with h;subst h;exact(.cons (V.aS h0) (.cons (V.aS h1) (.cons (V.aS h2) (.cons (V.aS h3) (.cons (V.aS h4) (.cons (V.aS h5) (.cons (V.aS h6) (.cons (V.aS h7) (.cons (V.aS h8) (.cons (V.aS h9) (.cons (V.aS fJ) (.cons (V.aS gT) (.cons (V.aS jz) (.cons (V.aS gU) (.cons (V.aS js) (.cons (V.aS jA) (.cons (V.aS gC) (.cons (V.aS od) (.cons (V.aS lP) (.cons (V.aS oY) (.cons (V.aS mZ) (.cons (V.aS vi) (.cons (V.pV sN) (.cons (V.aS HD) (.cons (V.aS wF) (.cons (V.aS yb) (.cons (V.aS Ch) (.cons (V.aS HE) (.cons (V.aS h28) (.cons (V.aS HF) (.cons (V.aS HG) (.cons (V.aS Yy) (.cons (V.aS Ci) (.cons (V.eJ RS) (.cons (V.aS RT) (.cons (V.aS RU) (.cons (V.aS HH) (.cons (V.aS h37) (.cons (V.aS RX) (.cons (V.aS h39) (.cons (V.aS RY) (.cons (V.eJ RZ) (.cons (V.aS h42) (.cons (V.aS R0) (.cons (V.pV h44) (.cons (V.aS h45) (.cons (V.eJ h46) (.cons (V.aS HI) (.cons (V.eJ h48) (.cons (V.eJ h49) (.cons (V.eJ HJ) (.cons (V.eJ h51) (.cons (V.eJ h52) (.cons (V.aS HK) (.cons (V.eJ h54) (.cons (V.eJ h55) (.cons (V.aS h56) (.cons (V.pV R1) (.cons (V.eJ R2) (.cons (V.eJ h59) (.cons (V.eJ R3) (.cons (V.eJ h61) (.cons (V.eJ h62) (.cons (V.pV QY) (.cons (V.aS HL) (.cons (V.aS h65) (.cons (V.aS h66) (.cons (V.aS HM) (.cons (V.aS h68) (.cons (V.aS h69) (.cons (V.aS HN) (.cons (V.aS h71) (.cons (V.eJ h72) (.cons (V.eJ h73) (.cons (V.eJ h74) bW.nil)))))))))))))))))))))))))))))))))))))))))))))))))))))))))))))))))))))))))))
 ·cases h
theorem ag3(o:Nat)(cs:af V)(x:iO)(h:RN o cs=some x):bW cs (Hq o x):=by
 unfold RN at h;split at h
 ·obtain⟨x0,h0,h⟩:=bind_some h;obtain⟨x1,h1,h⟩:=bind_some h;obtain⟨x2,h2,h⟩:=bind_some h;obtain⟨x3,h3,h⟩:=bind_some h;obtain⟨x4,h4,h⟩:=bind_some h;obtain⟨x5,h5,h⟩:=bind_some h;obtain⟨x6,h6,h⟩:=bind_some h;obtain⟨x7,h7,h⟩:=bind_some h;obtain⟨x8,h8,h⟩:=bind_some h;obtain⟨x9,h9,h⟩:=bind_some h;obtain⟨rK,fJ,h⟩:=bind_some h;obtain⟨rL,gT,h⟩:=bind_some h;obtain⟨rM,jz,h⟩:=bind_some h;obtain⟨rN,gU,h⟩:=bind_some h;obtain⟨rO,js,h⟩:=bind_some h;obtain⟨rP,jA,h⟩:=bind_some h;obtain⟨rQ,gC,h⟩:=bind_some h;obtain⟨As,od,h⟩:=bind_some h;obtain⟨At,lP,h⟩:=bind_some h;obtain⟨Au,oY,h⟩:=bind_some h;injection h with h;subst h;exact(.cons (V.aS h0) (.cons (V.aS h1) (.cons (V.aS h2) (.cons (V.aS h3) (.cons (V.pV h4) (.cons (V.aS h5) (.cons (V.aS h6) (.cons (V.aS h7) (.cons (V.aS h8) (.cons (V.aS h9) (.cons (V.aS fJ) (.cons (V.aS gT) (.cons (V.aS jz) (.cons (V.aS gU) (.cons (V.aS js) (.cons (V.aS jA) (.cons (V.aS gC) (.cons (V.eJ od) (.cons (V.aS lP) (.cons (V.aS oY) bW.nil))))))))))))))))))))
 ·cases h
theorem ag4(o:Nat)(cs:af V)(x:L7)(h:RO o cs=some x):bW cs (EH o x):=by
 unfold RO at h;split at h
 ·obtain⟨x0,h0,h⟩:=bind_some h;obtain⟨x1,h1,h⟩:=bind_some h;obtain⟨x2,h2,h⟩:=bind_some h;injection h with h;subst h;exact(.cons (V.aS h0) (.cons (V.aS h1) (.cons (V.aS h2) bW.nil)))
 ·cases h
theorem ag5(o:Nat)(cs:af V)(x:bG)(h:RQ o cs=some x):bW cs (Hr o x):=by
 unfold RQ at h;split at h
 ·obtain⟨x0,h0,h⟩:=bind_some h;obtain⟨x1,h1,h⟩:=bind_some h;obtain⟨x2,h2,h⟩:=bind_some h;injection h with h;subst h;exact(.cons (V.eJ h0) (.cons (V.aS h1) (.cons (V.aS h2) bW.nil)))
 ·cases h
theorem EJ{α:Type}{f:V->aj α}{g:α->V}(hf:∀ x a,f x=some a->Wk x (g a)){cs:af V}{x:α}(h:Av f cs=some x):bW cs [g x]:=by
 unfold Av at h;split at h
 ·exact .cons (hf _ _ h) .nil
 ·cases h
theorem ag6{α:Type}{f:af V->aj α}{g:α->af V}(hf:∀ x a,f x=some a->bW x (g a)){cs:af V}{x:α}(h:RR f cs=some x):bW cs (.bool true :: g x):=by
 unfold RR at h;split at h
 ·exact .cons (.same _) (hf _ _ h)
 ·cases h
theorem Mc{α:Type}{n:Nat}{f:af V->aj α}{g:α->af V}(hf:∀ x a,f x=some a->bW x (g a)){cs:af V}{x:α}(h:EI n f cs=some x):bW cs (.bool false :: .int .i64 (n:Int) :: g x):=by
 unfold EI at h;split at h
 ·split at h
  next hn=>subst hn;exact .cons (.same _) (.cons (.same _) (hf _ _ h))
  ·cases h
 ·cases h
theorem nB:(t:TC)->(o:Nat)->(cs:af V)->(x:T t)->dec t o cs=some x->bW cs (enc t o x)
 |.int,_,_,_,h=>EJ (g:=λn=>.int .i64 n) (λ_ _=>V.aS) h
 |.u8,_,_,_,h=>EJ (g:=λn=>.int .u8 n) (λ_ _=>V.agt) h
 |.bool,_,_,_,h=>EJ (g:=λn=>.bool n) (λ_ _=>V.pV) h
 |.str,_,_,_,h=>EJ (g:=λn=>.str n) (λ_ _=>V.agu) h
 |.fq,o,cs,x,h=>agv o cs x h
 |.Addr,o,cs,x,h=>Yu o cs x h
 |.vg,o,cs,x,h=>agw o cs x h
 |.Ad,o,cs,x,h=>agx o cs x h
 |.Command,o,cs,x,h=>Yv o cs x h
 |.nA,o,cs,x,h=>agy o cs x h
 |.kP,o,cs,x,h=>agz o cs x h
 |.lW,o,cs,x,h=>agA o cs x h
 |.Event,o,cs,x,h=>agB o cs x h
 |.qz,o,cs,x,h=>agC o cs x h
 |.Cell,o,cs,x,h=>agD o cs x h
 |.Array,o,cs,x,h=>agE o cs x h
 |.wD,o,cs,x,h=>agF o cs x h
 |.lN,o,cs,x,h=>agG o cs x h
 |.pU,o,cs,x,h=>agH o cs x h
 |.mY,o,cs,x,h=>agI o cs x h
 |.ep,o,cs,x,h=>Yw o cs x h
 |.iZ,o,cs,x,h=>agJ o cs x h
 |.uf,o,cs,x,h=>agK o cs x h
 |.Ae,o,cs,x,h=>agL o cs x h
 |.Af,o,cs,x,h=>agM o cs x h
 |.Power,o,cs,x,h=>agN o cs x h
 |.wE,o,cs,x,h=>agO o cs x h
 |.gB,o,cs,x,h=>agP o cs x h
 |.Ag,o,cs,x,h=>agQ o cs x h
 |.Ah,o,cs,x,h=>agR o cs x h
 |.Receiver,o,cs,x,h=>agS o cs x h
 |.Node,o,cs,x,h=>agT o cs x h
 |.Tree,o,cs,x,h=>agU o cs x h
 |.Ai,o,cs,x,h=>agV o cs x h
 |.vh,o,cs,x,h=>agW o cs x h
 |.Aj,o,cs,x,h=>agX o cs x h
 |.Move,o,cs,x,h=>agY o cs x h
 |.lX,o,cs,x,h=>agZ o cs x h
 |.qA,o,cs,x,h=>ag0 o cs x h
 |.Config,o,cs,x,h=>ag1 o cs x h
 |.lY,o,cs,x,h=>ag2 o cs x h
 |.cr,o,cs,x,h=>Yx o cs x h
 |.Act,o,cs,x,h=>ag3 o cs x h
 |.Fact,o,cs,x,h=>ag4 o cs x h
 |.lZ,o,cs,x,h=>ag5 o cs x h
 |.sl t,o,_,_,h=>EJ (g:=λn=>.sl t o false n) (λ_ _=>V.eJ) h
 |.Eo,o,_,_,h=>ag6 (g:=Aq o) (Yx o) h
 |.Ak g,o,_,_,h=>Mc (g:=λn=>[.int .i64 n]) (λ_ _ h=>EJ (g:=λn=>.int .i64 n) (λ_ _=>V.aS) h) h
 |.Al g,o,_,_,h=>Mc (g:=Ap o) (Yw o) h
 |.Am g,o,_,_,h=>Mc (g:=An o) (Yu o) h
 |.fnCommand g,o,_,_,h=>Mc (g:=Ao o) (Yv o) h
def V.low(n:Nat):V->Bool
 |.sl t _ _ _=>Nat.ble (full t+2) n
 |_=>true
theorem Md(t:TC)(o:Nat)(x:T t):∀ y∈enc t o x,y.low (full t)=true:=by
 cases t<;>simp[enc,V.low,full,Ep,An,Er,G2,Ao,Es,Et,G3,Eu,G4,G5,G6,Ev,G7,G8,G9,Ap,Ew,Ex,He,Ey,Ez,EA,EB,Hf,Hg,Hh,EC,Hi,Hj,ED,Hl,EE,Ho,Hp,EF,EG,Aq,Hq,EH,Hr]
def V.plain:V->Bool
 |.int _ _|.bool _|.str _=>true
 |_=>false
theorem Aw(t:TC)(o:Nat)(x:T t)(h:full t=0):∀ y∈enc t o x,y.plain=true:=by
 cases t<;>first|(simp[full]at h;done)|simp[enc,V.plain,Ep,An,Er,Ao,Es,Et,Eu,Ev,Ap,Ew,Ex,Ey,Ez,EA,EB,EC,ED,EE,EF,EG,EH]
def V.l5:V->Bool
 |.nil=>false
 |_=>true
theorem R4(t:TC)(o:Nat)(x:T t):∀ y∈enc t o x,y.l5=true:=by
 cases t<;>simp[enc,V.l5,Ep,An,Er,G2,Ao,Es,Et,G3,Eu,G4,G5,G6,Ev,G7,G8,G9,Ap,Ew,Ex,He,Ey,Ez,EA,EB,Hf,Hg,Hh,EC,Hi,Hj,ED,Hl,EE,Ho,Hp,EF,EG,Aq,Hq,EH,Hr]
def tcs:af TC:=[.int,.u8,.bool,.str,.sl .int,.sl .bool,.sl .str,.fq,.Addr,.vg,.Ad,.Command,.nA,.kP,.lW,.Event,.qz,.Cell,.Array,.wD,.lN,.pU,.mY,.ep,.iZ,.uf,.Ae,.Af,.Power,.wE,.gB,.Ag,.Ah,.Receiver,.Node,.Tree,.Ai,.vh,.Aj,.Move,.lX,.qA,.Config,.lY,.cr,.Act,.Fact,.lZ]
def Yz(e:TypeId):aj TC:=tcs.find? λt=>Nat.beq (tid t) e
theorem ag7{e:TypeId}{t:TC}(h:Yz e=some t):tid t=e:=cz (List.find?_some (p:=λt=>Nat.beq (tid t) e) h)
def V.gr(o:Nat):V->Bool
 |.sl _ o' _ _=>o'==o
 |_=>true
theorem yc(t:TC)(o:Nat)(x:T t):∀ y∈enc t o x,y.gr o=true:=by
 cases t<;>simp[enc,V.gr,Ep,An,Er,G2,Ao,Es,Et,G3,Eu,G4,G5,G6,Ev,G7,G8,G9,Ap,Ew,Ex,He,Ey,Ez,EA,EB,Hf,Hg,Hh,EC,Hi,Hj,ED,Hl,EE,Ho,Hp,EF,EG,Aq,Hq,EH,Hr]
def V.aA:V->Bool
 |.sl _ o _ _=>decide (o<2)
 |_=>true
def V.ja:V->V
 |.sl t _ q l=>.sl t 0 q l
 |x=>x
theorem ag8(t:TC)(o:Nat)(x y:T t):(enc t o x).map (λv=>(v.plain,v.aA))=(enc t o y).map (λv=>(v.plain,v.aA)):=by cases t<;>rfl
theorem V.ag9(x:V):x.ja.aA=true:=by cases x<;>simp[V.ja,V.aA]
theorem lQ(t:TC)(o:Nat)(x:T t)(ho:o<2)(j:Nat)(y:V)(h:(enc t o x)[j]?=some y):y.aA=true:=by
 have:=yc t o x y (iy h);cases y<;>simp_all [V.gr,V.aA]
theorem YA(t:TC)(o:Nat)(x:T t):enc t 0 x=(enc t o x).map V.ja:=by cases t<;>rfl
theorem yd(t:TC)(o:Nat)(x:T t)(j:Nat)(y:V)(h:(enc t 0 x)[j]?=some y):∃ z,(enc t o x)[j]?=some z/\y=z.ja:=by
 rw[YA t o x,dH]at h;cases hz:(enc t o x)[j]? with
 |none=>rw[hz]at h;cases h
 |some z=>rw[hz]at h;injection h with h;exact⟨z,rfl,h.symm⟩
def inner:Nat->Nat
 |0=>0
 |1=>1
 |n+2=>n
abbrev bE:=Nat->aj (af Nat)
inductive RV (w:World) (B:Nat) (ah:bE):List Nat->V->Value->Prop
 |int (q:List Nat) (k:IntKind) (n:Int):RV w B ah q (.int k n) (.int k n)
 |bool (q:List Nat) (b:Bool):RV w B ah q (.bool b) (.bool b)
 |str (q:List Nat) (s:ByteArray):RV w B ah q (.str s) (.string s)
 |nil (q:List Nat):RV w B ah q .nil (.slice none 0 0)
 |dc (q:List Nat) (t:TC) (o:Nat):RV w B ah q (.sl t o false []) (.slice none 0 0)
 |dg (q:List Nat) (t:TC) (o:Nat) (A:Addr) (c:Nat) (ho:o<2):RV w B ah q (.sl t o false []) (.slice (some A) 0 c)
 |dz (q:List Nat) (t:TC) (o:Nat) (A:Addr) (c:Nat) (ho:o<2):RV w B ah q (.sl t o true []) (.slice (some A) 0 c)
 | aA (q:List Nat) (t:TC) (o:Nat) (qn:Bool) (l:List (T t)) (b off cap:Nat) (u:Nat->Nat->Value) (ho:o<2) (hl:ah b=none) (hb:b<w.heap.size) (h1:o=1->B<=b) (ey:l.length<=cap)
   (hc:∀i (h:i<l.length) j x,(enc t o l[i])[j]?=some x->w.cell? ⟨b,off+(i*aB t+j),none⟩=some (u i j))
   (hr:∀i (h:i<l.length) j x,(enc t o l[i])[j]?=some x->RV w B ah [] x (u i j)):RV w B ah q (.sl t o qn l) (.slice (some ⟨b,off,none⟩) l.length cap)
 | own (q:List Nat) (t:TC) (o:Nat) (qn:Bool) (l:List (T t)) (b cap:Nat) (cs:Array Value) (u:Nat->Nat->Value) (hl:ah b=some q) (hh:w.heap[b]?=some (.cells cs (tid t) (0,0)))
   (hs:cs.size=cap*aB t) (hn:l.length<=cap) (hm:cap<=maxLen/\(qn=true->cap=l.length))
   (hc:∀i (h:i<l.length) j x,(enc t o l[i])[j]?=some x->cs[i*aB t+j]?=some (u i j))
   (hr:∀i (h:i<l.length) j x,(enc t o l[i])[j]?=some x->RV w B ah (j::i::aB t::q) x (u i j)):RV w B ah q (.sl t (o+2) qn l) (.slice (some ⟨b,0,none⟩) l.length cap)
section
variable {w w':World} {B:Nat} {ah aC:bE}
def V.HO(n:Nat):V->V
 |.sl t _ q l=>.sl t n q l
 |x=>x
theorem aha(t:TC)(o n:Nat)(x:T t):enc t n x=(enc t o x).map (V.HO n):=by cases t<;>rfl
def V.fu(n:Nat):V->Prop
 |.sl t o _ _=>full t+2<=o/\full t+2<=n
 |_=>True
theorem RV.HO{q:af Nat}{x:V}{v:Value}(h:RV w B ah q x v):∀ n,x.fu n->RV w B ah q (x.HO n) v:=by
 induction h with
 |int=>exact λ_ _=>.int _ _ _
 |bool=>exact λ_ _=>.bool _ _
 |str=>exact λ_ _=>.str _ _
 |nil=>exact λ_ _=>.nil _
 |dc=>exact λ_ _=>.dc _ _ _
 |dg q t o A c ho=>exact λn hn=>by have:=hn.1;omega
 |dz q t o A c ho=>exact λn hn=>by have:=hn.1;omega
 |aA q t o qn l b off cap u ho hl hb h1 ey hc hr ih=>exact λn hn=>by have:=hn.1;omega
 | own q t o qn l b cap cs u hl hh hs hn hm hc hr ih=>
  intro n hf;obtain⟨h1,h2⟩:=hf;obtain⟨m,rfl⟩:∃m,n=m+2:=⟨n-2,by omega⟩
  have key:∀ (i:Nat) (h:i<l.length) (j:Nat) (x:V),(enc t m l[i])[j]?=some x->∃ y:V,(enc t o l[i])[j]?=some y/\y.HO m=x/\y.fu m:=by
   intro i h j x hx;rw[aha t o m l[i],dH]at hx;cases hy:(enc t o l[i])[j]? with
   |none=>rw[hy]at hx;cases hx
   | some y=>
    rw[hy]at hx;injection hx with hx;refine⟨y,rfl,hx,?_⟩;have g1:=yc t o l[i] y (iy hy);have g2:=Md t o l[i] y (iy hy);cases y with
    | sl t' o' q' l'=>
     have e:o'=o:=by simpa [V.gr]using g1
     have:=cH (show Nat.ble (full t'+2) (full t)=true from g2);exact⟨by omega,by omega⟩
    |_=>trivial
  refine .own _ _ _ _ _ _ _ cs u hl hh hs hn hm (λi h j x hx=>?_) (λi h j x hx=>?_)
  ·obtain⟨y,hy,_⟩:=key i h j x hx;exact hc i h j y hy
  ·obtain⟨y,hy,rfl,hf⟩:=key i h j x hx;exact ih i h j y hy m hf
theorem RV.wk{q:af Nat}{x y:V}{v:Value}(h:RV w B ah q x v)(k:Wk x y):RV w B ah q y v:=by
 cases k with
 |same=>exact h
 |nil t o=>cases h;exact .dc _ _ _
 | gr t o o' qn l h1 h2=>
  have h:=h.HO o ⟨h2,h1⟩;have h:RV w B ah q (.sl t o qn l) v:=h;cases h with
  |dc=>exact .dc _ _ _
  |dg q t o A c ho=>exact .dg _ _ _ _ _ ho
  |dz q t o A c ho=>exact .dg _ _ _ _ _ ho
  |aA q t o qn l b off cap u ho hl hb h1 ey hc hr=>exact .aA _ _ _ _ _ _ _ _ u ho hl hb h1 ey hc hr
  |own q t o qn l b cap cs u hl hh hs hn hm hc hr=>exact .own _ _ _ _ _ _ _ cs u hl hh hs hn ⟨hm.1,λh=>by cases h⟩ hc hr
 | q t o l=>
  cases h with
  |dz q t o A c ho=>exact .dg _ _ _ _ _ ho
  |aA q t o qn l b off cap u ho hl hb h1 ey hc hr=>exact .aA _ _ _ _ _ _ _ _ u ho hl hb h1 ey hc hr
  |own q t o qn l b cap cs u hl hh hs hn hm hc hr=>exact .own _ _ _ _ _ _ _ cs u hl hh hs hn ⟨hm.1,λh=>by cases h⟩ hc hr
theorem RV.key{q q':af Nat}{x:V}{v:Value}(h:RV w B ah q x v)(hf:x.aA=true):RV w B ah q' x v:=by
 cases h with
 |int=>exact .int _ _ _
 |bool=>exact .bool _ _
 |str=>exact .str _ _
 |nil=>exact .nil _
 |dc=>exact .dc _ _ _
 |dg=>exact .dg _ _ _ _ _ (by first|assumption|omega)
 |dz=>exact .dz _ _ _ _ _ (by first|assumption|omega)
 |aA q t o qn l b off cap u ho hl hb h1 ey hc hr=>exact .aA _ _ _ _ _ _ _ _ u ho hl hb h1 ey hc hr
 |own q t o qn l b cap cs u hl hh hs hn hm hc hr=>simp[V.aA]at hf;omega
def oe:Value->Bool
 |.slice ..=>true
 |_=>false
theorem RV.R5{q:af Nat}{x:V}{u:Value}(h:RV w B ah q x u)(hf:x.aA=false):oe u=true:=by
 cases h<;>first|rfl|cases hf
theorem RV.one{q:af Nat}{x:V}{u:Value}(h:RV w B ah q x u):u.oneCell'=true:=by
 cases h<;>rfl
theorem RV.iD{q:af Nat}{x:V}{v:Value}(h:RV w B ah q x v)(hz:w.heap.size<=w'.heap.size)(hk:∀ b,b<w.heap.size->w'.heap[b]?=w.heap[b]?/\aC b=ah b):RV w' B aC q x v:=by
 induction h with
 |int=>exact .int _ _ _
 |bool=>exact .bool _ _
 |str=>exact .str _ _
 |nil=>exact .nil _
 |dc=>exact .dc _ _ _
 |dg=>exact .dg _ _ _ _ _ (by first|assumption|omega)
 |dz=>exact .dz _ _ _ _ _ (by first|assumption|omega)
 | aA q t o qn l b off cap u ho hl hb h1 ey hc hr ih=>
  exact .aA _ _ _ _ _ _ _ _ u ho ((hk b hb).2.trans hl) (mG hb hz) h1 ey (λi h j x hx=>(mH (a:=⟨b,_,none⟩) (hk b hb).1).trans (hc i h j x hx)) ih
 | own q t o qn l b cap cs u hl hh hs hn hm hc hr ih=>
  have hb:b<w.heap.size:=(gS.1 hh).1;exact .own _ _ _ _ _ _ _ cs u ((hk b hb).2.trans hl) ((hk b hb).1.trans hh) hs hn hm hc ih
theorem RV.apart{q kt:af Nat}{x:V}{v:Value}{bt:Nat}(h:RV w B ah q x v)(EK:ah bt=some kt)(hq:¬ q <:+ kt\/x.aA=true)(hz:w.heap.size<=w'.heap.size)(hk:∀ b,b≠bt->w'.heap[b]?=w.heap[b]?):RV w' B ah q x v:=by
 induction h with
 |int=>exact .int _ _ _
 |bool=>exact .bool _ _
 |str=>exact .str _ _
 |nil=>exact .nil _
 |dc=>exact .dc _ _ _
 |dg=>exact .dg _ _ _ _ _ (by first|assumption|omega)
 |dz=>exact .dz _ _ _ _ _ (by first|assumption|omega)
 | aA q t o qn l b off cap u ho hl hb h1 ey hc hr ih=>
  have bg:b≠bt:=by rintro rfl;rw[hl]at EK;cases EK
  refine .aA _ _ _ _ _ _ _ _ u ho hl (mG hb hz) h1 ey (λi h j x hx=>(mH (a:=⟨b,_,none⟩) (hk b bg)).trans (hc i h j x hx)) (λi h j x hx=>ih i h j x hx (.inr (lQ t o l[i] ho j x hx)))
 | own q t o qn l b cap cs u hl hh hs hn hm hc hr ih=>
  have m0:¬ q <:+ kt:=by
   rcases hq with hq|hq
   ·exact hq
   ·simp[V.aA]at hq;omega
  have bg:b≠bt:=by rintro rfl;rw[hl]at EK;injection EK with EK;subst EK;exact m0 (List.suffix_refl _)
  refine .own _ _ _ _ _ _ _ cs u hl ((hk b bg).trans hh) hs hn hm hc (λi h j x hx=>ih i h j x hx (.inl λhs=>m0 (List.IsSuffix.trans ⟨[j,i,aB t],rfl⟩ hs)))
theorem RV.ja{q q':af Nat}{x:V}{v:Value}(h:RV w B ah q x v){B':Nat}:RV w B' (λ_=>none) q' x.ja v:=by
 induction h generalizing q' with
 |int=>exact .int _ _ _
 |bool=>exact .bool _ _
 |str=>exact .str _ _
 |nil=>exact .nil _
 |dc=>exact .dc _ _ _
 |dg=>exact .dg _ _ _ _ _ (by first|assumption|omega)
 |dz=>exact .dz _ _ _ _ _ (by first|assumption|omega)
 | aA q t o qn l b off cap u ho hl hb h1 ey hc hr ih=>
  refine .aA _ _ _ _ _ _ _ _ u (by omega) rfl hb (by omega) ey (λi h j x hx=>?_) (λi h j x hx=>?_)
  ·obtain⟨y,hy,_⟩:=yd t o l[i] j x hx;exact hc i h j y hy
  ·obtain⟨y,hy,rfl⟩:=yd t o l[i] j x hx;exact ih i h j y hy
 | own q t o qn l b cap cs u hl hh hs hn hm hc hr ih=>
  refine .aA _ _ _ _ _ _ _ _ u (by omega) rfl (gS.1 hh).1 (by omega) hn (λi h j x hx=>?_) (λi h j x hx=>?_)
  ·obtain⟨y,hy,_⟩:=yd t o l[i] j x hx;have:=hc i h j y hy;rw[fQ,cell_of_row w b _ cs _ _ hh];exact this
  ·obtain⟨y,hy,rfl⟩:=yd t o l[i] j x hx;exact ih i h j y hy
end
end Go.Proofs.YtcioagfjiccleaaGreat
namespace Go.Proofs.YtcioagfjiccleaaGreat
open Go.RowKit
set_option linter.unusedVariables false
inductive Lf where
 |v (x:V)
 |own (k:List Nat)
 |dead
inductive A where
 |undef
 |skip
 |lf (x:Lf)
 |agg (cs:List Lf)
 |cP (xs:List (Bool×List Lf))
 |ptr (k:List Nat)
 |aG (r j:Nat)
 |jB (cs:List V)
 |mK (f:Nat) (cs:List V)
 |pk (r n:Nat)
 |view (k:List Nat) (s i j:Nat)
 |fn (f:Nat) (cap:List (Nat×Nat))
inductive aW where
 |ax (cs:List Lf)
 |sl (y:V)
 |mp (l:List (Int×Bool))
 |gh (xs:List A)
structure S where
 t:Nat->A
 m:Nat->Option aW
inductive Loc where
 |ax (b off:Nat)
 |dP (v:Value)
 |bQ (us:List Value)
def addrAt(w:World)(ah:bE)(ρ:Nat->Loc):af Nat->aj Addr
 | j :: i :: s :: [r]=>match ρ r with
  |.dP (.slice (some ⟨b,0,none⟩) _ _)=>if ah b=some [r]then some ⟨b,i*s+j,none⟩else none
  |_=>none
 | j :: i :: s :: q=>match (addrAt w ah ρ q).bind w.cell? with
  |some (.slice (some ⟨b,0,none⟩) _ _)=>if ah b=some q then some ⟨b,i*s+j,none⟩else none
  |_=>none
 |_=>none
def cE(w:World)(ah:bE)(ρ:Nat->Loc):af Nat->aj Value
 | [r]=>match ρ r with
  |.dP v=>some v
  |_=>none
 |q=>(addrAt w ah ρ q).bind w.cell?
def dN(w:World)(B:Nat)(ah:bE)(ρ:Nat->Loc):Lf->Value->Prop
 |.v x,u=>x.aA=true/\RV w B ah [] x u
 |.own k,u=>oe u=true/\cE w ah ρ k=some u
 |.dead,_=>True
def eB(w:World)(B:Nat)(ah:bE)(ρ:Nat->Loc)(cs:af Lf)(us:Array Value):Prop:=
 us.size=cs.length/\∀(j:Nat) x,cs[j]?=some x->∃u,us[j]?=some u/\dN w B ah ρ x u
def RP(w:World)(B:Nat)(ah:bE)(ρ:Nat->Loc)(p:Bool×af Lf)(u:Value):Prop:=
 match p with
 |(true,cs)=>∃us,u = .agg us/\eB w B ah ρ cs us
 |(false,cs)=>eB w B ah ρ cs #[u]
def rR:Nat:=4294967296
def Me(b n:Nat):Value:=bif Nat.beq n rR then .map (some b)else .slice (some ⟨b,0,none⟩) n n
theorem R6{b n:Nat}(h:n<rR):Me b n = .slice (some ⟨b,0,none⟩) n n:=by
 unfold Me;cases hb:Nat.beq n rR with
 |true=>have:=cz hb;omega
 |false=>rfl
theorem R7(b:Nat):Me b rR = .map (some b):=rfl
def RF(w:World)(B:Nat)(ah:bE)(cs:af V)(u:Value):Prop:=
 ∃b off,u = .pointer (some ⟨b,off,none⟩)/\b<w.heap.size/\ah b=none/\∀(j:Nat) x,cs[j]?=some x->x.aA=true/\∃v,w.cell? ⟨b,off+j,none⟩=some v/\RV w B ah [] x v
def RA(w:World)(B:Nat)(ah:bE)(ρ:Nat->Loc):A->Value->Prop
 |.undef,_=>True
 |.skip,u=>u=Go.undef
 |.lf x,u=>dN w B ah ρ x u
 |.agg cs,u=>RP w B ah ρ (true,cs) u
 |.cP xs,u=>∃us:Array Value,u = .tuple us/\us.size=xs.length/\∀(j:Nat) p,xs[j]?=some p->∃v,us[j]?=some v/\RP w B ah ρ p v
 |.ptr k,u=>∃ad,u = .pointer (some ad)/\addrAt w ah ρ k=some ad
 |.aG r j,u=>∃b off,ρ r = .ax b off/\u = .pointer (some ⟨b,off+j,none⟩)
 |.jB cs,u=>RF w B ah cs u
 |.mK f cs,u=>∃pv,u = .func (.func f) #[] #[pv]/\RF w B ah cs pv
 |.pk r n,u=>∃b,ρ r = .ax b 0/\u=Me b n
 |.view k s i j,u=>∃A n c,cE w ah ρ k=some (.slice A n c)/\i<=j/\j<=n/\u=sliced A i j c s
 |.fn f cap,u=>∃vs:Array Value,u = .func (.func f) #[] vs/\vs.size=cap.length/\∀(j:Nat) p,cap[j]?=some p->∃b off,ρ p.1 = .ax b off/\vs[j]?=some (.pointer (some ⟨b,off+p.2,none⟩))
inductive fj (w:World) (B:Nat) (ah:bE) (ρ:Nat->Loc) (r:Nat):aW->Prop
 | ax (b off:Nat) (cells:Array Value) (e:TypeId) (cs:List Lf) (us:Nat->Value) (aM:ρ r = .ax b off) (hl:ah b=some [r]) (hh:w.heap[b]?=some (.cells cells e (0,0))) (hs:off+cs.length<=cells.size)
   (hc:∀(j:Nat) x,cs[j]?=some x->cells[off+j]?=some (us j)/\dN w B ah ρ x (us j)):fj w B ah ρ r (.ax cs)
 |sl (v:Value) (y:V) (aM:ρ r = .dP v) (hr:RV w B ah [r] y v):fj w B ah ρ r (.sl y)
 |mp (b clock:Nat) (es:Array MapEntry) (l:List (Int×Bool)) (aM:ρ r = .ax b 0) (hl:ah b=some [r]) (hh:w.heap[b]?=some (.map es clock)) (he:es.toList.map (λe=>(e.key,e.val))=l.map λp=>(.int .i64 p.1,.bool p.2)):fj w B ah ρ r (.mp l)
 |gh (us:List Value) (xs:List A) (aM:ρ r = .bQ us) (hx:∀(j:Nat) x,xs[j]?=some x->RA w B ah ρ x (us.getD j undef)):fj w B ah ρ r (.gh xs)
def Qw(_:World):Prop:=True
structure ahb (n:Nat) (L:bE) (w w':World):Prop where
 os:w'.os=w.os
 tape:w'.tape=w.tape
 output:w'.output=w.output
 size:w.heap.size<=w'.heap.size
 block:∀k,k<n->L k=none->w'.heap[k]?=w.heap[k]?
def Hd(w:World)(L:bE):Prop:=∀w',ahb w.heap.size L w w'->Qw w'
theorem ahc(w:World)(L:bE):Hd w L:=λ_ _=>trivial
structure Wd where
 w:World
 L:bE
 F:Nat->Option Loc
 held:Hd w L
 low:∀r,r<20000->F r=none
def Wd.heap(d:Wd):Array Obj:=d.w.heap
def Wd.of(w:World)(h:Hd w λ_=>none):Wd:=⟨w,λ_=>none,λ_=>none,h,λ_ _=>rfl⟩
structure kQ (d:Wd) (w w':World):Prop where
 os:w'.os=w.os
 tape:w'.tape=w.tape
 output:w'.output=w.output
 size:w.heap.size<=w'.heap.size
 block:∀k,k<d.heap.size->d.L k=none->w'.heap[k]?=w.heap[k]?
theorem kQ.trans{d:Wd}{a b c:World}(h:kQ d a b)(k:kQ d b c):kQ d a c:=
 ⟨k.os.trans h.os,k.tape.trans h.tape,k.output.trans h.output,Nat.le_trans h.size k.size,λi hi hl=>(k.block i hi hl).trans (h.block i hi hl)⟩
theorem Wd.on(d:Wd){w:World}(h:kQ d d.w w){L:bE}(hL:∀ b k,L b=some k->d.heap.size<=b\/d.L b≠none):Hd w L:=λw' hb=>
 d.held w' ⟨hb.os.trans h.os,hb.tape.trans h.tape,hb.output.trans h.output,Nat.le_trans h.size hb.size,λk hk hl=>by
  have e:L k=none:=by
   cases e:L k with
   |none=>rfl
   | some q=>
    rcases hL k q e with h1|h1
    ·exact absurd hk (Nat.not_lt.2 h1)
    ·exact absurd hl h1
  exact(hb.block k (mG hk h.size) e).trans (h.block k hk hl)⟩
theorem kQ.of{d:Wd}{a b:World}{B:Nat}(h:Below B a b)(hB:d.heap.size<=B):kQ d a b:=
 ⟨h.os,h.tape,h.output,h.size,λi hi _=>h.block i (mG hi hB)⟩
structure Rl (w0:Wd) (N:Nat) (ah:bE) (ρ:Nat->Loc) (σ:S) (a:Act) (w:World):Prop where
 below:kQ w0 w0.w w
 dn:∀b k,ah b=some k->(w0.heap.size<=b\/w0.L b≠none)/\b<w.heap.size/\k≠[]
 root:∀r x,σ.m r=some x->fj w w0.heap.size ah ρ r x
 tmp:∀k,RA w w0.heap.size ah ρ (σ.t k) (a.tmps.getD k undef)
 size:a.tmps.size=N
 defers:a.defers=[]
 fix:∀r l,w0.F r=some l->ρ r=l
 dQ:∀r,(r<N\/60000<=r)->w0.F r=none
def R(w0:Wd)(N:Nat)(σ:S)(a:Act)(w:World):Prop:=∃ah ρ,Rl w0 N ah ρ σ a w
/-! Reading along a key. -/
inductive wG (m:Nat->Option aW):List Nat->V->Prop
 |root (r:Nat) (y:V) (h:m r=some (.sl y)):wG m [r] y
 |elem (j i:Nat) (q:List Nat) (t:TC) (o:Nat) (qn:Bool) (l:List (T t)) (y:V) (h:wG m q (.sl t (o+2) qn l)) (hi:i<l.length) (hy:(enc t o l[i])[j]?=some y):wG m (j::i::aB t::q) y
section
variable {w w':World} {w0:Wd} {B N:Nat} {ah aC:bE} {ρ ρ':Nat->Loc} {m:Nat->aj aW} {σ:S} {a:Act}
theorem Cj{q:af Nat}(j i s:Nat){b n c:Nat}(h:cE w ah ρ q=some (.slice (some ⟨b,0,none⟩) n c))(hl:ah b=some q):addrAt w ah ρ (j :: i :: s :: q)=some ⟨b,i*s+j,none⟩:=by
 match q,h,hl with
 | [r],h,hl=>
  simp only[cE]at h;simp only[addrAt];cases hr:ρ r with
  |ax b off=>rw[hr]at h;cases h
  |dP v=>rw[hr]at h;injection h with h;subst h;simp[hl]
  |bQ us=>rw[hr]at h;cases h
 |[],h,hl=>simp[cE,addrAt]at h
 | x :: y :: q,h,hl=>
  simp only[cE]at h;simp only[addrAt,h,hl,if_true]
theorem Mf{j i s:Nat}{q:af Nat}:cE w ah ρ (j::i::s::q)=(addrAt w ah ρ (j::i::s::q)).bind w.cell?:=rfl
theorem wG.ok{k:af Nat}{y:V}(h:wG m k y)(hm:∀ r x,m r=some x->fj w B ah ρ r x):∃ u,cE w ah ρ k=some u/\RV w B ah k y u:=by
 induction h with
 | root r y h=>
  cases hm _ _ h with
  |sl v y aM hr=>exact⟨v,by simp[cE,aM],hr⟩
 | elem j i q t o qn l y h hi hy ih=>
  obtain⟨u,hu,hr⟩:=ih;cases hr with
  |dc=>simp at hi
  |dg=>simp at hi
  |dz=>simp at hi
  |aA _ _ _ _ _ _ _ _ _ ho=>omega
  | own _ _ _ _ _ b cap cs us hl hh hs hn hm hc hr=>
   refine⟨us i j,?_,hr i hi j y hy⟩;rw[Mf,Cj j i (aB t) hu hl];show w.cell? _=_;rw[cell_of_row w b _ cs _ _ hh];exact hc i hi j y hy
theorem ye:∀ (k:af Nat) (ad:Addr),addrAt w ah ρ k=some ad->∃ j i s q,k=j :: i :: s :: q/\ah ad.block=some q/\ad.off=i*s+j/\ad.spot=none/\(∀ r,q=[r]->∃ v,ρ r = .dP v)
 |[],_,h=>by simp[addrAt]at h
 |[_],_,h=>by simp[addrAt]at h
 |[_,_],_,h=>by simp[addrAt]at h
 |[_,_,_],_,h=>by simp[addrAt]at h
 | [j,i,s,r],ad,h=>by
  simp only[addrAt]at h;split at h
  ·rename_i v b n c hr;split at h
   next hl=>injection h with h;subst h;exact⟨j,i,s,[r],rfl,hl,rfl,rfl,λr' e=>by injection e with e;subst e;exact⟨_,hr⟩⟩
   ·cases h
  ·cases h
 | j :: i :: s :: x :: y :: q,ad,h=>by
  simp only[addrAt]at h;split at h
  ·split at h
   next hl=>injection h with h;subst h;exact⟨j,i,s,x::y::q,rfl,hl,rfl,rfl,λr' e=>by injection e with _ e;cases e⟩
   ·cases h
  ·cases h
theorem R8(hk:∀ b,b<w.heap.size->w'.heap[b]?=w.heap[b]?/\aC b=ah b)(hg:∀ b k,ah b=some k->b<w.heap.size):∀ (k:af Nat) (ad:Addr),addrAt w ah ρ k=some ad->addrAt w' aC ρ k=some ad
 |[],_,h=>h
 |[_],_,h=>h
 |[_,_],_,h=>h
 |[_,_,_],_,h=>by simp only[addrAt]at h ⊢;exact h
 | [j,i,s,r],_,h=>by
  simp only[addrAt]at h ⊢;split at h
  ·rename_i v b n c hr;split at h
   next hl=>rw[bu ((hk _ (hg _ _ hl)).2.trans hl)];exact h
   ·cases h
  ·cases h
 | j :: i :: s :: x :: y :: q,ad,h=>by
  simp only[addrAt]at h ⊢;cases ha:addrAt w ah ρ (x::y::q)with
  |none=>rw[ha]at h;cases h
  | some qC=>
   rw[R8 hk hg _ _ ha];rw[ha]at h;cases hc:w.cell? qC with
   |none=>simp[hc]at h
   | some v=>
    have e:w'.cell? qC=some v:=(mH (hk _ (block_lt_of_cell hc)).1).trans hc;simp only[Option.bind_some,hc]at h;simp only[Option.bind_some,e];split at h
    ·split at h
     next hl=>rw[bu ((hk _ (hg _ _ hl)).2.trans hl)];exact h
     ·cases h
    ·cases h
theorem YB(hk:∀ b,b<w.heap.size->w'.heap[b]?=w.heap[b]?/\aC b=ah b)(hg:∀ b k,ah b=some k->b<w.heap.size)(k:af Nat)(u:Value)(h:cE w ah ρ k=some u):cE w' aC ρ k=some u:=by
 match k,h with
 |[],h=>simp[cE,addrAt]at h
 |[r],h=>exact h
 | x :: y :: q,h=>
  simp only[cE]at h ⊢;cases ha:addrAt w ah ρ (x::y::q)with
  |none=>rw[ha]at h;cases h
  | some ad=>
   rw[R8 hk hg _ _ ha];rw[ha]at h;have h:w.cell? ad=some u:=h;exact(mH (hk _ (block_lt_of_cell h)).1).trans h
theorem dN.iD{x:Lf}{u:Value}(h:dN w B ah ρ x u)(hz:w.heap.size<=w'.heap.size)(hk:∀ b,b<w.heap.size->w'.heap[b]?=w.heap[b]?/\aC b=ah b)(hg:∀ b k,ah b=some k->b<w.heap.size):dN w' B aC ρ x u:=by
 cases x with
 |v x=>exact⟨h.1,h.2.iD hz hk⟩
 |own k=>exact⟨h.1,YB hk hg _ _ h.2⟩
 |dead=>trivial
theorem eB.iD{cs:af Lf}{us:Array Value}(h:eB w B ah ρ cs us)(hz:w.heap.size<=w'.heap.size)(hk:∀ b,b<w.heap.size->w'.heap[b]?=w.heap[b]?/\aC b=ah b)(hg:∀ b k,ah b=some k->b<w.heap.size):eB w' B aC ρ cs us:=
 ⟨h.1,λj x hx=>let ⟨u,hu,r⟩:=h.2 j x hx;⟨u,hu,r.iD hz hk hg⟩⟩
theorem RP.iD{p:Bool×af Lf}{u:Value}(h:RP w B ah ρ p u)(hz:w.heap.size<=w'.heap.size)(hk:∀ b,b<w.heap.size->w'.heap[b]?=w.heap[b]?/\aC b=ah b)(hg:∀ b k,ah b=some k->b<w.heap.size):RP w' B aC ρ p u:=by
 obtain⟨b,cs⟩:=p;cases b with
 |true=>obtain⟨us,e,h⟩:=h;exact⟨us,e,h.iD hz hk hg⟩
 |false=>exact eB.iD h hz hk hg
theorem RF.iD{cs:af V}{u:Value}(h:RF w B ah cs u)(hz:w.heap.size<=w'.heap.size)(hk:∀ b,b<w.heap.size->w'.heap[b]?=w.heap[b]?/\aC b=ah b):RF w' B aC cs u:=by
 obtain⟨b,off,e,hb,hl,h⟩:=h
 refine⟨b,off,e,mG hb hz,((hk b hb).2).trans hl,λj x hx=>?_⟩
 obtain⟨hf,v,hv,hr⟩:=h j x hx;exact⟨hf,v,(mH (a:=⟨b,_,none⟩) (hk b hb).1).trans hv,hr.iD hz hk⟩
theorem RA.iD{x:A}{u:Value}(h:RA w B ah ρ x u)(hz:w.heap.size<=w'.heap.size)(hk:∀ b,b<w.heap.size->w'.heap[b]?=w.heap[b]?/\aC b=ah b)(hg:∀ b k,ah b=some k->b<w.heap.size):RA w' B aC ρ x u:=by
 cases x with
 |undef=>trivial
 |skip=>exact h
 |lf x=>exact dN.iD h hz hk hg
 |agg cs=>exact RP.iD (p:=(true,cs)) h hz hk hg
 |cP xs=>obtain⟨us,e,hs,h⟩:=h;exact⟨us,e,hs,λj p hp=>let ⟨v,hv,r⟩:=h j p hp;⟨v,hv,r.iD hz hk hg⟩⟩
 |ptr k=>obtain⟨ad,e,h⟩:=h;exact⟨ad,e,R8 hk hg _ _ h⟩
 |view k s i j=>obtain⟨A,n,c,h,g⟩:=h;exact⟨A,n,c,YB hk hg _ _ h,g⟩
 |pk r n=>exact h
 |aG r j=>exact h
 |jB cs=>exact RF.iD h hz hk
 |mK f cs=>obtain⟨pv,e,h⟩:=h;exact⟨pv,e,h.iD hz hk⟩
 |fn f cap=>exact h
theorem fj.iD{r:Nat}{x:aW}(h:fj w B ah ρ r x)(hz:w.heap.size<=w'.heap.size)(hk:∀ b,b<w.heap.size->w'.heap[b]?=w.heap[b]?/\aC b=ah b)(hg:∀ b k,ah b=some k->b<w.heap.size):fj w' B aC ρ r x:=by
 cases h with
 | ax b off cells e cs us aM hl hh hs hc=>
  have hb:b<w.heap.size:=(gS.1 hh).1;exact .ax b off cells e cs us aM ((hk b hb).2.trans hl) ((hk b hb).1.trans hh) hs (λj x hx=>⟨(hc j x hx).1,(hc j x hx).2.iD hz hk hg⟩)
 |sl v y aM hr=>exact .sl v y aM (hr.iD hz hk)
 | mp b c es l aM hl hh he=>
  have hb:b<w.heap.size:=(gS.1 hh).1;exact .mp b c es l aM ((hk b hb).2.trans hl) ((hk b hb).1.trans hh) he
 |gh us xs aM hx=>exact .gh us xs aM λj x hj=>(hx j x hj).iD hz hk hg
/-! A root's name is given anew: what named it before is forgotten. -/
def bH(d:Nat)(k:af Nat):Bool:=k.getLast?==some d
def Lf.drop(d:Nat):Lf->Lf
 |.own k=>bif bH d k then .dead else .own k
 |x=>x
def A.drop(d:Nat):A->A
 |.lf x=>.lf (x.drop d)
 |.agg cs=>.agg (cs.map (Lf.drop d))
 |.cP xs=>.cP (xs.map λp=>(p.1,p.2.map (Lf.drop d)))
 |.ptr k=>bif bH d k then .undef else .ptr k
 |.aG r j=>bif Nat.beq r d then .undef else .aG r j
 |.pk r n=>bif Nat.beq r d then .undef else .pk r n
 |.view k s i j=>bif bH d k then .undef else .view k s i j
 |.fn f cap=>bif cap.any (λp=>Nat.beq p.1 d)then .undef else .fn f cap
 |x=>x
def aW.drop(d:Nat):aW->aW
 |.ax cs=>.ax (cs.map (Lf.drop d))
 |.gh xs=>.gh (xs.map (A.drop d))
 |x=>x
theorem R9{d:Nat}(aM:∀ r,r≠d->ρ' r=ρ r):∀ (k:af Nat),bH d k=false->addrAt w ah ρ' k=addrAt w ah ρ k
 |[],_=>rfl
 |[_],_=>rfl
 |[_,_],_=>rfl
 |[_,_,_],_=>rfl
 | [j,i,s,r],h=>by
  have hr:r≠d:=by rintro rfl;simp[bH]at h
  simp only[addrAt,aM r hr]
 | j :: i :: s :: x :: y :: q,h=>by
  have h':bH d (x::y::q)=false:=by simpa [bH]using h
  simp only[addrAt,R9 aM (x::y::q) h']
theorem YC{d:Nat}(aM:∀ r,r≠d->ρ' r=ρ r)(k:af Nat)(h:bH d k=false):cE w ah ρ' k=cE w ah ρ k:=by
 match k,h with
 |[],_=>rfl
 | [r],h=>
  have hr:r≠d:=by rintro rfl;simp[bH]at h
  simp only[cE,aM r hr]
 |x::y::q,h=>simp only[cE,R9 aM _ h]
theorem dN.eW{d:Nat}(aM:∀ r,r≠d->ρ' r=ρ r){x:Lf}{u:Value}(h:dN w B ah ρ x u):dN w B ah ρ' (x.drop d) u:=by
 cases x with
 |v x=>exact h
 |dead=>trivial
 | own k=>
  have e:Lf.drop d (.own k)=(bif bH d k then .dead else .own k):=rfl;rw[e];cases hl:bH d k with
  |true=>trivial
  |false=>exact⟨h.1,(YC aM k hl).trans h.2⟩
theorem eB.eW{d:Nat}(aM:∀ r,r≠d->ρ' r=ρ r){cs:af Lf}{us:Array Value}(h:eB w B ah ρ cs us):eB w B ah ρ' (cs.map (Lf.drop d)) us:=by
 refine⟨by rw[eV];exact h.1,λj x hx=>?_⟩
 rw[dH]at hx;cases hy:cs[j]? with
 |none=>rw[hy]at hx;cases hx
 | some y=>
  rw[hy]at hx;injection hx with hx;subst hx;obtain⟨u,hu,r⟩:=h.2 j y hy;exact⟨u,hu,r.eW aM⟩
theorem RP.eW{d:Nat}(aM:∀ r,r≠d->ρ' r=ρ r){p:Bool×af Lf}{u:Value}(h:RP w B ah ρ p u):RP w B ah ρ' (p.1,p.2.map (Lf.drop d)) u:=by
 obtain⟨b,cs⟩:=p;cases b with
 |true=>obtain⟨us,e,h⟩:=h;exact⟨us,e,h.eW aM⟩
 |false=>exact eB.eW aM h
theorem RA.eW{d:Nat}(aM:∀ r,r≠d->ρ' r=ρ r){x:A}{u:Value}(h:RA w B ah ρ x u):RA w B ah ρ' (x.drop d) u:=by
 cases x with
 |undef=>trivial
 |skip=>exact h
 |lf x=>exact dN.eW aM h
 |agg cs=>exact RP.eW (p:=(true,cs)) aM h
 | cP xs=>
  obtain⟨us,e,hs,h⟩:=h
  refine⟨us,e,by rw[eV];exact hs,λj p hp=>?_⟩
  rw[dH]at hp;cases hy:xs[j]? with
  |none=>rw[hy]at hp;cases hp
  | some y=>
   rw[hy]at hp;injection hp with hp;subst hp;obtain⟨v,hv,r⟩:=h j y hy;exact⟨v,hv,r.eW aM⟩
 | ptr k=>
  have e:A.drop d (.ptr k)=(bif bH d k then .undef else .ptr k):=rfl;rw[e];cases hl:bH d k with
  |true=>trivial
  |false=>obtain⟨ad,e,h⟩:=h;exact⟨ad,e,(R9 aM k hl).trans h⟩
 | view k s i j=>
  have e:A.drop d (.view k s i j)=(bif bH d k then .undef else .view k s i j):=rfl;rw[e];cases hl:bH d k with
  |true=>trivial
  |false=>obtain⟨A,n,c,h,g⟩:=h;exact⟨A,n,c,(YC aM k hl).trans h,g⟩
 | pk r n=>
  have e:A.drop d (.pk r n)=(bif Nat.beq r d then .undef else .pk r n):=rfl;rw[e];cases hl:Nat.beq r d with
  |true=>trivial
  | false=>
   have hr:r≠d:=by rintro rfl;simp at hl
   obtain⟨b,e,h⟩:=h;exact⟨b,(aM r hr).trans e,h⟩
 | aG r j=>
  have e:A.drop d (.aG r j)=(bif Nat.beq r d then .undef else .aG r j):=rfl;rw[e];cases hl:Nat.beq r d with
  |true=>trivial
  | false=>
   have hr:r≠d:=by rintro rfl;simp at hl
   obtain⟨b,off,e,h⟩:=h;exact⟨b,off,(aM r hr).trans e,h⟩
 |jB cs=>exact h
 |mK f cs=>exact h
 | fn f cap=>
  have e:A.drop d (.fn f cap)=(bif cap.any (λp=>Nat.beq p.1 d)then .undef else .fn f cap):=rfl;rw[e];cases hl:cap.any (λp=>Nat.beq p.1 d)with
  |true=>trivial
  | false=>
   obtain⟨vs,e,hs,h⟩:=h
   refine⟨vs,e,hs,λj p hp=>?_⟩
   obtain⟨b,off,e2,h2⟩:=h j p hp;have hr:p.1≠d:=by
    rintro rfl;have:=mW.1 hl p (iy hp);simp at this
   exact⟨b,off,(aM _ hr).trans e2,h2⟩
theorem fj.eW{d r:Nat}(aM:∀ r,r≠d->ρ' r=ρ r)(hr:r≠d){x:aW}(h:fj w B ah ρ r x):fj w B ah ρ' r (x.drop d):=by
 cases h with
 | ax b off cells e cs us jW hl hh hs hc=>
  refine .ax b off cells e _ us ((aM r hr).trans jW) hl hh (by rw[eV];exact hs) (λj x hx=>?_)
  rw[dH]at hx;cases hy:cs[j]? with
  |none=>rw[hy]at hx;cases hx
  | some y=>
   rw[hy]at hx;injection hx with hx;subst hx;exact⟨(hc j y hy).1,(hc j y hy).2.eW aM⟩
 |sl v y jW Cl=>exact .sl v y ((aM r hr).trans jW) Cl
 |mp b c es l jW hl hh he=>exact .mp b c es l ((aM r hr).trans jW) hl hh he
 | gh us xs jW hx=>
  refine .gh us _ ((aM r hr).trans jW) (λj x hj=>?_)
  rw[dH]at hj;cases hy:xs[j]? with
  |none=>rw[hy]at hj;cases hj
  | some y=>
   rw[hy]at hj;injection hj with hj;subst hj;exact(hx j y hy).eW aM
def bP{α:Type}(f:Nat->α)(d:Nat)(x:α):Nat->α:=λk=>bif Nat.beq k d then x else f k
theorem bY{α:Type}(f:Nat->α)(d:Nat)(x:α):bP f d x d=x:=by simp[bP]
theorem cL{α:Type}(f:Nat->α)(d:Nat)(x:α){k:Nat}(h:k≠d):bP f d x k=f k:=by
 have:Nat.beq k d=false:=by
  cases hb:Nat.beq k d with
  |false=>rfl
  |true=>exact absurd (cz hb) h
 simp only[bP,this,au]
def S.set(σ:S)(d:Nat)(x:A):S:={ σ with t:=bP σ.t d x }
def S.drop(σ:S)(d:Nat):S:=⟨λk=>(σ.t k).drop d,λr=>bif Nat.beq r d then none else (σ.m r).map (aW.drop d)⟩
def S.root(σ:S)(d:Nat)(x:aW):S:={ σ with m:=bP σ.m d (some x) }
theorem Rl.set{x:A}{v:Value}{d:Nat}(h:Rl w0 N ah ρ σ a w)(hx:RA w w0.heap.size ah ρ x v)(hd:d<N):Rl w0 N ah ρ (σ.set d x) (a.put (some d) v) w:=by
 refine⟨h.below,h.dn,h.root,λk=>?_,?_,h.defers,h.fix,h.dQ⟩
 ·show RA w w0.heap.size ah ρ (bP σ.t d x k) ((a.tmps.setIfInBounds d v).getD k undef);by_cases hk:k=d
  ·subst hk;rw[bY,jy,Array.getElem?_setIfInBounds_self];have:k<a.tmps.size:=by rw[h.size];exact hd
   simp only[this,if_true,Option.getD_some];exact hx
  ·rw[cL _ _ _ hk,jy,Array.getElem?_setIfInBounds_ne (Ne.symm hk),<-jy];exact h.tmp k
 ·show (a.tmps.setIfInBounds d v).size=N;rw[Array.size_setIfInBounds];exact h.size
theorem Rl.grow(h:Rl w0 N ah ρ σ a w)(hb:Below w.heap.size w w')(hl:∀ b,b<w.heap.size->aC b=ah b)(hg:∀ b k,w.heap.size<=b->aC b=some k->b<w'.heap.size/\k≠[]):Rl w0 N aC ρ σ a w':=by
 have hk:∀b,b<w.heap.size->w'.heap[b]?=w.heap[b]?/\aC b=ah b:=λb ug=>⟨hb.block b ug,hl b ug⟩
 refine⟨h.below.trans (.of hb h.below.size),λb k l6=>?_,λr x hx=>(h.root r x hx).iD hb.size hk (λb k hb=>(h.dn b k hb).2.1),λk=>(h.tmp k).iD hb.size hk (λb k hb=>(h.dn b k hb).2.1),h.size,h.defers,h.fix,h.dQ⟩
 rcases Nat.lt_or_ge b w.heap.size with bC|oZ
 ·rw[hl b bC]at l6;have:=h.dn b k l6;exact⟨this.1,mG this.2.1 hb.size,this.2.2⟩
 ·have:=hg b k oZ l6;exact⟨.inl (Nat.le_trans h.below.size oZ),this.1,this.2⟩
theorem Rl.new{d:Nat}{x:aW}(h:Rl w0 N ah ρ σ a w)(l:Loc)(hx:fj w w0.heap.size ah (bP ρ d l) d x)(hF:w0.F d=none):Rl w0 N ah (bP ρ d l) ((σ.drop d).root d x) a w:=by
 have aM:∀r,r≠d->bP ρ d l r=ρ r:=λr hr=>cL _ _ _ hr
 refine⟨h.below,h.dn,λr y hy=>?_,λk=>(h.tmp k).eW aM,h.size,h.defers,λr l' hr=>(aM r (by rintro rfl;rw[hF]at hr;cases hr)).trans (h.fix r l' hr),h.dQ⟩
 by_cases hr:r=d
 ·subst hr;have e:(bP (σ.drop r).m r (some x)) r=some x:=bY _ _ _;have hy:(bP (σ.drop r).m r (some x)) r=some y:=hy;rw[e]at hy;injection hy with hy;subst hy;exact hx
 ·have hy:(bP (σ.drop d).m d (some x)) r=some y:=hy;rw[cL _ _ _ hr]at hy;have hb:Nat.beq r d=false:=by
   cases hb:Nat.beq r d with
   |false=>rfl
   |true=>exact absurd (cz hb) hr
  simp only[S.drop,hb,au]at hy;cases hm:σ.m r with
  |none=>rw[hm]at hy;cases hy
  | some z=>
   rw[hm]at hy;injection hy with hy;subst hy;exact(h.root r z hm).eW aM hr
end
end Go.Proofs.YtcioagfjiccleaaGreat
namespace Go.Proofs.YtcioagfjiccleaaGreat
open Go.RowKit
set_option linter.unusedVariables false
def splice{α:Type}(l:af α)(j:Nat)(xs:af α):af α:=l.take j++xs++l.drop (j+xs.length)
theorem uh{α:Type}(l:af α)(j:Nat)(xs:af α)(h:j+xs.length<=l.length):(splice l j xs).length=l.length:=by
 simp[splice];omega
theorem yf{α:Type}(l:af α)(j:Nat)(xs:af α)(h:j+xs.length<=l.length)(n:Nat):
  (splice l j xs)[n]?=if n<j then l[n]? else if n<j+xs.length then xs[n-j]? else l[n]?:=by
 unfold splice;have ht:(l.take j).length=j:=by simp;omega
 split
 next hn=>rw[List.append_assoc,List.getElem?_append_left (by rw[ht];exact hn),List.getElem?_take,bu hn]
 ·split
  next h1 h2=>rw[List.append_assoc,List.getElem?_append_right (by rw[ht];omega),ht,List.getElem?_append_left (by omega)]
  next h1 h2=>rw[List.getElem?_append_right (by simp;omega),List.getElem?_drop];congr 1;simp;omega
structure wH (w w':World) (bt:Nat):Prop where
 size:w'.heap.size=w.heap.size
 os:w'.os=w.os
 tape:w'.tape=w.tape
 output:w'.output=w.output
 block:∀k,k≠bt->w'.heap[k]?=w.heap[k]?
theorem Mg(w:World)(b o:Nat)(l:af Value):wH w (w.setCells b o l) b:=by
 have g:=XF b l o w;have s:=XE b l o w
 refine⟨s,g.os,g.tape,g.output,λk hk=>?_⟩
 rcases Nat.lt_or_ge k w.heap.size with bC|oZ
 ·exact g.block k bC (by intro e;injection e with e;exact hk e)
 ·rw[Array.getElem?_eq_none oZ,Array.getElem?_eq_none (by rw[s];exact oZ)]
section
variable {w w':World} {w0:Wd} {B N:Nat} {ah:bE} {ρ:Nat->Loc} {m m':Nat->aj aW} {σ:S} {a:Act} {bt:Nat} {kt:af Nat}
def sO(w w':World)(ah:bE)(ρ:Nat->Loc):Prop:=∀k ad v,addrAt w ah ρ k=some ad->w.cell? ad=some v->oe v=true->w'.cell? ad=some v
theorem Sa(hC:sO w w' ah ρ):∀ (k:af Nat) (ad:Addr),addrAt w ah ρ k=some ad->addrAt w' ah ρ k=some ad
 |[],_,h=>h
 |[_],_,h=>h
 |[_,_],_,h=>h
 |[_,_,_],_,h=>by simp only[addrAt]at h ⊢;exact h
 |[j,i,s,r],_,h=>by simp only[addrAt]at h ⊢;exact h
 | j :: i :: s :: x :: y :: q,ad,h=>by
  simp only[addrAt]at h ⊢;cases ha:addrAt w ah ρ (x::y::q)with
  |none=>rw[ha]at h;cases h
  | some qC=>
   rw[Sa hC _ _ ha];rw[ha]at h;cases hc:w.cell? qC with
   |none=>simp[hc]at h
   | some v=>
    simp only[Option.bind_some,hc]at h;have hv:oe v=true:=by
     split at h
     next e=>injection e with e;subst e;rfl
     ·cases h
    simp only[Option.bind_some,hC _ _ _ ha hc hv];exact h
theorem YD(hC:sO w w' ah ρ)(k:af Nat)(u:Value)(hu:oe u=true)(h:cE w ah ρ k=some u):cE w' ah ρ k=some u:=by
 match k,h with
 |[],h=>simp[cE,addrAt]at h
 |[r],h=>exact h
 | x :: y :: q,h=>
  simp only[cE]at h ⊢;cases ha:addrAt w ah ρ (x::y::q)with
  |none=>rw[ha]at h;cases h
  | some ad=>
   rw[Sa hC _ _ ha];rw[ha]at h;have h:w.cell? ad=some u:=h;exact hC _ _ _ ha h hu
theorem dN.wrote{x:Lf}{u:Value}(h:dN w B ah ρ x u)(hw:wH w w' bt)(hl:ah bt=some kt)(hC:sO w w' ah ρ):dN w' B ah ρ x u:=by
 cases x with
 |v x=>exact⟨h.1,h.2.apart hl (.inr h.1) (Nat.le_of_eq hw.size.symm) hw.block⟩
 |own k=>exact⟨h.1,YD hC k u h.1 h.2⟩
 |dead=>trivial
theorem eB.wrote{cs:af Lf}{us:Array Value}(h:eB w B ah ρ cs us)(hw:wH w w' bt)(hl:ah bt=some kt)(hC:sO w w' ah ρ):eB w' B ah ρ cs us:=
 ⟨h.1,λj x hx=>let ⟨u,hu,r⟩:=h.2 j x hx;⟨u,hu,r.wrote hw hl hC⟩⟩
theorem RP.wrote{p:Bool×af Lf}{u:Value}(h:RP w B ah ρ p u)(hw:wH w w' bt)(hl:ah bt=some kt)(hC:sO w w' ah ρ):RP w' B ah ρ p u:=by
 obtain⟨b,cs⟩:=p;cases b with
 |true=>obtain⟨us,e,h⟩:=h;exact⟨us,e,h.wrote hw hl hC⟩
 |false=>exact eB.wrote h hw hl hC
theorem RF.wrote{cs:af V}{u:Value}(h:RF w B ah cs u)(hw:wH w w' bt)(hl:ah bt=some kt):RF w' B ah cs u:=by
 obtain⟨b,off,e,hb,gR,h⟩:=h;have bg:b≠bt:=by rintro rfl;rw[hl]at gR;cases gR
 refine⟨b,off,e,by rw[hw.size];exact hb,gR,λj x hx=>?_⟩
 obtain⟨hf,v,hv,hr⟩:=h j x hx;exact⟨hf,v,(mH (a:=⟨b,_,none⟩) (hw.block b bg)).trans hv,hr.apart hl (.inr hf) (Nat.le_of_eq hw.size.symm) hw.block⟩
theorem RA.wrote{x:A}{u:Value}(h:RA w B ah ρ x u)(hw:wH w w' bt)(hl:ah bt=some kt)(hC:sO w w' ah ρ):RA w' B ah ρ x u:=by
 cases x with
 |undef=>trivial
 |skip=>exact h
 |lf x=>exact dN.wrote h hw hl hC
 |agg cs=>exact RP.wrote (p:=(true,cs)) h hw hl hC
 |cP xs=>obtain⟨us,e,hs,h⟩:=h;exact⟨us,e,hs,λj p hp=>let ⟨v,hv,r⟩:=h j p hp;⟨v,hv,r.wrote hw hl hC⟩⟩
 |ptr k=>obtain⟨ad,e,h⟩:=h;exact⟨ad,e,Sa hC _ _ h⟩
 |view k s i j=>obtain⟨A,n,c,h,g⟩:=h;exact⟨A,n,c,YD hC k _ rfl h,g⟩
 |pk r n=>exact h
 |aG r j=>exact h
 |jB cs=>exact RF.wrote h hw hl
 |mK f cs=>obtain⟨pv,e,h⟩:=h;exact⟨pv,e,h.wrote hw hl⟩
 |fn f cap=>exact h
theorem fj.wrote{r:Nat}{x:aW}(h:fj w B ah ρ r x)(hw:wH w w' bt)(hl:ah bt=some kt)(hC:sO w w' ah ρ)(hr:¬ [r] <:+ kt):fj w' B ah ρ r x:=by
 cases h with
 | ax b off cells e cs us aM gR hh hs hc=>
  have bg:b≠bt:=by rintro rfl;rw[hl]at gR;injection gR with gR;subst gR;exact hr (List.suffix_refl _)
  exact .ax b off cells e cs us aM gR ((hw.block b bg).trans hh) hs (λj x hx=>⟨(hc j x hx).1,(hc j x hx).2.wrote hw hl hC⟩)
 |sl v y aM dA=>exact .sl v y aM (dA.apart hl (.inl hr) (Nat.le_of_eq hw.size.symm) hw.block)
 | mp b c es l aM gR hh he=>
  have bg:b≠bt:=by rintro rfl;rw[hl]at gR;injection gR with gR;subst gR;exact hr (List.suffix_refl _)
  exact .mp b c es l aM gR ((hw.block b bg).trans hh) he
 |gh us xs aM hx=>exact .gh us xs aM λj x hj=>(hx j x hj).wrote hw hl hC
theorem Rl.wrote(h:Rl w0 N ah ρ σ a w)(hw:wH w w' bt)(hl:ah bt=some kt)(hC:sO w w' ah ρ)(hm:∀ r x,m' r=some x->fj w' w0.heap.size ah ρ r x):Rl w0 N ah ρ ⟨σ.t,m'⟩ a w':=by
 have hb:=(h.dn bt kt hl).1;have bg:∀ k,k<w0.heap.size->w0.L k=none->k≠bt:=by
  rintro k hk hL rfl;rcases hb with hb|hb
  ·exact absurd hk (Nat.not_lt.2 hb)
  ·exact hb hL
 refine⟨⟨hw.os.trans h.below.os,hw.tape.trans h.below.tape,hw.output.trans h.below.output,by rw[hw.size];exact h.below.size,λk hk hL=>(hw.block k (bg k hk hL)).trans (h.below.block k hk hL)⟩,λb k l6=>?_,hm,λk=>(h.tmp k).wrote hw hl hC,h.size,h.defers,h.fix,h.dQ⟩
 rw[hw.size];exact h.dn b k l6
theorem Sb{r r':Nat}(h:r'≠r):¬ [r'] <:+ [r]:=by
 intro hs;have:=hs.eq_of_length rfl;injection this with this;exact h this
theorem Rl.HP{r j:Nat}{cs xs:af Lf}{us:Array Value}(h:Rl w0 N ah ρ σ a w)(hm:σ.m r=some (.ax cs))(hx:eB w w0.heap.size ah ρ xs us)(hj:j+xs.length<=cs.length):
  ∃b off,ρ r = .ax b off/\w.there b (off+j) us.size/\Rl w0 N ah ρ ⟨σ.t,bP σ.m r (some (.ax (splice cs j xs)))⟩ a (w.setCells b (off+j) us.toList):=by
 have hr:=h.root r _ hm;generalize he:aW.ax cs=x at hr;cases hr with
 |sl=>cases he
 |mp=>cases he
 |gh=>cases he
 | ax b off cells e fO u aM hl hh hs hc=>
  injection he with he;subst he;have hlen:us.size=xs.length:=hx.1;have ji:off+j+us.toList.length<=cells.size:=by rw[mX,hlen];omega
  have hW:=Mg w b (off+j) us.toList;obtain⟨c2,fT,jt⟩:=G0 b e us.toList (off+j) w cells hh ji;have hC:sO w (w.setCells b (off+j) us.toList) ah ρ:=by
   intro k ad v ha hv gM;obtain⟨j',i',s',q,rfl,hq,_,_,Sc⟩:=ye k ad ha;have bg:ad.block≠b:=by
    intro e;rw[e,hl]at hq;injection hq with hq;obtain⟨v',dY⟩:=Sc r hq.symm;rw[aM]at dY;cases dY
   exact(mH (hW.block _ bg)).trans hv
  refine⟨b,off,aM,λn hn=>⟨?_,frozen_of_row w b _ cells e hh⟩,h.wrote hW hl hC λr' y hy=>?_⟩
  ·rw[cell_of_row w b _ cells e _ hh];simp;omega
  ·by_cases kY:r'=r
   ·subst kY;rw[bY]at hy;injection hy with hy;subst hy
    refine .ax b off c2 e _ (λn=>if n<j then u n else if n<j+xs.length then us.getD (n-j) undef else u n) aM hl fT ?_ λn x yg=>?_
    ·rw[uh _ _ _ hj,<-mX,jt];have:=uh cells.toList (off+j) us.toList (by simpa using ji);simp only[splice]at this;rw[this]
     simpa using hs
    ·have e2:c2[off+n]?=(splice cells.toList (off+j) us.toList)[off+n]?:=by
      rw[show c2[off+n]?=c2.toList[off+n]? by simp,jt];rfl
     rw[e2,yf _ _ _ (by simpa using ji)];rw[yf _ _ _ hj]at yg;by_cases h1:n<j
     ·rw[bu (by omega)];simp only[h1,if_true]at yg ⊢;refine⟨?_,(hc n x yg).2.wrote hW hl hC⟩;rw[nu];exact(hc n x yg).1
     ·by_cases h2:n<j+xs.length
      ·rw[bJ (by omega),bu (by rw[mX,hlen];omega)];simp only[h1,h2,if_true,if_false]at yg ⊢;obtain⟨v,hv,hr⟩:=hx.2 (n-j) x yg;have hg:us.getD (n-j) undef=v:=by rw[jy,hv];rfl
       rw[hg];refine⟨?_,hr.wrote hW hl hC⟩;rw[show off+n-(off+j)=n-j by omega,nu];exact hv
      ·rw[bJ (by omega),bJ (by rw[mX,hlen];omega)];simp only[h1,h2,if_false]at yg ⊢;refine⟨?_,(hc n x yg).2.wrote hW hl hC⟩;rw[nu];exact(hc n x yg).1
   ·rw[cL _ _ _ kY]at hy;exact(h.root r' y hy).wrote hW hl hC (Sb kY)
inductive Ax (m:Nat->Option aW):List Nat->V->(Nat->Option aW)->Prop
 |root (r:Nat) (y0 y:V) (h:m r=some (.sl y0)):Ax m [r] y (bP m r (some (.sl y)))
 | elem (j i:Nat) (q:List Nat) (t:TC) (o:Nat) (qn:Bool) (l:List (T t)) (y:V) (e:T t) (m':Nat->Option aW) (h:wG m q (.sl t (o+2) qn l)) (hi:i<l.length) (hj:j<aB t)
   (hd:dec t o (splice (enc t o l[i]) j [y])=some e) (hp:Ax m q (.sl t (o+2) qn (l.set i e)) m'):Ax m (j::i::aB t::q) y m'
theorem Sd{α:Type}{a b c:af α}(ha:a <:+ c)(hb:b <:+ c)(h:a.length=b.length):a=b:=by
 obtain⟨x,hx⟩:=ha;obtain⟨y,hy⟩:=hb;rw[<-hx]at hy;exact((List.append_inj' hy h.symm).2).symm
theorem RV.Mh{q:af Nat}{t:TC}{o:Nat}{qn:Bool}{l:af (T t)}{i j:Nat}{xs:af V}{e:T t}{b cap:Nat}{cs fO:Array Value}{u us:Nat->Nat->Value}
  (hl:ah b=some q) (hh:w'.heap[b]?=some (.cells fO (tid t) (0,0))) (hs:fO.size=cap*aB t) (hn:l.length<=cap) (hm:cap<=maxLen/\(qn=true->cap=l.length)) (hi:i<l.length) (hj:j+xs.length<=aB t)
  (hd:dec t o (splice (enc t o l[i]) j xs)=some e)
  (hc:∀i' (h:i'<l.length) (j':Nat) x,(enc t o l[i'])[j']?=some x->¬ (i'=i/\j<=j'/\j'<j+xs.length)->fO[i'*aB t+j']?=some (u i' j')/\RV w' B ah (j'::i'::aB t::q) x (u i' j'))
  (hx:∀(n:Nat) x,xs[n]?=some x->fO[i*aB t+(j+n)]?=some (us i (j+n))/\RV w' B ah ((j+n)::i::aB t::q) x (us i (j+n))):
  RV w' B ah q (.sl t (o+2) qn (l.set i e)) (.slice (some ⟨b,0,none⟩) l.length cap):=by
 have hlen:(l.set i e).length=l.length:=kM;have key:∀ i' (h:i'<(l.set i e).length) (j':Nat) x,(enc t o (l.set i e)[i'])[j']?=some x->
   ∃v,fO[i'*aB t+j']?=some v/\RV w' B ah (j'::i'::aB t::q) x v:=by
  intro i' h j' x cV;rw[List.getElem_set]at cV;by_cases YE:i=i'
  ·subst YE;rw[bu rfl]at cV;have hk:=nB t o _ e hd;have qD:j'<(enc t o e).length:=(dJ.1 cV).1;rw[<-hk.1]at qD;have hy:=bT qD;generalize (splice (enc t o l[i]) j xs)[j']=y at hy;have hw:=hk.2 j' y x hy cV;rw[yf _ _ _ (by rw[lO];exact hj)]at hy;by_cases h1:j'<j
   ·rw[bu h1]at hy;obtain⟨h3,h4⟩:=hc i hi j' y hy (by omega);exact⟨_,h3,h4.wk hw⟩
   ·by_cases h2:j'<j+xs.length
    ·rw[bJ h1,bu h2]at hy;obtain⟨h3,h4⟩:=hx (j'-j) y hy;rw[show j+(j'-j)=j' by omega]at h3 h4;exact⟨_,h3,h4.wk hw⟩
    ·rw[bJ h1,bJ h2]at hy;obtain⟨h3,h4⟩:=hc i hi j' y hy (by omega);exact⟨_,h3,h4.wk hw⟩
  ·rw[bJ YE]at cV;obtain⟨h3,h4⟩:=hc i' (by rw[<-hlen];exact h) j' x cV (by omega);exact⟨_,h3,h4⟩
 rw[<-hlen]
 refine .own q t o qn (l.set i e) b cap fO (λi' j'=>(fO[i'*aB t+j']?).getD undef) hl hh hs (by rw[hlen];exact hn) ⟨hm.1,λh=>by rw[hlen];exact hm.2 h⟩ (λi' h j' x cV=>?_) (λi' h j' x cV=>?_)
 ·obtain⟨v,hv,_⟩:=key i' h j' x cV;rw[hv];rfl
 ·obtain⟨v,hv,hr⟩:=key i' h j' x cV;rw[hv];exact hr
theorem YF{r:Nat}{q:af Nat}(h:[r] <:+ q){r':Nat}(h':[r'] <:+ q):r'=r:=by
 have:=Sd h' h rfl;injection this
theorem Ax.ok{q:af Nat}{y:V}(h:Ax m q y m')(hm:∀ r x,m r=some x->fj w B ah ρ r x)(hw:wH w w' bt)(hl:ah bt=some kt)(hq:q <:+ kt)(hC:sO w w' ah ρ){hv:Value}(fG:cE w ah ρ q=some hv)(hy:RV w' B ah q y hv):
  ∀r x,m' r=some x->fj w' B ah ρ r x:=by
 induction h generalizing hv with
 | root r y0 y h=>
  intro r' x hx;by_cases hr:r'=r
  ·subst hr;rw[bY]at hx;injection hx with hx;subst hx;simp only[cE]at fG;cases aM:ρ r' with
   |ax b off=>rw[aM]at fG;cases fG
   |bQ us=>rw[aM]at fG;cases fG
   | dP v=>
    rw[aM]at fG;injection fG with fG;subst fG;exact .sl v y aM hy
  ·rw[cL _ _ _ hr]at hx;exact(hm r' x hx).wrote hw hl hC (λhs=>hr (YF hq hs))
 | elem j i q t o qn l y e m' h hi hj hd hp ih=>
  obtain⟨dY,Cm,dA⟩:=h.ok hm;have hqk:q <:+ kt:=List.IsSuffix.trans ⟨[j,i,aB t],rfl⟩ hq;cases dA with
  |dc=>simp at hi
  |dg=>simp at hi
  |dz=>simp at hi
  |aA _ _ _ _ _ _ _ _ _ ho=>omega
  | own _ _ _ _ _ b cap cs us dB hh hs hn uj hc hr=>
   have bg:b≠bt:=by
    rintro rfl;rw[hl]at dB;injection dB with dB;subst dB;have:=hq.length_le;simp at this;omega
   have hz:=Nat.le_of_eq hw.size.symm
   refine ih hqk Cm (RV.Mh (us:=λ_ _=>hv) (u:=us) (cs:=cs) (xs:=[y]) dB ((hw.block b bg).trans hh) hs hn uj hi (show j+1<=aB t from hj) hd (λi' h' j' x hx HQ=>⟨hc i' h' j' x hx,(hr i' h' j' x hx).apart hl (.inl λnD=>HQ ?_) hz hw.block⟩) (λn x hx=>?_))
   ·have:=Sd nD hq rfl;injection this with e1 e2;injection e2 with e2 _;subst e1 e2;exact⟨rfl,gZ _,by simp⟩
   ·cases n with
    |succ n=>simp at hx
    | zero=>
     simp at hx;subst hx;refine⟨?_,hy⟩;rw[Mf,Cj j i (aB t) Cm dB]at fG;have fG:w.cell? ⟨b,i*aB t+j,none⟩=some hv:=fG;rw[cell_of_row w b _ cs _ _ hh]at fG;exact fG
theorem RV.YG{q:af Nat}{x:V}{v:Value}(h:RV w B ah q x v)(hx:x.plain=true):oe v=false:=by
 cases h<;>first|rfl|cases hx
theorem RV.vj{q q':af Nat}{x:V}{v:Value}{B':Nat}{aC:bE}(h:RV w B ah q x v)(hx:x.plain=true):RV w' B' aC q' x v:=by
 cases h<;>first|exact .int _ _ _|exact .bool _ _|exact .str _ _|cases hx
theorem Rl.ahd{j i:Nat}{q:af Nat}{t:TC}{o:Nat}{qn:Bool}{l:af (T t)}{xs:af V}{us:Array Value}{e:T t}(h:Rl w0 N ah ρ σ a w)(hg:wG σ.m q (.sl t (o+2) qn l))(hi:i<l.length)(hj:j+xs.length<=aB t)
  (hd:dec t o (splice (enc t o l[i]) j xs)=some e) (hold:∀(n:Nat) x,n<xs.length->(enc t o l[i])[j+n]?=some x->x.plain=true) (hxp:∀x∈xs,x.plain=true) (gD:us.size=xs.length) (hx:∀(n:Nat) x,xs[n]?=some x->∃u,us[n]?=some u/\RV w w0.heap.size ah [] x u)
  (hp:Ax σ.m q (.sl t (o+2) qn (l.set i e)) m'):
  ∃b,addrAt w ah ρ (j::i::aB t::q)=some ⟨b,i*aB t+j,none⟩/\w.there b (i*aB t+j) us.size/\Rl w0 N ah ρ ⟨σ.t,m'⟩ a (w.setCells b (i*aB t+j) us.toList):=by
 obtain⟨dY,Cm,dA⟩:=hg.ok h.root;cases dA with
 |dc=>simp at hi
 |dg=>simp at hi
 |dz=>simp at hi
 |aA _ _ _ _ _ _ _ _ _ ho=>omega
 | own _ _ _ _ _ b cap cs u dB hh hs hn uj hc hr=>
  have sP:i*aB t+aB t<=cap*aB t:=by
   have:(i+1)*aB t<=cap*aB t:=kz _ (by omega);rw[je]at this;exact this
  have ji:i*aB t+j+us.toList.length<=cs.size:=by rw[mX,gD,hs];omega
  have hW:=Mg w b (i*aB t+j) us.toList;obtain⟨c2,fT,jt⟩:=G0 b (tid t) us.toList (i*aB t+j) w cs hh ji;have vk:∀ n,c2[n]?=if n<i*aB t+j then cs[n]? else if n<i*aB t+j+xs.length then us[n-(i*aB t+j)]? else cs[n]?:=by
   intro n;have e2:c2[n]?=(splice cs.toList (i*aB t+j) us.toList)[n]?:=by
    rw[show c2[n]?=c2.toList[n]? by simp,jt];rfl
   rw[e2,yf _ _ _ (by simpa using ji),mX,gD];simp
  have HR:c2.size=cs.size:=by
   rw[<-mX,jt];have:=uh cs.toList (i*aB t+j) us.toList (by simpa using ji);simp only[splice]at this;rw[this];simp
  have hC:sO w (w.setCells b (i*aB t+j) us.toList) ah ρ:=by
   intro k ad v ha hv gM;by_cases bg:ad.block=b
   ·obtain⟨j',i',s',q',rfl,m0,ahe,sQ,_⟩:=ye k ad ha;have jX:ad=⟨b,ad.off,none⟩:=by cases ad;simp_all
    rw[jX,cell_of_row w b _ cs _ _ hh]at hv;rw[jX,cell_of_row _ b _ c2 _ _ fT,vk];by_cases h1:ad.off<i*aB t+j
    ·rw[bu h1];exact hv
    ·by_cases h2:ad.off<i*aB t+j+xs.length
     ·exfalso;have hjs:ad.off-(i*aB t+j)<xs.length:=by omega
      have yh:j+(ad.off-(i*aB t+j))<(enc t o l[i]).length:=by rw[lO];omega
      have hy:=bT yh;generalize (enc t o l[i])[j+(ad.off-(i*aB t+j))]=y at hy;have iP:=hold _ y hjs hy;have h3:=hc i hi _ y hy;rw[show i*aB t+(j+(ad.off-(i*aB t+j)))=ad.off by omega]at h3;rw[hv]at h3;injection h3 with h3;have:=(hr i hi _ y hy).YG iP;rw[<-h3,gM]at this;cases this
     ·rw[bJ h1,bJ h2];exact hv
   ·exact(mH (hW.block _ bg)).trans hv
  refine⟨b,Cj j i (aB t) Cm dB,λn sR=>⟨?_,frozen_of_row w b _ cs _ hh⟩,h.wrote hW dB hC (hp.ok h.root hW dB (List.suffix_refl _) hC Cm ?_)⟩
  ·rw[cell_of_row w b _ cs _ _ hh];simp;omega
  ·refine RV.Mh (u:=u) (us:=λ_ n=>us.getD (n-j) undef) (cs:=cs) (xs:=xs) dB fT (HR.trans hs) hn uj hi hj hd (λi' h' j' x cV HQ=>?_) (λn x cV=>?_)
   ·have qD:j'<aB t:=by have:=(dJ.1 cV).1;rwa [lO]at this
    refine⟨?_,(hr i' h' j' x cV).apart dB (.inl λnD=>?_) (Nat.le_of_eq hW.size.symm) hW.block⟩
    ·rw[vk];have vl:¬ (¬ i'*aB t+j'<i*aB t+j/\i'*aB t+j'<i*aB t+j+xs.length):=by
      rintro⟨h1,h2⟩;rcases Nat.lt_trichotomy i' i with bC|heq|EL
      ·have:(i'+1)*aB t<=i*aB t:=kz _ bC;rw[je]at this;omega
      ·subst heq;exact HQ ⟨rfl,by omega,by omega⟩
      ·have:(i+1)*aB t<=i'*aB t:=kz _ EL;rw[je]at this;omega
     split
     ·exact hc i' h' j' x cV
     ·rw[bJ (by omega)];exact hc i' h' j' x cV
    ·have:=nD.length_le;simp at this;omega
   ·obtain⟨v,hv,Cn⟩:=hx n x cV;have sR:n<xs.length:=(dJ.1 cV).1;have vm:us.getD (j+n-j) undef=v:=by rw[show j+n-j=n by omega,jy,hv];rfl
    show c2[_]?=some (us.getD (j+n-j) undef)/\RV _ _ _ _ _ (us.getD (j+n-j) undef);rw[vm,vk,bJ (by omega),bu (by omega)];refine⟨?_,Cn.vj (hxp x (iy cV))⟩;rw[show i*aB t+(j+n)-(i*aB t+j)=n by omega];exact hv
end
end Go.Proofs.YtcioagfjiccleaaGreat
namespace Go.Proofs.YtcioagfjiccleaaGreat
open Go.RowKit
set_option linter.unusedVariables false
def Se:Value->A
 |.bool b=>.lf (.v (.bool b))
 |.int k n=>.lf (.v (.int k n))
 |.string s=>.lf (.v (.str s))
 |.slice none 0 0=>.lf (.v .nil)
 |_=>.undef
def aF(σ:S):Operand->A
 |.tmp t=>σ.t t
 |.const v=>Se v
 |.func f=>.fn f []
 |.global _=>.undef
def jM{X:Type}(N:Nat)(σ:S)(dst:aj Tmp)(x:A)(k:S->aj X):aj X:=
 match dst with
 |none=>k σ
 |some d=>bif Nat.blt d N then k (σ.set d x)else none
def nE(P:Program)(w0:Wd)(N:Nat)(o:Oper)(σ az:S):Prop:=
 ∀a w K Q,R w0 N σ a w->(∀a' w',R w0 N az a' w'->K a' w')->o.wp P a w K Q
section
variable {P:Program} {w:World} {w0:Wd} {B N:Nat} {ah:bE} {ρ:Nat->Loc} {σ:S} {a:Act} {X:Type} {r:X} {k:S->aj X} {o:Oper}
theorem ahf(v:Value):RA w B ah ρ (Se v) v:=by
 unfold Se;split
 ·exact⟨rfl,.bool _ _⟩
 ·exact⟨rfl,.int _ _ _⟩
 ·exact⟨rfl,.str _ _⟩
 ·exact⟨rfl,.nil _⟩
 ·trivial
theorem Rl.aF(h:Rl w0 N ah ρ σ a w)(x:Operand):RA w w0.heap.size ah ρ (aF σ x) (a.eval x):=by
 cases x with
 |tmp t=>exact h.tmp t
 |const v=>exact ahf v
 |func f=>exact⟨#[],rfl,rfl,by simp⟩
 |global g=>trivial
theorem nE.val{x:A}(hk:jM N σ o.dst x k=some r)(h:∀ ah ρ a w,Rl w0 N ah ρ σ a w->∃ v,(execOp a.eval o).run P w = .ok (.value v) w/\RA w w0.heap.size ah ρ x v):∃ az,k az=some r/\nE P w0 N o σ az:=by
 unfold jM at hk;split at hk
 ·rename_i hd
  refine⟨σ,hk,λa w K Q hR hK=>?_⟩
  obtain⟨ah,ρ,hl⟩:=hR;obtain⟨v,hv,hx⟩:=h ah ρ a w hl;unfold Oper.wp;rw[hv,Oper.upon_value,hd];exact hK _ _ ⟨ah,ρ,hl⟩
 ·rename_i d hd;cases hN:Nat.blt d N with
  |false=>rw[hN]at hk;cases hk
  | true=>
   rw[hN]at hk
   refine⟨_,hk,λa w K Q hR hK=>?_⟩
   obtain⟨ah,ρ,hl⟩:=hR;obtain⟨v,hv,hx⟩:=h ah ρ a w hl;unfold Oper.wp;rw[hv,Oper.upon_value,hd];exact hK _ _ ⟨ah,ρ,hl.set hx (by have:=cH hN;omega)⟩
/-! Contents of leaves. -/
def gV{X:Type}(m:Nat->aj aW):af Nat->(V->aj X)->aj X
 | [r],k=>match m r with
  |some (.sl y)=>k y
  |_=>none
 | j :: i :: s :: q,k=>gV m q λy=>match y with
  |.sl t (o+2) _ l=>if s=aB t then (if h:i<l.length then (match (enc t o l[i])[j]? with|some z=>k z|none=>none)else none)else none
  |_=>none
 |_,_=>none
theorem uk{m:Nat->aj aW}:∀ (q:af Nat) (k:V->aj X),gV m q k=some r->∃ y,wG m q y/\k y=some r
 |[],_,h=>by simp[gV]at h
 | [x],k,h=>by
  simp only[gV]at h;split at h
  next y hy=>exact⟨y,.root x y hy,h⟩
  ·cases h
 |[_,_],_,h=>by simp[gV]at h
 | j :: i :: s :: q,k,h=>by
  simp only[gV]at h;obtain⟨y,hy,h2⟩:=uk q _ h;clear h;split at h2
  ·split at h2
   ·rename_i hs;subst hs;split at h2
    ·rename_i hi;split at h2
     next z hz=>exact⟨z,.elem j i q _ _ _ _ z hy hi hz,h2⟩
     ·cases h2
    ·cases h2
   ·cases h2
  ·cases h2
def jY{X:Type}(σ:S)(x:Lf)(k:V->aj X):aj X:=
 match x with
 |.v y=>k y
 |.own q=>gV σ.m q k
 |.dead=>none
theorem RV.part{q:af Nat}{tc:TC}{g:Nat}{qn:Bool}{xs:af (T tc)}{A:aj Addr}{n c a h:Nat}(hr:RV w B ah q (.sl tc g qn xs) (.slice A n c))(hg:g<2)(h1:a<=h)(h2:h<=xs.length):RV w B ah q (.sl tc g false ((xs.take h).drop a)) (sliced A a h c (aB tc))/\n=xs.length/\xs.length<=c:=by
 have hlen:((xs.take h).drop a).length=h-a:=by simp;omega
 cases hr with
 | dc=>
  have:a=0:=by simp at h2;omega
  have:h=0:=by simpa using h2
  subst_vars
  exact⟨.dc _ _ _,rfl,gZ _⟩
 | dg=>
  have:h=0:=by simpa using h2
  subst this;have:a=0:=by omega
  subst this;exact⟨by unfold sliced;split<;>exact .dg _ _ _ _ _ hg,rfl,Nat.zero_le _⟩
 | dz=>
  have:h=0:=by simpa using h2
  subst this;have:a=0:=by omega
  subst this;exact⟨by unfold sliced;split<;>exact .dg _ _ _ _ _ hg,rfl,Nat.zero_le _⟩
 |own=>omega
 | aA _ _ _ _ _ b off cap u ho hl hb hB ey hc hr=>
  refine⟨?_,rfl,ey⟩;by_cases he:a=h
  ·subst he;have e0:(xs.take a).drop a=[]:=List.eq_nil_of_length_eq_zero (by rw[hlen];omega);rw[e0];unfold sliced;rw[Nat.sub_self];split<;>exact .dg _ _ _ _ _ hg
  ·unfold sliced;rw[bJ (by omega),<-hlen];have Ac:(some (⟨b,off,none⟩:Addr)).map (·.add (a*aB tc))=some ⟨b,off+a*aB tc,none⟩:=by
    simp only[jU];unfold Addr.add;split<;>simp_all
   rw[Ac];have kZ:∀ i (hi:i<((xs.take h).drop a).length),((xs.take h).drop a)[i]=xs[a+i]'(by omega):=by
    intro i hi;rw[List.getElem_drop,List.getElem_take]
   refine .aA _ _ _ _ _ b (off+a*aB tc) (c-a) (λi j=>u (a+i) j) ho hl hb hB (by omega) (λi hi j x hx=>?_) (λi hi j x hx=>?_)
   ·rw[kZ i hi]at hx;have:=hc (a+i) (by omega) j x hx;rw[<-this];congr 2;rw[Nat.add_mul];omega
   ·rw[kZ i hi]at hx;exact hr (a+i) (by omega) j x hx
def YH(s i j:Nat):V->aj V
 |.sl t _ _ l=>bif Nat.beq s (aB t)then some (.sl t 0 false ((l.take j).drop i))else none
 |_=>none
def um{X:Type}(σ:S)(q:af Nat)(s i j:Nat)(k:V->aj X):aj X:=
 gV σ.m q λy=>match YH s i j y with
  |some z=>k z
  |none=>none
def rS{X:Type}(σ:S)(y:A)(k:V->aj X):aj X:=
 match y with
 |.lf l=>jY σ l k
 |.view q s i j=>um σ q s i j k
 |_=>none
theorem YI{q:af Nat}{s i j:Nat}{k:V->aj X}(h:um σ q s i j k=some r):∃ z,k z=some r/\z.aA=true/\∀ w0 N ah ρ a w,Rl w0 N ah ρ σ a w->∀ u,RA w w0.heap.size ah ρ (.view q s i j) u->∀ B',RV w B' (λ_=>none) [] z u:=by
 obtain⟨y,hy,h2⟩:=uk q _ h;clear h;split at h2
 ·rename_i z hz;unfold YH at hz;split at hz
  ·rename_i t g qn l;cases hs:Nat.beq s (aB t)with
   |false=>rw[hs]at hz;cases hz
   | true=>
    rw[hs,aq]at hz;obtain rfl:=cz hs;injection hz with hz;subst hz
    refine⟨_,h2,rfl,λw0 N ah ρ a w hR u hu B'=>?_⟩
    obtain⟨A,n,c,hv,h1,h3,rfl⟩:=hu;obtain⟨v,dY,hr⟩:=hy.ok hR.root;rw[hv]at dY;injection dY with dY;subst dY;have hf:RV w B' (λ_=>none) [] (.sl t 0 qn l) (.slice A n c):=hr.ja;have hn:n=l.length:=by cases hf<;>rfl
    exact(hf.part (by omega) h1 (by omega)).1
  ·cases hz
 ·cases h2
def vK{X:Type}(x:A)(k:V->aj X):aj X:=
 match x with
 |.lf (.v y)=>k y
 |_=>none
theorem Mi{x:A}{k:V->aj X}(h:vK x k=some r):∃ y,x = .lf (.v y)/\k y=some r:=by
 unfold vK at h;split at h
 ·exact⟨_,rfl,h⟩
 ·cases h
theorem RV.jk{q:af Nat}{k:IntKind}{n:Int}{u:Value}(h:RV w B ah q (.int k n) u):u = .int k n:=by cases h;rfl
theorem RV.Ay{q:af Nat}{n:Bool}{u:Value}(h:RV w B ah q (.bool n) u):u = .bool n:=by cases h;rfl
theorem RV.yj{q:af Nat}{n:ByteArray}{u:Value}(h:RV w B ah q (.str n) u):u = .string n:=by cases h;rfl
/-! Arithmetic and comparison. -/
def bZ(n:Nat):Bool:=decide (n<1073741824)
def o6{X:Type}(P:Program)(ty:TypeId)(op:BinOp)(x y:V)(k:V->aj X):aj X:=
 match x,y with
 | .int kx a,.int ky b=>match op with
  |.shl=>if b<0 then none else k (.int kx (kx.wrap (a*2 ^ (min b.toNat kx.bits))))
  |.shr=>if b<0 then none else k (.int kx (a.fdiv (2 ^ (min b.toNat kx.bits))))
  | op=>if kx=ky then (match op with
   |.add=>k (.int kx (kx.wrap (a+b)))
   |.sub=>k (.int kx (kx.wrap (a-b)))
   |.mul=>k (.int kx (kx.wrap (a*b)))
   |.quo=>if b=0 then none else k (.int kx (kx.wrap (a.tdiv b)))
   |.rem=>if b=0 then none else k (.int kx (a.tmod b))
   |.and=>k (.int kx (bits .and kx a b))
   |.or=>k (.int kx (bits .or kx a b))
   |.xor=>k (.int kx (bits .xor kx a b))
   |.andNot=>k (.int kx (bits .andNot kx a b))
   |.eql=>k (.bool (a==b))
   |.neq=>k (.bool (a != b))
   |.lss=>k (.bool (decide (a<b)))
   |.leq=>k (.bool (decide (a<=b)))
   |.gtr=>k (.bool (decide (a > b)))
   |.geq=>k (.bool (decide (a >= b)))
   |_=>none)else none
 | .bool a,.bool b=>match P.underlying ty with
  | some .bool=>(match op with
   |.eql=>k (.bool (a==b))
   |.neq=>k (.bool (!(a==b)))
   |_=>none)
  |_=>none
 | .str a,.str b=>match op with
  |.add=>bif bZ (a.size+b.size)then k (.str (a++b))else none
  |.eql=>k (.bool (a.toList==b.toList))
  |.neq=>k (.bool (!(a.toList==b.toList)))
  |_=>none
 |_,_=>none
theorem ahg{ty:TypeId}{op:BinOp}{x y:V}{k:V->aj X}(h:o6 P ty op x y k=some r):∃ z,k z=some r/\z.plain=true/\∀ (w:World) (B:Nat) (ah:bE) (xo yo:Operand) (q q':af Nat) (u v:Value),RV w B ah q x u->RV w B ah q' y v->
  ∃t,(do eqGuard op ty xo yo u v;binOp op ty u v:Sem Value).run P w = .ok t w/\RV w B ah [] z t:=by
 unfold o6 at h;split at h
 ·rename_i kx a ky b;split at h
  ·split at h
   ·cases h
   ·rename_i hb
    refine⟨_,h,rfl,λw B ah xo yo q q' u v hu hv=>?_⟩
    obtain rfl:=hu.jk;obtain rfl:=hv.jk;exact⟨_,by simp[eqGuard,binOp,Op.shift,hb],.int _ _ _⟩
  ·split at h
   ·cases h
   ·rename_i hb
    refine⟨_,h,rfl,λw B ah xo yo q q' u v hu hv=>?_⟩
    obtain rfl:=hu.jk;obtain rfl:=hv.jk;exact⟨_,by simp[eqGuard,binOp,Op.shift,hb],.int _ _ _⟩
  ·rename_i h1 h2;split at h
   ·rename_i hk;subst hk;cases op
    case shl=>exact absurd rfl h1
    case shr=>exact absurd rfl h2
    case quo=>
     by_cases hb:b=0
     ·simp only[hb,if_true]at h;cases h
     ·simp only[hb,if_false]at h
      refine⟨_,h,rfl,λw B ah xo yo q q' u v hu hv=>?_⟩
      obtain rfl:=hu.jk;obtain rfl:=hv.jk;exact⟨_,by simp[eqGuard,binOp,Op.intDiv,hb],.int _ _ _⟩
    case rem=>
     by_cases hb:b=0
     ·simp only[hb,if_true]at h;cases h
     ·simp only[hb,if_false]at h
      refine⟨_,h,rfl,λw B ah xo yo q q' u v hu hv=>?_⟩
      obtain rfl:=hu.jk;obtain rfl:=hv.jk;exact⟨_,by simp[eqGuard,binOp,Op.intDiv,hb],.int _ _ _⟩
    all_goals first
     | (refine⟨_,h,rfl,λw B ah xo yo q q' u v hu hv=>?_⟩
        obtain rfl:=hu.jk;obtain rfl:=hv.jk
        first
         |(refine⟨_,?_,.int _ _ _⟩;simp[eqGuard,binOp,Op.intArith];done)
         |(refine⟨_,?_,.int _ _ _⟩;simp[eqGuard,binOp,intBits_and,intBits_or,intBits_xor,intBits_andNot];done)
         |(refine⟨_,?_,.bool _ _⟩;simp[eqGuard,binOp,Op.intCmp];done))
     |cases h
   ·cases h
 ·rename_i a b;split at h
  ·rename_i HS;split at h
   ·refine⟨_,h,rfl,λw B ah xo yo q q' u v hu hv=>?_⟩
    obtain rfl:=hu.Ay;obtain rfl:=hv.Ay;have e:binOp .eql ty (.bool a) (.bool b)=(do pure (.bool (<-Op.equal ty (.bool a) (.bool b)))):=rfl;have g:eqGuard .eql ty xo yo (.bool a) (.bool b)=pure ():=rfl;exact⟨_,by rw[e,g,fz,Sem.run_pure,kA,fz,run_equal_bool _ _ _ _ HS];rfl,.bool _ _⟩
   ·refine⟨_,h,rfl,λw B ah xo yo q q' u v hu hv=>?_⟩
    obtain rfl:=hu.Ay;obtain rfl:=hv.Ay;have e:binOp .neq ty (.bool a) (.bool b)=(do pure (.bool (!(<-Op.equal ty (.bool a) (.bool b))))):=rfl;have g:eqGuard .neq ty xo yo (.bool a) (.bool b)=pure ():=rfl;exact⟨_,by rw[e,g,fz,Sem.run_pure,kA,fz,run_equal_bool _ _ _ _ HS];rfl,.bool _ _⟩
   ·cases h
  ·cases h
 ·rename_i a b;split at h
  ·cases hL:bZ (a.size+b.size)with
   |false=>rw[hL]at h;cases h
   | true=>
    rw[hL]at h
    refine⟨_,h,rfl,λw B ah xo yo q q' u v hu hv=>?_⟩
    obtain rfl:=hu.yj;obtain rfl:=hv.yj;have hL':a.size+b.size<1073741824:=by simpa [bZ]using hL
    refine⟨_,?_,.str _ _⟩;have h9:IntKind.i64.max=9223372036854775807:=rfl;simp only[eqGuard,binOp,Op.stringOp,h9];simp;omega
  ·refine⟨_,h,rfl,λw B ah xo yo q q' u v hu hv=>?_⟩
   obtain rfl:=hu.yj;obtain rfl:=hv.yj;exact⟨_,by simp[eqGuard,binOp,Op.stringOp],.bool _ _⟩
  ·refine⟨_,h,rfl,λw B ah xo yo q q' u v hu hv=>?_⟩
   obtain rfl:=hu.yj;obtain rfl:=hv.yj;exact⟨_,by simp[eqGuard,binOp,Op.stringOp],.bool _ _⟩
  ·cases h
 ·cases h
def EM{X:Type}(op:UnOp)(x:V)(k:V->aj X):aj X:=
 match op,x with
 |.not,.bool b=>k (.bool (!b))
 |.neg,.int kx n=>k (.int kx (kx.wrap (0-n)))
 |_,_=>none
theorem ahh{op:UnOp}{x:V}{k:V->aj X}(h:EM op x k=some r):∃ z,k z=some r/\z.plain=true/\∀ (w:World) (B:Nat) (ah:bE) (q:af Nat) (u:Value),RV w B ah q x u->∃ t,(Op.unary op u).run P w = .ok t w/\RV w B ah [] z t:=by
 unfold EM at h;split at h
 ·refine⟨_,h,rfl,λw B ah q u hu=>?_⟩
  obtain rfl:=hu.Ay;exact⟨_,by simp[Op.unary],.bool _ _⟩
 ·refine⟨_,h,rfl,λw B ah q u hu=>?_⟩
  obtain rfl:=hu.jk;exact⟨_,by simp[Op.unary,Op.intArith],.int _ _ _⟩
 ·cases h
theorem V.HT{x:V}(h:x.plain=true):x.aA=true:=by cases x<;>first|rfl|cases h
end
end Go.Proofs.YtcioagfjiccleaaGreat
namespace Go.Proofs.YtcioagfjiccleaaGreat
open Go.RowKit
set_option linter.unusedVariables false
def ld(P:Program)(t:TypeId):aj Nat:=(P.info? t).map (·.size)
def EN(P:Program)(t:TypeId):aj Bool:=
 match P.underlying t with
 |some (.struct _)|some (.array _ _)=>some true
 |some _=>some false
 |none=>none
def rT(P:Program)(t:TypeId):aj TypeId:=
 match P.underlying t with
 |some (.slice e)=>some e
 |_=>none
def HU(P:Program)(s:TypeId)(f:Nat):aj Field:=
 match P.underlying s with
 |some (.struct fs)=>fs[f]?
 |_=>none
def m6{X:Type}(P:Program)(t:TypeId)(cs:af Lf)(k:A->aj X):aj X:=
 match ld P t with
 | some n=>if cs.length=n then (match EN P t with
  |some true=>k (.agg cs)
  | some false=>(match cs with
   |[y]=>k (.lf y)
   |_=>none)
  |none=>none)else none
 |none=>none
def leaves(key:Nat->af Nat):Nat->af V->af Lf
 |_,[]=>[]
 |j,z::zs=>(bif z.aA then .v z else .own (key j))::leaves key (j+1) zs
def lu{X:Type}(P:Program)(σ:S)(t:TypeId)(x:A)(k:A->aj X):aj X:=
 match ld P t with
 |none=>none
 | some n=>match x with
  | .aG r j=>(match σ.m r with
   |some (.ax cs)=>m6 P t ((cs.drop j).take n) k
   |_=>none)
  |.jB cs=>m6 P t ((cs.take n).map .v) k
  | .ptr (j :: i :: s :: q)=>gV σ.m q λy=>(match y with
   |.sl t' (o+2) _ l=>if s=aB t' then (if h:i<l.length then m6 P t (leaves (λj'=>j'::i::s::q) j (((enc t' o l[i]).drop j).take n)) k else none)else none
   |_=>none)
  |_=>none
section
variable {P:Program} {w:World} {w0:Wd} {B N:Nat} {ah:bE} {ρ:Nat->Loc} {σ:S} {a:Act} {X:Type} {r:X} {o:Oper}
theorem YJ(key:Nat->af Nat):∀ (j:Nat) (zs:af V) (n:Nat),(leaves key j zs)[n]?=(zs[n]?).map λz=>bif z.aA then .v z else .own (key (j+n))
 |_,[],n=>by simp[leaves]
 |j,z::zs,0=>by simp[leaves]
 | j,z :: zs,n+1=>by
  simp only[leaves,List.getElem?_cons_succ,YJ key (j+1) zs n];rw[show j+1+n=j+(n+1) by omega]
theorem Sf{t:TypeId}{cs:af Lf}{k:A->aj X}(h:m6 P t cs k=some r):∃ x,k x=some r/\∀ (w:World) (B:Nat) (ah:bE) (ρ:Nat->Loc) (b o:Nat) (vs:af Value),eB w B ah ρ cs vs.toArray->w.rangeAt b o vs->
  ∃v,(Instr.loadAt t (.pointer (some ⟨b,o,none⟩))).run P w = .ok v w/\RA w B ah ρ x v:=by
 unfold m6 at h;split at h
 ·rename_i n hn;split at h
  ·rename_i hlen;split at h
   ·rename_i jZ
    refine⟨_,h,λw B ah ρ b o vs hl hr=>?_⟩
    have uo:vs.length=n:=by have:=hl.1;simpa [hlen]using this
    unfold EN at jZ;split at jZ
    next fs hu=>exact⟨_,run_loadAt_mid w b o t vs _ hr hu rfl (by rw[uo];exact hn),_,rfl,hl⟩
    next c e hu=>exact⟨_,run_loadAt_mid w b o t vs _ hr hu rfl (by rw[uo];exact hn),_,rfl,hl⟩
    ·cases jZ
    ·cases jZ
   ·rename_i jZ;split at h
    ·rename_i y
     refine⟨_,h,λw B ah ρ b o vs hl hr=>?_⟩
     have uo:vs.length=1:=by have:=hl.1;simpa using this
     obtain⟨v,rfl⟩:=List.length_eq_one_iff.1 uo;have hv:w.cell? ⟨b,o,none⟩=some v:=hr 0 v rfl;obtain⟨u,hu,hR⟩:=hl.2 0 y rfl;have:v=u:=by simpa using hu
     subst this;refine⟨v,?_,hR⟩;unfold EN at jZ;split at jZ
     ·cases jZ
     ·cases jZ
     ·rename_i d hs ha hu;have yl:(isAgg t).run P w = .ok false w:=by
       unfold isAgg;rw[fz,jr hu w];cases d<;>first|rfl|(rename_i x;exact absurd rfl (hs x))|(rename_i x y;exact absurd rfl (ha x y))|simp_all
      simp[Instr.loadAt,Instr.sureAddr,loadVar,fz,yl,load,Sem.run,hv]
     ·cases jZ
    ·cases h
   ·cases h
  ·cases h
 ·cases h
theorem Mj{α:Type}(l:af α)(j n i:Nat)(x:α)(h:((l.drop j).take n)[i]?=some x):i<n/\l[j+i]?=some x:=by
 rw[List.getElem?_take]at h;split at h
 next hi=>rw[List.getElem?_drop]at h;exact⟨hi,h⟩
 ·cases h
theorem YK{t:TypeId}{x:A}{k:A->aj X}(h:lu P σ t x k=some r):∃ y,k y=some r/\∀ ah ρ a w,Rl w0 N ah ρ σ a w->∀ u,RA w w0.heap.size ah ρ x u->
  ∃v,(Instr.loadAt t u).run P w = .ok v w/\RA w w0.heap.size ah ρ y v:=by
 unfold lu at h;split at h
 ·cases h
 ·rename_i n hn;split at h
  ·rename_i r' j;split at h
   ·rename_i cs dL;obtain⟨y,hy,hf⟩:=Sf h
    refine⟨y,hy,λah ρ a w hR u hu=>?_⟩
    obtain⟨b,off,aM,rfl⟩:=hu;have hr:=hR.root r' _ dL;generalize he:aW.ax cs=x at hr;cases hr with
    |sl=>cases he
    |mp=>cases he
    |gh=>cases he
    | ax b' pQ cells e fO us gE hl hh hs hc=>
     injection he with he;subst he;rw[aM]at gE;injection gE with e1 e2;subst e1 e2
     refine hf w _ ah ρ b (off+j) (((cs.drop j).take n).mapIdx λi _=>us (j+i)) ⟨by simp,λi x hx=>?_⟩ (λi v hv=>?_)
     ·obtain⟨hi,cV⟩:=Mj _ _ _ _ _ hx;refine⟨us (j+i),?_,(hc _ x cV).2⟩;simp only[List.getElem?_toArray,List.getElem?_mapIdx,hx,jU]
     ·rw[List.getElem?_mapIdx]at hv;cases hx:((cs.drop j).take n)[i]? with
      |none=>rw[hx]at hv;cases hv
      | some x=>
       rw[hx]at hv;injection hv with hv;subst hv;obtain⟨hi,cV⟩:=Mj _ _ _ _ _ hx;rw[cell_of_row w b _ cells _ _ hh,Nat.add_assoc];exact(hc _ x cV).1
   ·cases h
  ·rename_i cs;obtain⟨y,hy,hf⟩:=Sf h
   refine⟨y,hy,λah ρ a w hR u hu=>?_⟩
   obtain⟨b,off,rfl,hb,hl,hc⟩:=hu;have kZ:∀ (i:Nat) (x:Lf),((cs.take n).map Lf.v)[i]?=some x->∃ z v,x = .v z/\z.aA=true/\w.cell? ⟨b,off+i,none⟩=some v/\RV w w0.heap.size ah [] z v:=by
    intro i x hx;rw[dH]at hx;cases hz:(cs.take n)[i]? with
    |none=>rw[hz]at hx;cases hx
    | some z=>
     rw[hz]at hx;injection hx with hx;rw[List.getElem?_take]at hz;split at hz
     ·obtain⟨rU,v,hv,hr⟩:=hc i z hz;exact⟨z,v,hx.symm,rU,hv,hr⟩
     ·cases hz
   refine hf w _ ah ρ b off (((cs.take n).map Lf.v).mapIdx λi _=>(w.cell? ⟨b,off+i,none⟩).getD undef) ⟨by simp,λi x hx=>?_⟩ (λi v hv=>?_)
   ·obtain⟨z,v,rfl,rU,hv,hr⟩:=kZ i x hx;refine⟨v,?_,rU,hr⟩;simp only[List.getElem?_toArray,List.getElem?_mapIdx,hx,jU,hv,Option.getD_some]
   ·rw[List.getElem?_mapIdx]at hv;cases hx:((cs.take n).map Lf.v)[i]? with
    |none=>rw[hx]at hv;cases hv
    | some x=>
     rw[hx]at hv;obtain⟨z,v',rfl,rU,dY,hr⟩:=kZ i x hx;rw[dY]at hv;injection hv with hv;rw[dY];exact cA some hv
  ·rename_i j i s q;obtain⟨y0,hg,h2⟩:=uk _ _ h;clear h;split at h2
   ·rename_i t' o' qn l;split at h2
    ·rename_i hs;subst hs;split at h2
     ·rename_i hi;obtain⟨y,hy,hf⟩:=Sf h2
      refine⟨y,hy,λah ρ a w hR u hu=>?_⟩
      obtain⟨ad,rfl,jX⟩:=hu;obtain⟨hv,fG,l7⟩:=hg.ok hR.root;cases l7 with
      |dc=>simp at hi
      |dg=>simp at hi
      |dz=>simp at hi
      |aA _ _ _ _ _ _ _ _ _ ho=>omega
      | own _ _ _ _ _ b cap cs us dB hh hs hn uj hc hr=>
       rw[Cj j i (aB t') fG dB]at jX;injection jX with jX;subst jX;have kZ:∀ (m:Nat) (x:Lf),(leaves (λj'=>j' :: i :: aB t' :: q) j (((enc t' o' l[i]).drop j).take n))[m]?=some x->cs[i*aB t'+(j+m)]?=some (us i (j+m))/\dN w w0.heap.size ah ρ x (us i (j+m)):=by
        intro m x hx;rw[YJ]at hx;cases hz:(((enc t' o' l[i]).drop j).take n)[m]? with
        |none=>rw[hz]at hx;cases hx
        | some z=>
         rw[hz]at hx;injection hx with hx;have hx:(bif z.aA then Lf.v z else Lf.own ((j+m)::i::aB t'::q))=x:=hx;obtain⟨_,EO⟩:=Mj _ _ _ _ _ hz;have h3:=hc i hi _ z EO;have h4:=hr i hi _ z EO;refine⟨h3,?_⟩;cases EP:z.aA with
         | true=>
          rw[EP]at hx;have hx:Lf.v z=x:=hx;subst hx;exact⟨EP,h4.key EP⟩
         | false=>
          rw[EP]at hx;have hx:Lf.own ((j+m)::i::aB t'::q)=x:=hx;subst hx;refine⟨?_,?_⟩
          ·exact h4.R5 EP
          ·rw[Mf,Cj (j+m) i (aB t') fG dB];show w.cell? _=_;rw[cell_of_row w b _ cs _ _ hh];exact h3
       refine hf w _ ah ρ b (i*aB t'+j) ((leaves (λj'=>j'::i::aB t'::q) j (((enc t' o' l[i]).drop j).take n)).mapIdx λm _=>us i (j+m)) ⟨by simp,λm x hx=>?_⟩ (λm v hv=>?_)
       ·refine⟨us i (j+m),?_,(kZ m x hx).2⟩;simp only[List.getElem?_toArray,List.getElem?_mapIdx,hx,jU]
       ·rw[List.getElem?_mapIdx]at hv;cases hx:(leaves (λj'=>j' :: i :: aB t' :: q) j (((enc t' o' l[i]).drop j).take n))[m]? with
        |none=>rw[hx]at hv;cases hv
        | some x=>
         rw[hx]at hv;injection hv with hv;subst hv;rw[cell_of_row w b _ cs _ _ hh,Nat.add_assoc];exact(kZ m x hx).1
     ·cases h2
    ·cases h2
   ·cases h2
  ·cases h
end
end Go.Proofs.YtcioagfjiccleaaGreat
namespace Go.Proofs.YtcioagfjiccleaaGreat
open Go.RowKit
set_option linter.unusedVariables false
def A.Az:A->aj (af Lf)
 |.lf x=>some [x]
 |.agg xs=>some xs
 |_=>none
def Lf.live:Lf->Bool
 |.dead=>false
 |_=>true
def Lf.pl:Lf->aj V
 |.v x=>bif x.plain then some x else none
 |_=>none
def sS:af Lf->aj (af V)
 |[]=>some []
 | x :: xs=>match x.pl,sS xs with
  |some y,some ys=>some (y::ys)
  |_,_=>none
def qE{X:Type}(m:Nat->aj aW):af Nat->V->((Nat->aj aW)->aj X)->aj X
 | [r],y,k=>match m r with
  |some (.sl _)=>k (bP m r (some (.sl y)))
  |_=>none
 | j :: i :: s :: q,y,k=>gV m q λz=>match z with
  | .sl t (o+2) qn l=>if s=aB t then (if h:i<l.length then (if j<aB t then (match dec t o (splice (enc t o l[i]) j [y])with
   |some e=>qE m q (.sl t (o+2) qn (l.set i e)) k
   |none=>none)else none)else none)else none
  |_=>none
 |_,_,_=>none
def o7{X:Type}(P:Program)(σ:S)(t:TypeId)(x y:A)(k:S->aj X):aj X:=
 match ld P t,y.Az with
 | some n,some xs=>if xs.length=n then (match x with
  | .aG r j=>(match σ.m r with
   |some (.ax cs)=>if j+n<=cs.length then (bif xs.all Lf.live then k ⟨σ.t,bP σ.m r (some (.ax (splice cs j xs)))⟩else none)else none
   |_=>none)
  | .ptr (j :: i :: s :: q)=>(match sS xs with
   |none=>none
   | some vs=>gV σ.m q λy=>(match y with
    | .sl t' (o+2) qn l=>if s=aB t' then (if h:i<l.length then (if j+vs.length<=aB t' then (bif (((enc t' o l[i]).drop j).take vs.length).all V.plain then (match dec t' o (splice (enc t' o l[i]) j vs)with
     |some e=>qE σ.m q (.sl t' (o+2) qn (l.set i e)) λm=>k ⟨σ.t,m⟩
     |none=>none)else none)else none)else none)else none
    |_=>none))
  |_=>none)else none
 |_,_=>none
section
variable {P:Program} {w:World} {w0:Wd} {B N:Nat} {ah:bE} {ρ:Nat->Loc} {σ:S} {a:Act} {X:Type} {r:X} {o:Oper}
theorem YL{m:Nat->aj aW}:∀ (q:af Nat) (y:V) (k:(Nat->aj aW)->aj X),qE m q y k=some r->∃ m',Ax m q y m'/\k m'=some r
 |[],_,_,h=>by simp[qE]at h
 | [x],y,k,h=>by
  simp only[qE]at h;split at h
  next y0 hy=>exact⟨_,.root x y0 y hy,h⟩
  ·cases h
 |[_,_],_,_,h=>by simp[qE]at h
 | j :: i :: s :: q,y,k,h=>by
  simp only[qE]at h;obtain⟨z,hz,h2⟩:=uk q _ h;clear h;split at h2
  ·split at h2
   ·rename_i hs;subst hs;split at h2
    ·rename_i hi;split at h2
     ·rename_i hj;split at h2
      next e he=>obtain⟨m',og,h3⟩:=YL q _ k h2;exact⟨m',.elem j i q _ _ _ _ y e m' hz hi hj he og,h3⟩
      ·cases h2
     ·cases h2
    ·cases h2
   ·cases h2
  ·cases h2
theorem Mk:∀ (xs:af Lf) (vs:af V),sS xs=some vs->xs=vs.map .v/\∀ v∈vs,v.plain=true
 | [],vs,h=>by
  simp[sS]at h;subst h;exact⟨rfl,by simp⟩
 | x :: xs,vs,h=>by
  unfold sS at h;split at h
  ·rename_i y ys hy m7;injection h with h;subst h;obtain⟨h1,h2⟩:=Mk xs ys m7;have:x = .v y/\y.plain=true:=by
    cases x with
    | v z=>
     unfold Lf.pl at hy;cases hz:z.plain with
     | true=>
      simp only[hz,aq]at hy;injection hy with hy;subst hy;exact⟨rfl,hz⟩
     |false=>simp[hz]at hy
    |own q=>cases hy
    |dead=>cases hy
   refine⟨by rw[this.1,h1];rfl,λv hv=>?_⟩
   rcases iL.1 hv with rfl|hv
   ·exact this.2
   ·exact h2 v hv
  ·cases h
theorem ahi{u:Value}(h:u.oneCell'=true):u.cells = #[u]:=by cases u<;>first|rfl|cases h
theorem dN.one{x:Lf}{u:Value}(h:dN w B ah ρ x u)(hd:x.live=true):u.oneCell'=true:=by
 cases x with
 |v z=>exact h.2.one
 | own k=>
  have:=h.1;cases u<;>first|rfl|cases this
 |dead=>cases hd
theorem HV{y:A}{xs:af Lf}(h:y.Az=some xs)(hd:xs.all Lf.live=true){u:Value}(hu:RA w B ah ρ y u):eB w B ah ρ xs u.cells/\u.cells.all (·.oneCell')=true:=by
 have key:∀ us:Array Value,eB w B ah ρ xs us->us.all (·.oneCell')=true:=by
  intro us hs;rw[Array.all_eq_true];intro i hi;have hx:=bT (l:=xs) (i:=i) (by rw[<-hs.1];exact hi);obtain⟨v,hv,hr⟩:=hs.2 i _ hx;have:us[i]=v:=by rw[Array.getElem?_eq_getElem hi]at hv;injection hv
  rw[this];exact hr.one (c9.1 hd _ (dy _))
 cases y with
 | lf x=>
  injection h with h;subst h;have hu:dN w B ah ρ x u:=hu;have h1:=hu.one (by simpa using hd);have:eB w B ah ρ [x] u.cells:=by
   rw[ahi h1]
   refine⟨rfl,λj y hy=>?_⟩
   cases j with
   |zero=>simp at hy;subst hy;exact⟨u,rfl,hu⟩
   |succ j=>simp at hy
  exact⟨this,key _ this⟩
 | agg xs'=>
  injection h with h;subst h;obtain⟨us,rfl,h⟩:=hu;exact⟨h,key _ h⟩
 |_=>cases h
theorem Sg(w:World)(b o:Nat)(ty:TypeId)(v:Value)(ht:w.there b o v.cells.size)(hi:(P.info? ty).map (·.size)=some v.cells.size)(h1:v.cells.all (·.oneCell')=true):
  (Instr.storeAt ty (.pointer (some ⟨b,o,none⟩)) v).run P w = .ok () (w.setCells b o v.cells.toList):=by
 have:=run_storeCells_cells (P:=P) b o v.cells.toList 0 w (λj hj=>by simpa using (ht j (by simpa using hj)).1) (λj hj=>by simpa using (ht j (by simpa using hj)).2)
  (λv hv=>(Array.all_eq_true_iff_forall_mem.1 h1) v (by simpa using hv))
 cases hq:P.info? ty with
 |none=>simp[hq]at hi
 | some i=>
  have hs:v.cells.size=i.size:=by simp[hq]at hi;omega
  simp only[Nat.add_zero]at this;simp[Instr.storeAt,Instr.sureAddr,storeVar,sizeOf,typeInfo,hq,hs,this]
theorem YM{t:TypeId}{x y:A}{k:S->aj X}(h:o7 P σ t x y k=some r):∃ az,k az=some r/\∀ ah ρ a w,Rl w0 N ah ρ σ a w->∀ u v,RA w w0.heap.size ah ρ x u->RA w w0.heap.size ah ρ y v->
  ∃w',(Instr.storeAt t u v).run P w = .ok () w'/\Rl w0 N ah ρ az a w':=by
 unfold o7 at h;split at h
 ·rename_i n xs hn iQ;split at h
  ·rename_i hlen;split at h
   ·rename_i r' j;split at h
    ·rename_i cs dL;split at h
     ·rename_i hj;cases jC:xs.all Lf.live with
      |false=>rw[jC]at h;cases h
      | true=>
       rw[jC]at h
       refine⟨_,h,λah ρ a w hR u v hu hv=>?_⟩
       obtain⟨b,off,aM,rfl⟩:=hu;obtain⟨hl,kR⟩:=HV iQ jC hv;obtain⟨b',pQ,gE,HW,aO⟩:=hR.HP dL hl (by rw[hlen];exact hj);rw[aM]at gE;injection gE with e1 e2;subst e1 e2;exact⟨_,Sg w b (off+j) t v HW (by rw[hl.1,hlen];exact hn) kR,aO⟩
     ·cases h
    ·cases h
   ·rename_i j i s q;split at h
    ·cases h
    ·rename_i vs ia;obtain⟨y0,hg,h2⟩:=uk _ _ h;clear h;split at h2
     ·rename_i t' o' qn l;split at h2
      ·rename_i hs;subst hs;split at h2
       ·rename_i hi;split at h2
        ·rename_i hj;cases hold:(((enc t' o' l[i]).drop j).take vs.length).all V.plain with
         |false=>rw[hold]at h2;cases h2
         | true=>
          rw[hold,aq]at h2;split at h2
          ·rename_i e he;obtain⟨m',og,h3⟩:=YL q _ _ h2
           refine⟨_,h3,λah ρ a w hR u v hu hv=>?_⟩
           obtain⟨ad,rfl,jX⟩:=hu;obtain⟨o8,Co⟩:=Mk xs vs ia;have jC:xs.all Lf.live=true:=by rw[o8];simp[Lf.live]
           obtain⟨hl,kR⟩:=HV iQ jC hv;have uo:vs.length=n:=by rw[<-hlen,o8,eV]
           have q1:∀ (n':Nat) x,n'<vs.length->(enc t' o' l[i])[j+n']?=some x->x.plain=true:=by
            intro n' x sR hx;refine c9.1 hold x (iy (i:=n') ?_);rw[List.getElem?_take,bu sR,List.getElem?_drop];exact hx
           have q2:∀ (n':Nat) x,vs[n']?=some x->∃ u',v.cells[n']?=some u'/\RV w w0.heap.size ah [] x u':=by
            intro n' x hx;obtain⟨u',l8,dA⟩:=hl.2 n' (.v x) (by rw[o8,dH,hx];rfl);exact⟨u',l8,dA.2⟩
           obtain⟨b,hb,HW,aO⟩:=hR.ahd (xs:=vs) (us:=v.cells) hg hi hj he q1 Co (by rw[hl.1,o8,eV]) q2 og;rw[jX]at hb;injection hb with hb;subst hb;exact⟨_,Sg w b _ t v HW (by rw[hl.1,hlen];exact hn) kR,aO⟩
          ·cases h2
        ·cases h2
       ·cases h2
      ·cases h2
     ·cases h2
   ·cases h
  ·cases h
 ·cases h
end
end Go.Proofs.YtcioagfjiccleaaGreat
namespace Go.Proofs.YtcioagfjiccleaaGreat
open Go.RowKit
set_option linter.unusedVariables false
def wI{X:Type}(P:Program)(s:TypeId)(x:A)(f:Nat)(k:A->aj X):aj X:=
 match HU P s f with
 |none=>none
 | some fd=>match ld P fd.type with
  | some (_+1)=>(match x with
   |.aG r j=>k (.aG r (j+fd.offset))
   |.jB cs=>k (.jB (cs.drop fd.offset))
   |.ptr (j::i::s::q)=>k (.ptr ((j+fd.offset)::i::s::q))
   |_=>none)
  |_=>none
def qF{X:Type}(P:Program)(σ:S)(t:TypeId)(x i:A)(k:A->aj X):aj X:=
 match rT P t with
 |none=>none
 | some e=>match ld P e,i with
  | some n,.lf (.v (.int _ iv))=>(match x with
   |.lf (.v (.sl t' g _ l))=>if n=aB t' then (bif Nat.blt g 2 then (if h:0<=iv/\iv.toNat<l.length then k (.jB (enc t' g (l[iv.toNat]'h.2)))else none)else none)else none
   | .lf (.own q)=>gV σ.m q λy=>(match y with
    |.sl t' g _ l=>if n=aB t' then (if h:0<=iv/\iv.toNat<l.length then (bif Nat.blt g 2 then k (.jB (enc t' g (l[iv.toNat]'h.2)))else k (.ptr (0::iv.toNat::aB t'::q)))else none)else none
    |_=>none)
   |_=>none)
  |_,_=>none
def pW{X:Type}(P:Program)(σ:S)(t:TypeId)(x:A)(k:A->aj X):aj X:=
 match x with
 | .lf y=>jY σ y λz=>(match z with
  |.sl _ _ _ l=>(match P.underlying t with|some (.slice _)=>k (.lf (.v (.int .i64 (l.length:Int))))|_=>none)
  |.nil=>(match P.underlying t with|some (.slice _)=>k (.lf (.v (.int .i64 0)))|_=>none)
  |.str s=>(match P.underlying t with|some .string=>k (.lf (.v (.int .i64 (s.size:Int))))|_=>none)
  |_=>none)
 |.view _ _ i j=>(match P.underlying t with|some (.slice _)=>k (.lf (.v (.int .i64 ((j-i:Nat):Int))))|_=>none)
 |_=>none
def sU:Bool×af Lf->aj A
 |(true,cs)=>some (.agg cs)
 |(false,[y])=>some (.lf y)
 |_=>none
def ym{X:Type}(x:A)(i:Nat)(k:A->aj X):aj X:=
 match x with
 | .cP xs=>match (xs[i]?).bind sU with
  |some y=>k y
  |none=>none
 |_=>none
section
variable {P:Program} {w:World} {w0:Wd} {B N:Nat} {ah:bE} {ρ:Nat->Loc} {σ:S} {a:Act} {X:Type} {r:X} {o:Oper}
theorem ahj(n:Nat){j i s:Nat}{q:af Nat}{ad:Addr}(h:addrAt w ah ρ (j :: i :: s :: q)=some ad):addrAt w ah ρ ((j+n) :: i :: s :: q)=some ⟨ad.block,ad.off+n,none⟩:=by
 match q,h with
 |[],h=>simp[addrAt]at h
 | [r],h=>
  simp only[addrAt]at h ⊢;split at h
  ·split at h
   next hl=>injection h with h;subst h;rw[bu hl,Nat.add_assoc]
   ·cases h
  ·cases h
 | x :: y :: q,h=>
  simp only[addrAt]at h ⊢;split at h
  ·split at h
   next hl=>injection h with h;subst h;rw[bu hl,Nat.add_assoc]
   ·cases h
  ·cases h
theorem Sh(w:World)(s:TypeId)(f:Nat)(fd:Field)(n b off:Nat)(hf:HU P s f=some fd)(hs:ld P fd.type=some (n+1)):
  (Instr.fieldAt s (.pointer (some ⟨b,off,none⟩)) f).run P w = .ok (.pointer (some ⟨b,off+fd.offset,none⟩)) w:=by
 unfold HU at hf;split at hf
 ·rename_i fs hu;unfold ld at hs;cases hq:P.info? fd.type with
  |none=>simp[hq]at hs
  | some i=>
   have hi:i.size=n+1:=by simpa [hq]using hs
   simp[Instr.fieldAt,jr hu,hf,Instr.sureAddr,fieldPlace,sizeOf,typeInfo,hq,hi,Addr.add_mid]
 ·cases hf
theorem ahk{s:TypeId}{x:A}{f:Nat}{k:A->aj X}(h:wI P s x f k=some r):∃ y,k y=some r/\∀ (w:World) (B:Nat) (ah:bE) (ρ:Nat->Loc) (u:Value),RA w B ah ρ x u->
  ∃v,(Instr.fieldAt s u f).run P w = .ok v w/\RA w B ah ρ y v:=by
 unfold wI at h;split at h
 ·cases h
 ·rename_i fd qG;split at h
  ·rename_i n hn;split at h
   ·rename_i r' j
    refine⟨_,h,λw B ah ρ u hu=>?_⟩
    obtain⟨b,off,aM,rfl⟩:=hu;exact⟨_,Sh w s f fd n b _ qG hn,b,off,aM,by rw[Nat.add_assoc]⟩
   ·rename_i cs
    refine⟨_,h,λw B ah ρ u hu=>?_⟩
    obtain⟨b,off,rfl,hb,hl,hc⟩:=hu
    refine⟨_,Sh w s f fd n b _ qG hn,b,_,rfl,hb,hl,λj x hx=>?_⟩
    rw[List.getElem?_drop]at hx;have:=hc _ x hx;rw[<-Nat.add_assoc]at this;exact this
   ·rename_i j i s' q
    refine⟨_,h,λw B ah ρ u hu=>?_⟩
    obtain⟨ad,rfl,jX⟩:=hu;have h2:=ahj fd.offset jX;obtain⟨_,_,_,_,_,_,_,sQ,_⟩:=ye _ _ jX;obtain⟨b,off,sp⟩:=ad;simp only at sQ;subst sQ;exact⟨_,Sh w s f fd n b off qG hn,_,rfl,h2⟩
   ·cases h
  ·cases h
theorem Si(w:World)(t e:TypeId)(n b off len cap:Nat)(kk:IntKind)(iv:Int)(hu:rT P t=some e)(hs:ld P e=some n)(h0:0<=iv)(h1:iv.toNat<len):
  (Instr.indexAt t (.slice (some ⟨b,off,none⟩) len cap) (.int kk iv)).run P w = .ok (.pointer (some ⟨b,off+iv.toNat*n,none⟩)) w:=by
 unfold rT at hu;split at hu
 ·rename_i e' l8;injection hu with hu;subst hu;unfold ld at hs;cases hq:P.info? e' with
  |none=>simp[hq]at hs
  | some i=>
   have hi:i.size=n:=by simpa [hq]using hs
   have h2:iv<(len:Int):=by omega
   simp[Instr.indexAt,jr l8,asIntOf,h0,h2,sizeOf,typeInfo,hq,hi,Addr.add_mid]
 ·cases hu
theorem ahl{t:TypeId}{x i:A}{k:A->aj X}(h:qF P σ t x i k=some r):∃ y,k y=some r/\∀ ah ρ a w,Rl w0 N ah ρ σ a w->∀ u v,RA w w0.heap.size ah ρ x u->RA w w0.heap.size ah ρ i v->
  ∃p,(Instr.indexAt t u v).run P w = .ok p w/\RA w w0.heap.size ah ρ y p:=by
 unfold qF at h;split at h
 ·cases h
 ·rename_i e he;split at h
  ·rename_i n kk iv hn;split at h
   ·rename_i t' g qn l;split at h
    ·rename_i n8;subst n8;cases hg:Nat.blt g 2 with
     |false=>rw[hg]at h;cases h
     | true=>
      rw[hg,aq]at h;split at h
      ·rename_i hb
       refine⟨_,h,λah ρ a w hR u v hu hv=>?_⟩
       obtain rfl:=hv.2.jk;have nG:g<2:=by have:=cH hg;omega
       cases hu.2 with
       |dc=>simp at hb
       |dg=>simp at hb
       |dz=>simp at hb
       |own=>exact absurd nG (by omega)
       | aA _ _ _ _ _ b off cap us ho hl rV h1 ey hc hr=>
        refine⟨_,Si w t e _ b off _ cap kk iv he hn hb.1 hb.2,b,_,rfl,rV,hl,λj x hx=>⟨lQ t' g _ nG j x hx,us iv.toNat j,?_,hr _ hb.2 j x hx⟩⟩
        rw[Nat.add_assoc];exact hc _ hb.2 j x hx
      ·cases h
    ·cases h
   ·rename_i q;obtain⟨y0,hg,h2⟩:=uk _ _ h;clear h;split at h2
    ·rename_i t' o' qn l;split at h2
     ·rename_i n8;subst n8;split at h2
      ·rename_i hb;cases wJ:Nat.blt o' 2 with
       | true=>
        rw[wJ,aq]at h2;have Sj:o'<2:=cH wJ
        refine⟨_,h2,λah ρ a w hR u v hu hv=>?_⟩
        obtain rfl:=hv.2.jk;obtain⟨dY,fG,l7⟩:=hg.ok hR.root;have:dY=u:=by
         have h3:=hu.2;rw[fG]at h3;injection h3
        subst this;cases l7 with
        |dc=>simp at hb
        |dg=>simp at hb
        |dz=>simp at hb
        |own=>exact absurd Sj (by omega)
        | aA _ _ _ _ _ b off cap us ho hl rV h1 ey hc hr=>
         refine⟨_,Si w t e _ b off _ cap kk iv he hn hb.1 hb.2,b,_,rfl,rV,hl,λj x hx=>⟨lQ t' o' _ Sj j x hx,us iv.toNat j,?_,hr _ hb.2 j x hx⟩⟩
         rw[Nat.add_assoc];exact hc _ hb.2 j x hx
       | false=>
        rw[wJ,au]at h2;have Sj:¬ o'<2:=λbC=>by have h9:Nat.blt o' 2=true:=jV bC;rw[h9]at wJ;cases wJ
        refine⟨_,h2,λah ρ a w hR u v hu hv=>?_⟩
        obtain rfl:=hv.2.jk;obtain⟨dY,fG,l7⟩:=hg.ok hR.root;have:dY=u:=by
         have h3:=hu.2;rw[fG]at h3;injection h3
        subst this;cases l7 with
        |dc=>simp at hb
        |dg=>simp at hb
        |dz=>simp at hb
        |aA _ _ _ _ _ _ _ _ _ ho=>omega
        | own _ _ _ _ _ b cap cs us dB hh hs sR uj hc hr=>
         refine⟨_,Si w t e _ b 0 _ cap kk iv he hn hb.1 hb.2,_,rfl,?_⟩;rw[Cj 0 iv.toNat (aB t') fG dB];simp
      ·cases h2
     ·cases h2
    ·cases h2
   ·cases h
  ·cases h
theorem ahm{t ty:TypeId}{x:A}{k:A->aj X}(h:pW P σ t x k=some r):∃ y,k y=some r/\∀ ah ρ a w,Rl w0 N ah ρ σ a w->∀ u,RA w w0.heap.size ah ρ x u->
  ∃v,(Builtin.len_ #[t] ty #[u]).run P w = .ok v w/\RA w w0.heap.size ah ρ y v:=by
 unfold pW at h;split at h
 ·rename_i y;have key:∃ z,(∀ ah ρ a w,Rl w0 N ah ρ σ a w->∀ u,dN w w0.heap.size ah ρ y u->∃ q,RV w w0.heap.size ah q z u)/\(match z with
    |.sl _ _ _ l=>(match P.underlying t with|some (.slice _)=>k (.lf (.v (.int .i64 (l.length:Int))))|_=>none)
    |.nil=>(match P.underlying t with|some (.slice _)=>k (.lf (.v (.int .i64 0)))|_=>none)
    |.str s=>(match P.underlying t with|some .string=>k (.lf (.v (.int .i64 (s.size:Int))))|_=>none)
    |_=>none)=some r:=by
   cases y with
   |v z=>exact⟨z,λah ρ a w _ u hu=>⟨[],hu.2⟩,h⟩
   |dead=>cases h
   | own q=>
    obtain⟨z,hz,h⟩:=uk q _ h
    refine⟨z,λah ρ a w hR u hu=>?_,h⟩
    obtain⟨v,hv,hr⟩:=hz.ok hR.root;have h3:=hu.2;rw[hv]at h3;injection h3 with h3;subst h3;exact⟨q,hr⟩
  obtain⟨z,hz,h2⟩:=key;clear h;split at h2
  ·rename_i t' g qn l;split at h2
   ·rename_i e he
    refine⟨_,h2,λah ρ a w hR u hu=>?_⟩
    obtain⟨q,hr⟩:=hz ah ρ a w hR u hu;cases hr with
    |dc=>exact⟨_,by simp[Builtin.len_,jr he,goInt],rfl,.int _ _ _⟩
    |dg=>exact⟨_,by simp[Builtin.len_,jr he,goInt],rfl,.int _ _ _⟩
    |dz=>exact⟨_,by simp[Builtin.len_,jr he,goInt],rfl,.int _ _ _⟩
    |aA=>exact⟨_,by simp[Builtin.len_,jr he,goInt],rfl,.int _ _ _⟩
    |own=>exact⟨_,by simp[Builtin.len_,jr he,goInt],rfl,.int _ _ _⟩
   ·cases h2
  ·split at h2
   ·rename_i e he
    refine⟨_,h2,λah ρ a w hR u hu=>?_⟩
    obtain⟨q,hr⟩:=hz ah ρ a w hR u hu;cases hr;exact⟨_,by simp[Builtin.len_,jr he,goInt],rfl,.int _ _ _⟩
   ·cases h2
  ·split at h2
   ·rename_i he
    refine⟨_,h2,λah ρ a w hR u hu=>?_⟩
    obtain⟨q,hr⟩:=hz ah ρ a w hR u hu;obtain rfl:=hr.yj;exact⟨_,by simp[Builtin.len_,jr he,goInt],rfl,.int _ _ _⟩
   ·cases h2
  ·cases h2
 ·split at h
  ·rename_i e he
   refine⟨_,h,λah ρ a w hR u hu=>?_⟩
   obtain⟨A,n,c,hv,h1,h2,rfl⟩:=hu;exact⟨_,by cases A<;>simp[sliced,Builtin.len_,jr he,goInt],rfl,.int _ _ _⟩
  ·cases h
 ·cases h
theorem Sk{p:Bool×af Lf}{y:A}(h:sU p=some y){u:Value}(hu:RP w B ah ρ p u):RA w B ah ρ y u:=by
 unfold sU at h;split at h
 ·injection h with h;subst h;exact hu
 ·rename_i z;injection h with h;subst h;obtain⟨u',l8,hr⟩:=hu.2 0 z rfl;have:u=u':=by simpa using l8
  subst this;exact hr
 ·cases h
theorem ahn{x:A}{i:Nat}{k:A->aj X}(h:ym x i k=some r):∃ y,k y=some r/\∀ (w:World) (B:Nat) (ah:bE) (ρ:Nat->Loc) (u:Value),RA w B ah ρ x u->
  ∃v,(Instr.extract u i).run P w = .ok v w/\RA w B ah ρ y v:=by
 unfold ym at h;split at h
 ·rename_i xs;split at h
  ·rename_i y hy
   refine⟨y,h,λw B ah ρ u hu=>?_⟩
   obtain⟨us,rfl,hs,hp⟩:=hu;cases hx:xs[i]? with
   |none=>rw[hx]at hy;cases hy
   | some p=>
    rw[hx]at hy;obtain⟨v,hv,hr⟩:=hp i p hx;exact⟨v,by simp[Instr.extract,hv],Sk hy hr⟩
  ·cases h
 ·cases h
end
end Go.Proofs.YtcioagfjiccleaaGreat
namespace Go.Proofs.YtcioagfjiccleaaGreat
open Go.RowKit
set_option linter.unusedVariables false
section
variable {P:Program} {w w':World} {w0:Wd} {B N:Nat} {ah aC:bE} {ρ ρ':Nat->Loc} {σ:S} {a:Act} {X:Type} {d:Nat}
theorem aho{k:af Nat}(h:[d] <:+ k):bH d k=true:=by
 obtain⟨y,rfl⟩:=h;simp[bH]
theorem Sl{k:af Nat}(h:bH d k=true):[d] <:+ k:=by
 have h:k.getLast?=some d:=by simpa [bH]using h
 obtain⟨y,hy⟩:=List.getLast?_eq_some_iff.1 h;exact⟨y,hy.symm⟩
theorem Ml{j i s:Nat}{q:af Nat}(hq:q≠[]):bH d (j :: i :: s :: q)=bH d q:=by
 cases q with
 |nil=>exact absurd rfl hq
 |cons x q=>simp[bH]
structure wK (w w':World) (ah aC:bE) (d:Nat):Prop where
 size:w.heap.size<=w'.heap.size
 block:∀b,b<w.heap.size->ah b≠some [d]->w'.heap[b]?=w.heap[b]?
 yp:∀b,b<w.heap.size->aC b=ah b
 ne:∀b,ah b≠some []
theorem RV.nH{q:af Nat}{x:V}{v:Value}(h:RV w B ah q x v)(hw:wK w w' ah aC d)(hq:¬ [d] <:+ q\/x.aA=true):RV w' B aC q x v:=by
 induction h with
 |int=>exact .int _ _ _
 |bool=>exact .bool _ _
 |str=>exact .str _ _
 |nil=>exact .nil _
 |dc=>exact .dc _ _ _
 |dg=>exact .dg _ _ _ _ _ (by first|assumption|omega)
 |dz=>exact .dz _ _ _ _ _ (by first|assumption|omega)
 | aA q t o qn l b off cap u ho hl hb h1 ey hc hr ih=>
  have bg:ah b≠some [d]:=by rw[hl];simp
  exact .aA _ _ _ _ _ _ _ _ u ho ((hw.yp b hb).trans hl) (mG hb hw.size) h1 ey (λi h j x hx=>(mH (a:=⟨b,_,none⟩) (hw.block b hb bg)).trans (hc i h j x hx)) (λi h j x hx=>ih i h j x hx (.inr (lQ t o l[i] ho j x hx)))
 | own q t o qn l b cap cs u hl hh hs hn hm hc hr ih=>
  have hb:b<w.heap.size:=(gS.1 hh).1;have m0:¬ [d] <:+ q:=by
   rcases hq with hq|hq
   ·exact hq
   ·simp[V.aA]at hq;omega
  have bg:ah b≠some [d]:=by
   rw[hl];intro e;injection e with e;exact m0 (by rw[e];exact List.suffix_refl _)
  refine .own _ _ _ _ _ _ _ cs u ((hw.yp b hb).trans hl) ((hw.block b hb bg).trans hh) hs hn hm hc (λi h j x hx=>ih i h j x hx (.inl λnD=>m0 ?_))
  have Sm:q≠[]:=by rintro rfl;exact hw.ne b hl
  exact Sl ((Ml Sm).symm.trans (aho nD))
theorem ahp{j i s:Nat}{q:af Nat}(hq:q≠[])(h:bH d (j :: i :: s :: q)=false):bH d q=false:=by
 cases q with
 |nil=>exact absurd rfl hq
 |cons x q=>simpa [bH]using h
theorem Sn(hw:wK w w' ah aC d)(hg:∀ b k,ah b=some k->b<w.heap.size)(aM:∀ r,r≠d->ρ' r=ρ r):∀ (k:af Nat) (ad:Addr),bH d k=false->addrAt w ah ρ k=some ad->addrAt w' aC ρ' k=some ad
 |[],_,_,h=>h
 |[_],_,_,h=>h
 |[_,_],_,_,h=>h
 |[_,_,_],_,_,h=>by simp only[addrAt]at h ⊢;exact h
 | [j,i,s,r],_,hd,h=>by
  have hr:r≠d:=by rintro rfl;simp[bH]at hd
  simp only[addrAt,aM r hr]at h ⊢;split at h
  ·rename_i v b n c hr;split at h
   next hl=>rw[bu ((hw.yp _ (hg _ _ hl)).trans hl)];exact h
   ·cases h
  ·cases h
 | j :: i :: s :: x :: y :: q,ad,hd,h=>by
  have wL:=ahp (by simp) hd;simp only[addrAt]at h ⊢;cases ha:addrAt w ah ρ (x::y::q)with
  |none=>rw[ha]at h;cases h
  | some qC=>
   rw[Sn hw hg aM _ _ wL ha];rw[ha]at h;cases hc:w.cell? qC with
   |none=>simp[hc]at h
   | some v=>
    have bg:ah qC.block≠some [d]:=by
     obtain⟨j',i',s',q',e,hl,_⟩:=ye _ _ ha;rw[hl];intro e';injection e' with e';subst e';rw[e]at wL;simp[bH]at wL
    have e:w'.cell? qC=some v:=(mH (hw.block _ (block_lt_of_cell hc) bg)).trans hc;simp only[Option.bind_some,hc]at h;simp only[Option.bind_some,e];split at h
    ·split at h
     next hl=>rw[bu ((hw.yp _ (hg _ _ hl)).trans hl)];exact h
     ·cases h
    ·cases h
theorem YN(hw:wK w w' ah aC d)(hg:∀ b k,ah b=some k->b<w.heap.size)(aM:∀ r,r≠d->ρ' r=ρ r)(k:af Nat)(u:Value)(hd:bH d k=false)(h:cE w ah ρ k=some u):cE w' aC ρ' k=some u:=by
 match k,hd,h with
 |[],_,h=>simp[cE,addrAt]at h
 | [r],hd,h=>
  have hr:r≠d:=by rintro rfl;simp[bH]at hd
  simp only[cE,aM r hr]at h ⊢;exact h
 | x :: y :: q,hd,h=>
  simp only[cE]at h ⊢;cases ha:addrAt w ah ρ (x::y::q)with
  |none=>rw[ha]at h;cases h
  | some ad=>
   rw[Sn hw hg aM _ _ hd ha];rw[ha]at h;have h:w.cell? ad=some u:=h;have bg:ah ad.block≠some [d]:=by
    obtain⟨j',i',s',q',e,hl,_⟩:=ye _ _ ha;rw[hl];intro e';injection e' with e';subst e';rw[e]at hd;simp[bH]at hd
   exact(mH (hw.block _ (block_lt_of_cell h) bg)).trans h
theorem dN.nH{x:Lf}{u:Value}(h:dN w B ah ρ x u)(hw:wK w w' ah aC d)(hg:∀ b k,ah b=some k->b<w.heap.size)(aM:∀ r,r≠d->ρ' r=ρ r):dN w' B aC ρ' (x.drop d) u:=by
 cases x with
 |v x=>exact⟨h.1,h.2.nH hw (.inr h.1)⟩
 |dead=>trivial
 | own k=>
  have e:Lf.drop d (.own k)=(bif bH d k then .dead else .own k):=rfl;rw[e];cases hl:bH d k with
  |true=>trivial
  |false=>exact⟨h.1,YN hw hg aM k u hl h.2⟩
theorem eB.nH{cs:af Lf}{us:Array Value}(h:eB w B ah ρ cs us)(hw:wK w w' ah aC d)(hg:∀ b k,ah b=some k->b<w.heap.size)(aM:∀ r,r≠d->ρ' r=ρ r):eB w' B aC ρ' (cs.map (Lf.drop d)) us:=by
 refine⟨by rw[eV];exact h.1,λj x hx=>?_⟩
 rw[dH]at hx;cases hy:cs[j]? with
 |none=>rw[hy]at hx;cases hx
 | some y=>
  rw[hy]at hx;injection hx with hx;subst hx;obtain⟨u,hu,r⟩:=h.2 j y hy;exact⟨u,hu,r.nH hw hg aM⟩
theorem RP.nH{p:Bool×af Lf}{u:Value}(h:RP w B ah ρ p u)(hw:wK w w' ah aC d)(hg:∀ b k,ah b=some k->b<w.heap.size)(aM:∀ r,r≠d->ρ' r=ρ r):RP w' B aC ρ' (p.1,p.2.map (Lf.drop d)) u:=by
 obtain⟨b,cs⟩:=p;cases b with
 |true=>obtain⟨us,e,h⟩:=h;exact⟨us,e,h.nH hw hg aM⟩
 |false=>exact eB.nH h hw hg aM
theorem RA.nH{x:A}{u:Value}(h:RA w B ah ρ x u)(hw:wK w w' ah aC d)(hg:∀ b k,ah b=some k->b<w.heap.size)(aM:∀ r,r≠d->ρ' r=ρ r):RA w' B aC ρ' (x.drop d) u:=by
 cases x with
 |undef=>trivial
 |skip=>exact h
 |lf x=>exact dN.nH h hw hg aM
 |agg cs=>exact RP.nH (p:=(true,cs)) h hw hg aM
 | cP xs=>
  obtain⟨us,e,hs,h⟩:=h
  refine⟨us,e,by rw[eV];exact hs,λj p hp=>?_⟩
  rw[dH]at hp;cases hy:xs[j]? with
  |none=>rw[hy]at hp;cases hp
  | some y=>
   rw[hy]at hp;injection hp with hp;subst hp;obtain⟨v,hv,r⟩:=h j y hy;exact⟨v,hv,r.nH hw hg aM⟩
 | ptr k=>
  have e:A.drop d (.ptr k)=(bif bH d k then .undef else .ptr k):=rfl;rw[e];cases hl:bH d k with
  |true=>trivial
  |false=>obtain⟨ad,e,h⟩:=h;exact⟨ad,e,Sn hw hg aM k _ hl h⟩
 | view k s i j=>
  have e:A.drop d (.view k s i j)=(bif bH d k then .undef else .view k s i j):=rfl;rw[e];cases hl:bH d k with
  |true=>trivial
  |false=>obtain⟨A,n,c,h,g⟩:=h;exact⟨A,n,c,YN hw hg aM k _ hl h,g⟩
 | pk r n=>
  have e:A.drop d (.pk r n)=(bif Nat.beq r d then .undef else .pk r n):=rfl;rw[e];cases hl:Nat.beq r d with
  |true=>trivial
  | false=>
   have hr:r≠d:=by rintro rfl;simp at hl
   obtain⟨b,e,h⟩:=h;exact⟨b,(aM r hr).trans e,h⟩
 | aG r j=>
  have e:A.drop d (.aG r j)=(bif Nat.beq r d then .undef else .aG r j):=rfl;rw[e];cases hl:Nat.beq r d with
  |true=>trivial
  | false=>
   have hr:r≠d:=by rintro rfl;simp at hl
   obtain⟨b,off,e,h⟩:=h;exact⟨b,off,(aM r hr).trans e,h⟩
 | jB cs=>
  obtain⟨b,off,e,hb,hl,h⟩:=h;have bg:ah b≠some [d]:=by rw[hl];simp
  refine⟨b,off,e,mG hb hw.size,(hw.yp b hb).trans hl,λj x hx=>?_⟩
  obtain⟨hf,v,hv,hr⟩:=h j x hx;exact⟨hf,v,(mH (a:=⟨b,_,none⟩) (hw.block b hb bg)).trans hv,hr.nH hw (.inr hf)⟩
 | mK f cs=>
  obtain⟨pv,e0,h⟩:=h;refine⟨pv,e0,?_⟩;obtain⟨b,off,e,hb,hl,h⟩:=h;have bg:ah b≠some [d]:=by rw[hl];simp
  refine⟨b,off,e,mG hb hw.size,(hw.yp b hb).trans hl,λj x hx=>?_⟩
  obtain⟨hf,v,hv,hr⟩:=h j x hx;exact⟨hf,v,(mH (a:=⟨b,_,none⟩) (hw.block b hb bg)).trans hv,hr.nH hw (.inr hf)⟩
 | fn f cap=>
  have e:A.drop d (.fn f cap)=(bif cap.any (λp=>Nat.beq p.1 d)then .undef else .fn f cap):=rfl;rw[e];cases hl:cap.any (λp=>Nat.beq p.1 d)with
  |true=>trivial
  | false=>
   obtain⟨vs,e,hs,h⟩:=h
   refine⟨vs,e,hs,λj p hp=>?_⟩
   obtain⟨b,off,e2,h2⟩:=h j p hp;have hr:p.1≠d:=by
    rintro rfl;have:=mW.1 hl p (iy hp);simp at this
   exact⟨b,off,(aM _ hr).trans e2,h2⟩
theorem fj.nH{r:Nat}(hr:r≠d){x:aW}(h:fj w B ah ρ r x)(hw:wK w w' ah aC d)(hg:∀ b k,ah b=some k->b<w.heap.size)(aM:∀ r,r≠d->ρ' r=ρ r):fj w' B aC ρ' r (x.drop d):=by
 have sV:¬ [d] <:+ [r]:=Sb (λe=>hr e.symm);cases h with
 | ax b off cells e cs us jW hl hh hs hc=>
  have hb:b<w.heap.size:=(gS.1 hh).1;have bg:ah b≠some [d]:=by
   rw[hl];intro e;injection e with e;injection e with e;exact hr e
  refine .ax b off cells e _ us ((aM r hr).trans jW) ((hw.yp b hb).trans hl) ((hw.block b hb bg).trans hh) (by rw[eV];exact hs) (λj x hx=>?_)
  rw[dH]at hx;cases hy:cs[j]? with
  |none=>rw[hy]at hx;cases hx
  | some y=>
   rw[hy]at hx;injection hx with hx;subst hx;exact⟨(hc j y hy).1,(hc j y hy).2.nH hw hg aM⟩
 |sl v y jW Cl=>exact .sl v y ((aM r hr).trans jW) (Cl.nH hw (.inl sV))
 | mp b c es l jW hl hh he=>
  have hb:b<w.heap.size:=(gS.1 hh).1;have bg:ah b≠some [d]:=by
   rw[hl];intro e;injection e with e;injection e with e;exact hr e
  exact .mp b c es l ((aM r hr).trans jW) ((hw.yp b hb).trans hl) ((hw.block b hb bg).trans hh) he
 | gh us xs jW hx=>
  refine .gh us _ ((aM r hr).trans jW) (λj x hj=>?_)
  rw[dH]at hj;cases hy:xs[j]? with
  |none=>rw[hy]at hj;cases hj
  | some y=>
   rw[hy]at hj;injection hj with hj;subst hj;exact(hx j y hy).nH hw hg aM
theorem Rl.AA{x:aW}(h:Rl w0 N ah ρ σ a w)(hF:w0.F d=none)(hb:kQ w0 w w')(hw:wK w w' ah aC d)(hg:∀ b k,w.heap.size<=b->aC b=some k->b<w'.heap.size/\k≠[])(aM:∀ r,r≠d->ρ' r=ρ r)(hx:fj w' w0.heap.size aC ρ' d x):
  Rl w0 N aC ρ' ((σ.drop d).root d x) a w':=by
 have vm:∀b k,ah b=some k->b<w.heap.size:=λb k hb=>(h.dn b k hb).2.1
 refine⟨h.below.trans hb,λb k l6=>?_,λr y hy=>?_,λk=>(h.tmp k).nH hw vm aM,h.size,h.defers,λr l' hr=>(aM r (by rintro rfl;rw[hF]at hr;cases hr)).trans (h.fix r l' hr),h.dQ⟩
 ·rcases Nat.lt_or_ge b w.heap.size with bC | oZ
  ·rw[hw.yp b bC]at l6;have:=h.dn b k l6;exact⟨this.1,mG this.2.1 hw.size,this.2.2⟩
  ·have:=hg b k oZ l6;exact⟨.inl (Nat.le_trans h.below.size oZ),this.1,this.2⟩
 ·by_cases hr:r=d
  ·subst hr;have hy:(bP (σ.drop r).m r (some x)) r=some y:=hy;rw[bY]at hy;injection hy with hy;subst hy;exact hx
  ·have hy:(bP (σ.drop d).m d (some x)) r=some y:=hy;rw[cL _ _ _ hr]at hy;have hb:Nat.beq r d=false:=by
    cases hb:Nat.beq r d with
    |false=>rfl
    |true=>exact absurd (cz hb) hr
   simp only[S.drop,hb,au]at hy;cases hm:σ.m r with
   |none=>rw[hm]at hy;cases hy
   | some z=>
    rw[hm]at hy;injection hy with hy;subst hy;exact(h.root r z hm).nH hr hw vm aM
end
end Go.Proofs.YtcioagfjiccleaaGreat
namespace Go.Proofs.YtcioagfjiccleaaGreat
open Go.RowKit
set_option linter.unusedVariables false
def jD(q:Nat)(nk k:af Nat):af Nat:=bif bH q k then k.dropLast++nk else k
def bE.jD(ah:bE)(q:Nat)(nk:af Nat):bE:=λb=>(ah b).map (Proofs.YtcioagfjiccleaaGreat.jD q nk)
section
variable {P:Program} {w w':World} {w0:Wd} {B N:Nat} {ah aC:bE} {ρ ρ':Nat->Loc} {σ:S} {a:Act} {X:Type} {d q:Nat} {nk:af Nat}
theorem YO:jD q nk [q]=nk:=by simp[jD,bH]
theorem ahq{k:af Nat}(h:bH q k=false):jD q nk k=k:=by simp[jD,h]
theorem ahr{j i s:Nat}{k:af Nat}(hk:k≠[]):jD q nk (j :: i :: s :: k)=j :: i :: s :: jD q nk k:=by
 unfold jD;rw[Ml hk];cases bH q k with
 |false=>rfl
 | true=>
  cases k with
  |nil=>exact absurd rfl hk
  |cons x k=>simp
theorem YP{k:af Nat}(hn:nk≠[])(hk:k≠[]):jD q nk k≠[]:=by
 unfold jD;cases bH q k with
 |false=>simpa using hk
 |true=>simp[hn]
theorem bE.So{b:Nat}(h:ah b=none):ah.jD q nk b=none:=by simp[bE.jD,h]
theorem bE.YQ{b:Nat}{k:af Nat}(h:ah b=some k):ah.jD q nk b=some (Proofs.YtcioagfjiccleaaGreat.jD q nk k):=by simp[bE.jD,h]
theorem bE.YR{b:Nat}{k:af Nat}(h:ah b=some k)(hk:bH q k=false):ah.jD q nk b=some k:=by rw[bE.YQ h,ahq hk]
theorem RV.jD{k:af Nat}{x:V}{v:Value}(h:RV w B ah k x v)(bg:∀ b,ah b≠some []):RV w B (ah.jD q nk) (Proofs.YtcioagfjiccleaaGreat.jD q nk k) x v:=by
 induction h with
 |int=>exact .int _ _ _
 |bool=>exact .bool _ _
 |str=>exact .str _ _
 |nil=>exact .nil _
 |dc=>exact .dc _ _ _
 |dg=>exact .dg _ _ _ _ _ (by first|assumption|omega)
 |dz=>exact .dz _ _ _ _ _ (by first|assumption|omega)
 | aA k t o qn l b off cap u ho hl hb h1 ey hc hr ih=>
  exact .aA _ _ _ _ _ _ _ _ u ho (bE.So hl) hb h1 ey hc (λi h j x hx=>ih i h j x hx)
 | own k t o qn l b cap cs u hl hh hs hn hm hc hr ih=>
  have hk:k≠[]:=by rintro rfl;exact bg b hl
  refine .own _ _ _ _ _ _ _ cs u (bE.YQ hl) hh hs hn hm hc (λi h j x hx=>?_)
  have:=ih i h j x hx;rw[ahr hk]at this;exact this
structure Rel (q:Nat) (ah aC:bE):Prop where
 ne:∀b,ah b≠some []
 none:∀b,ah b=none->aC b=Option.none
 iD:∀b k,ah b=some k->bH q k=false->aC b=some k
theorem HX(bg:∀b,ah b≠some []):Rel q ah (ah.jD q nk):=⟨bg,λ_ h=>bE.So h,λ_ _ h hk=>bE.YR h hk⟩
theorem RV.rel(di:Rel q ah aC){k:af Nat}{x:V}{v:Value}(h:RV w B ah k x v)(hk:bH q k=false\/x.aA=true):RV w B aC k x v:=by
 induction h with
 |int=>exact .int _ _ _
 |bool=>exact .bool _ _
 |str=>exact .str _ _
 |nil=>exact .nil _
 |dc=>exact .dc _ _ _
 |dg=>exact .dg _ _ _ _ _ (by first|assumption|omega)
 |dz=>exact .dz _ _ _ _ _ (by first|assumption|omega)
 | aA k t o qn l b off cap u ho hl hb h1 ey hc hr ih=>
  exact .aA _ _ _ _ _ _ _ _ u ho (di.none _ hl) hb h1 ey hc (λi h j x hx=>ih i h j x hx (.inr (lQ t o l[i] ho j x hx)))
 | own k t o qn l b cap cs u hl hh hs hn hm hc hr ih=>
  have dU:bH q k=false:=by
   rcases hk with hk|hk
   ·exact hk
   ·simp[V.aA]at hk;omega
  refine .own _ _ _ _ _ _ _ cs u (di.iD _ _ hl dU) hh hs hn hm hc (λi h j x hx=>ih i h j x hx ?_)
  cases k with
  |nil=>exact absurd hl (di.ne b)
  |cons z k=>exact .inl (by rw[Ml (by simp)];exact dU)
theorem Sq(di:Rel q ah aC):∀ (k:af Nat) (ad:Addr),bH q k=false->addrAt w ah ρ k=some ad->addrAt w aC ρ k=some ad
 |[],_,_,h=>h
 |[_],_,_,h=>h
 |[_,_],_,_,h=>h
 |[_,_,_],_,_,h=>by simp only[addrAt]at h ⊢;exact h
 | [j,i,s,r],_,hd,h=>by
  have hr:bH q [r]=false:=by simpa [bH]using hd
  simp only[addrAt]at h ⊢;split at h
  ·rename_i v b n c e;split at h
   next hl=>rw[bu (di.iD _ _ hl hr)];exact h
   ·cases h
  ·cases h
 | j :: i :: s :: x :: y :: k,ad,hd,h=>by
  have wL:bH q (x::y::k)=false:=by simpa [bH]using hd
  simp only[addrAt]at h ⊢;cases ha:addrAt w ah ρ (x::y::k)with
  |none=>rw[ha]at h;cases h
  | some qC=>
   rw[Sq di _ _ wL ha];rw[ha]at h;split at h
   ·rename_i v b n c e;split at h
    next hl=>rw[bu (di.iD _ _ hl wL)];exact h
    ·cases h
   ·cases h
theorem Sr(di:Rel q ah aC)(k:af Nat)(u:Value)(hd:bH q k=false)(h:cE w ah ρ k=some u):cE w aC ρ k=some u:=by
 match k,hd,h with
 |[],_,h=>simp[cE,addrAt]at h
 |[r],_,h=>exact h
 | x :: y :: k,hd,h=>
  simp only[cE]at h ⊢;cases ha:addrAt w ah ρ (x::y::k)with
  |none=>rw[ha]at h;cases h
  | some ad=>
   rw[Sq di _ _ hd ha];rw[ha]at h;exact h
theorem dN.rel(di:Rel q ah aC){x:Lf}{u:Value}(h:dN w B ah ρ x u):dN w B aC ρ (x.drop q) u:=by
 cases x with
 |v x=>exact⟨h.1,h.2.rel di (.inr h.1)⟩
 |dead=>trivial
 | own k=>
  have e:Lf.drop q (.own k)=(bif bH q k then .dead else .own k):=rfl;rw[e];cases hl:bH q k with
  |true=>trivial
  |false=>exact⟨h.1,Sr di k u hl h.2⟩
theorem eB.rel(di:Rel q ah aC){cs:af Lf}{us:Array Value}(h:eB w B ah ρ cs us):eB w B aC ρ (cs.map (Lf.drop q)) us:=by
 refine⟨by rw[eV];exact h.1,λj x hx=>?_⟩
 rw[dH]at hx;cases hy:cs[j]? with
 |none=>rw[hy]at hx;cases hx
 | some y=>
  rw[hy]at hx;injection hx with hx;subst hx;obtain⟨u,hu,r⟩:=h.2 j y hy;exact⟨u,hu,r.rel di⟩
theorem RP.rel(di:Rel q ah aC){p:Bool×af Lf}{u:Value}(h:RP w B ah ρ p u):RP w B aC ρ (p.1,p.2.map (Lf.drop q)) u:=by
 obtain⟨b,cs⟩:=p;cases b with
 |true=>obtain⟨us,e,h⟩:=h;exact⟨us,e,h.rel di⟩
 |false=>exact eB.rel di h
theorem RA.rel(di:Rel q ah aC){x:A}{u:Value}(h:RA w B ah ρ x u):RA w B aC ρ (x.drop q) u:=by
 cases x with
 |undef=>trivial
 |skip=>exact h
 |lf x=>exact dN.rel di h
 |agg cs=>exact RP.rel di (p:=(true,cs)) h
 | cP xs=>
  obtain⟨us,e,hs,h⟩:=h
  refine⟨us,e,by rw[eV];exact hs,λj p hp=>?_⟩
  rw[dH]at hp;cases hy:xs[j]? with
  |none=>rw[hy]at hp;cases hp
  | some y=>
   rw[hy]at hp;injection hp with hp;subst hp;obtain⟨v,hv,r⟩:=h j y hy;exact⟨v,hv,r.rel di⟩
 | ptr k=>
  have e:A.drop q (.ptr k)=(bif bH q k then .undef else .ptr k):=rfl;rw[e];cases hl:bH q k with
  |true=>trivial
  |false=>obtain⟨ad,e,h⟩:=h;exact⟨ad,e,Sq di k ad hl h⟩
 | view k s i j=>
  have e:A.drop q (.view k s i j)=(bif bH q k then .undef else .view k s i j):=rfl;rw[e];cases hl:bH q k with
  |true=>trivial
  |false=>obtain⟨A,n,c,h,r⟩:=h;exact⟨A,n,c,Sr di k _ hl h,r⟩
 | aG r j=>
  have e:A.drop q (.aG r j)=(bif Nat.beq r q then .undef else .aG r j):=rfl;rw[e];cases hl:Nat.beq r q with
  |true=>trivial
  |false=>exact h
 | pk r n=>
  have e:A.drop q (.pk r n)=(bif Nat.beq r q then .undef else .pk r n):=rfl;rw[e];cases hl:Nat.beq r q with
  |true=>trivial
  |false=>exact h
 | jB cs=>
  obtain⟨b,off,e,hb,hl,h⟩:=h
  refine⟨b,off,e,hb,di.none _ hl,λj x hx=>?_⟩
  obtain⟨hf,v,hv,hr⟩:=h j x hx;exact⟨hf,v,hv,hr.rel di (.inr hf)⟩
 | mK f cs=>
  obtain⟨pv,e0,h⟩:=h;refine⟨pv,e0,?_⟩;obtain⟨b,off,e,hb,hl,h⟩:=h
  refine⟨b,off,e,hb,di.none _ hl,λj x hx=>?_⟩
  obtain⟨hf,v,hv,hr⟩:=h j x hx;exact⟨hf,v,hv,hr.rel di (.inr hf)⟩
 | fn f cap=>
  have e:A.drop q (.fn f cap)=(bif cap.any (λp=>Nat.beq p.1 q)then .undef else .fn f cap):=rfl;rw[e];cases hl:cap.any (λp=>Nat.beq p.1 q)with
  |true=>trivial
  |false=>exact h
theorem fj.rel(di:Rel q ah aC){r:Nat}(hr:r≠q){x:aW}(h:fj w B ah ρ r x):fj w B aC ρ r (x.drop q):=by
 have sV:bH q [r]=false:=by simpa [bH]using λe=>hr e
 cases h with
 | ax b off cells e cs us jW hl hh hs hc=>
  refine .ax b off cells e _ us jW (di.iD _ _ hl sV) hh (by rw[eV];exact hs) (λj x hx=>?_)
  rw[dH]at hx;cases hy:cs[j]? with
  |none=>rw[hy]at hx;cases hx
  | some y=>
   rw[hy]at hx;injection hx with hx;subst hx;exact⟨(hc j y hy).1,(hc j y hy).2.rel di⟩
 |sl v y jW Cl=>exact .sl v y jW (Cl.rel di (.inl sV))
 |mp b c es l jW hl hh he=>exact .mp b c es l jW (di.iD _ _ hl sV) hh he
 | gh us xs jW hx=>
  refine .gh us _ jW (λj x hj=>?_)
  rw[dH]at hj;cases hy:xs[j]? with
  |none=>rw[hy]at hj;cases hj
  | some y=>
   rw[hy]at hj;injection hj with hj;subst hj;exact(hx j y hy).rel di
theorem Rl.yu(h:Rl w0 N ah ρ σ a w):∀b,ah b≠some []:=λb hb=>(h.dn b [] hb).2.2 rfl
theorem Rl.rel(h:Rl w0 N ah ρ σ a w)(di:Rel q ah aC)(hg:∀ b k,aC b=some k->(∃ k',ah b=some k')/\k≠[]):Rl w0 N aC ρ (σ.drop q) a w:=by
 refine⟨h.below,λb k l6=>?_,λr x hx=>?_,λk=>(h.tmp k).rel di,h.size,h.defers,h.fix,h.dQ⟩
 ·obtain⟨⟨k',hl⟩,hk⟩:=hg b k l6;have:=h.dn b k' hl;exact⟨this.1,this.2.1,hk⟩
 ·have hx:(bif Nat.beq r q then none else (σ.m r).map (aW.drop q))=some x:=hx;cases hb:Nat.beq r q with
  |true=>rw[hb]at hx;cases hx
  | false=>
   rw[hb,au]at hx;have dA:r≠q:=by rintro rfl;simp at hb
   cases og:σ.m r with
   |none=>rw[og]at hx;cases hx
   | some y=>
    rw[og]at hx;injection hx with hx;subst hx;exact(h.root r y og).rel di dA
theorem Rl.ahs{z:V}(h:Rl w0 N ah ρ σ a w)(hm:σ.m q=some (.sl z))(hn:nk≠[]):∃ u,ρ q = .dP u/\Rl w0 N (ah.jD q nk) ρ (σ.drop q) a w/\RV w w0.heap.size (ah.jD q nk) nk z u:=by
 have bg:=h.yu;have hq:=h.root q _ hm;generalize he:aW.sl z=x at hq;cases hq with
 |ax=>cases he
 |mp=>cases he
 |gh=>cases he
 | sl u y aM hr=>
  injection he with he;subst he
  refine⟨u,aM,h.rel (HX bg) λb k l6=>?_,?_⟩
  ·unfold bE.jD at l6;cases hl:ah b with
   |none=>rw[hl]at l6;cases l6
   | some k'=>
    rw[hl]at l6;injection l6 with l6;subst l6;exact⟨⟨k',rfl⟩,YP hn (λe=>bg b (by rw[hl,e]))⟩
  ·have:=hr.jD (q:=q) (nk:=nk) bg
   rwa [YO]at this
def jE(r:Nat)(key:Nat->af Nat):Nat->Nat->af Lf->S->aj (af V×S)
 |_,_,[],σ=>some ([],σ)
 |f+1,j,.v x::xs,σ=>(jE r key f (j+1) xs σ).map λp=>(x::p.1,p.2)
 | f+1,j,.own [q] :: xs,σ=>match σ.m q with
  |some (.sl z)=>bif Nat.beq q r then none else (jE r key f (j+1) (xs.map (Lf.drop q)) (σ.drop q)).map λp=>(z::p.1,p.2)
  |_=>none
 |_,_,_,_=>none
theorem Mm{r:Nat}{key:Nat->af Nat}(yw:∀ j,bH r (key j)=true):∀ (f j:Nat) (xs:af Lf) (σ τ:S) (vs:af V),jE r key f j xs σ=some (vs,τ)->∀ ah ρ a w,Rl w0 N ah ρ σ a w->∀ us:af Value,eB w w0.heap.size ah ρ xs us.toArray->
  ∃ aC,Rl w0 N aC ρ τ a w/\vs.length=xs.length/\(∀ (n:Nat) x,vs[n]?=some x->∃ u,us[n]?=some u/\RV w w0.heap.size aC (key (j+n)) x u)/\(∀ k x v,bH r k=true->RV w w0.heap.size ah k x v->RV w w0.heap.size aC k x v)/\
   (∀x,σ.m r=some (.sl x)->τ.m r=some (.sl x))/\(∀k u,bH r k=true->cE w ah ρ k=some u->cE w aC ρ k=some u)/\(∀b,ah b=some [r]->aC b=some [r])/\(∀b,ah b=none->aC b=none)
 | 0,j,[],σ,τ,vs,h,ah,ρ,a,w,hR,us,hu=>by
  simp only[jE,gp,jL]at h;obtain⟨rfl,rfl⟩:=h;exact⟨ah,hR,rfl,by simp,λ_ _ _ _ h=>h,λ_ h=>h,λ_ _ _ h=>h,λ_ h=>h,λ_ h=>h⟩
 | f+1,j,[],σ,τ,vs,h,ah,ρ,a,w,hR,us,hu=>by
  simp only[jE,gp,jL]at h;obtain⟨rfl,rfl⟩:=h;exact⟨ah,hR,rfl,by simp,λ_ _ _ _ h=>h,λ_ h=>h,λ_ _ _ h=>h,λ_ h=>h,λ_ h=>h⟩
 |0,j,x::xs,σ,τ,vs,h,ah,ρ,a,w,hR,us,hu=>by simp[jE]at h
 | f+1,j,x :: xs,σ,τ,vs,h,ah,ρ,a,w,hR,us,hu=>by
  obtain⟨u0,us,rfl⟩:∃ u0 Mn,us=u0 :: Mn:=by
   cases us with
   |nil=>have:=hu.1;simp at this
   |cons u0 us=>exact⟨_,_,rfl⟩
  have kS:dN w w0.heap.size ah ρ x u0:=by
   obtain⟨u,e,h⟩:=hu.2 0 x rfl;simp at e;subst e;exact h
  have gD:eB w w0.heap.size ah ρ xs us.toArray:=⟨by have:=hu.1;simpa using this,λn y hy=>by
   obtain⟨u,e,h⟩:=hu.2 (n+1) y hy;exact⟨u,by simpa using e,h⟩⟩
  cases x with
  | v x=>
   simp only[jE,Option.map_eq_some_iff]at h;obtain⟨⟨Cp,gv⟩,h,e⟩:=h;simp only[jL]at e;obtain⟨rfl,rfl⟩:=e;obtain⟨aC,h1,h2,h3,h4,h5⟩:=Mm yw f (j+1) xs σ gv Cp h ah ρ a w hR us gD
   refine⟨aC,h1,by simp[h2],λn y hy=>?_,h4,h5⟩
   cases n with
   | zero=>
    simp at hy;subst hy;refine⟨u0,rfl,h4 _ _ _ (yw _) (kS.2.key kS.1)⟩
   | succ n=>
    obtain⟨u,e,h⟩:=h3 n y (by simpa using hy);exact⟨u,by simpa using e,by rw[show j+(n+1)=j+1+n by omega];exact h⟩
  |dead=>simp[jE]at h
  | own k=>
   match k,kS,h with
   |[],_,h=>simp[jE]at h
   |_::_::_,_,h=>simp[jE]at h
   | [q],kS,h=>
    simp only[jE]at h;split at h
    ·rename_i z hz;cases Ss:Nat.beq q r with
     |true=>rw[Ss]at h;cases h
     | false=>
      rw[Ss,au,Option.map_eq_some_iff]at h;obtain⟨⟨Cp,gv⟩,aht,e⟩:=h;simp only[jL]at e;obtain⟨rfl,rfl⟩:=e;have bg:q≠r:=by rintro rfl;simp at Ss
      have HY:key j≠[]:=by intro e;have:=yw j;rw[e]at this;simp[bH]at this
      obtain⟨u,aM,aO,l7⟩:=hR.ahs hz HY;have HZ:u=u0:=by
       have h4:=kS.2;simp only[cE,aM]at h4;injection h4
      subst HZ;have jN:∀ k,bH r k=true->bH q k=false:=by
       intro k hk;cases hq:bH q k with
       |false=>rfl
       | true=>
        exfalso;have h1:=Sl hk;have h2:=Sl hq;exact bg (YF h1 h2)
      obtain⟨aC,h1,h2,h3,h4,h5,h6,h7,h8⟩:=Mm yw f (j+1) (xs.map (Lf.drop q)) (σ.drop q) gv Cp aht _ ρ a w aO us (gD.rel (HX hR.yu))
      refine⟨aC,h1,by simp[h2],λn y hy=>?_,λk x v hk hv=>h4 _ _ _ hk (hv.rel (HX hR.yu) (.inl (jN k hk))),λx hx=>h5 x ?_,λk v hk hv=>h6 k v hk (Sr (HX hR.yu) k v (jN k hk) hv),λb hb=>h7 b (bE.YR hb (by simpa [bH]using λe=>bg e.symm)),λb hb=>h8 b (bE.So hb)⟩
      ·cases n with
       | zero=>
        simp at hy;subst hy;exact⟨u,rfl,h4 _ _ _ (yw _) l7⟩
       | succ n=>
        obtain⟨u,e,h⟩:=h3 n y (by simpa using hy);exact⟨u,by simpa using e,by rw[show j+(n+1)=j+1+n by omega];exact h⟩
      ·have hb:Nat.beq r q=false:=by
        cases hb:Nat.beq r q with
        |false=>rfl
        |true=>exact absurd (cz hb).symm bg
       simp only[S.drop,hb,au,hx,jU,aW.drop]
    ·cases h
end
end Go.Proofs.YtcioagfjiccleaaGreat
namespace Go.Proofs.YtcioagfjiccleaaGreat
open Go.RowKit
set_option linter.unusedVariables false
def ke:Value->Lf
 |.int k n=>.v (.int k n)
 |.bool b=>.v (.bool b)
 |.string s=>.v (.str s)
 |.slice none 0 0=>.v .nil
 |_=>.dead
def zeroV:Value->aj V
 |.int k n=>some (.int k n)
 |.bool b=>some (.bool b)
 |.string s=>some (.str s)
 |.slice none 0 0=>some .nil
 |_=>none
def H6:af Value->aj (af V)
 |[]=>some []
 | v :: vs=>match zeroV v,H6 vs with
  |some x,some xs=>some (x::xs)
  |_,_=>none
def zeroOf(P:Program)(e:TypeId):aj Value:=(P.info? e).bind (·.zero)
def bytesOf(P:Program)(e:TypeId):aj Nat:=(P.info? e).map (·.bytes)
def jO{X:Type}(N:Nat)(σ:S)(d:Nat)(x:aW)(y:A)(k:S->aj X):aj X:=
 bif Nat.blt d N then k (((σ.drop d).root d x).set d y)else none
def uq{X:Type}(P:Program)(N:Nat)(σ:S)(d:Nat)(e:TypeId)(k:S->aj X):aj X:=
 match zeroOf P e with
 |some z=>jO N σ d (.ax (z.cells.toList.map ke)) (.aG d 0) k
 |none=>none
def wM(P:Program)(t:TypeId):aj (TypeId×TC):=
 match rT P t with
 |none=>none
 | some e=>match Yz e,ld P e,bytesOf P e with
  |some tc,some n,some b=>bif Nat.beq n (aB tc)&&Nat.ble b 65536 then some (e,tc)else none
  |_,_,_=>none
def Mo(P:Program)(e:TypeId)(tc:TC):aj (T tc):=
 match zeroOf P e with
 |none=>none
 | some z=>match H6 z.cells.toList with
  |none=>none
  |some vs=>dec tc (full tc) vs
def Cq{X:Type}(P:Program)(N:Nat)(σ:S)(d:Nat)(t:TypeId)(l c:A)(k:S->aj X):aj X:=
 match wM P t,l,c with
 | some (e,tc),.lf (.v (.int _ n)),.lf (.v (.int _ c))=>match Mo P e tc with
  |none=>none
  |some z=>if 0<=n/\n<=c/\c<1073741824 then jO N σ d (.sl (.sl tc (full tc+2) false (List.replicate n.toNat z))) (.lf (.own [d])) k else none
 |_,_,_=>none
def V.Mp(t:TC):V->aj (af (T t))
 |.sl t' _ _ l=>if h:t'=t then some (h ▸ l)else none
 |.nil=>some []
 |_=>none
def rW{X:Type}(P:Program)(N:Nat)(σ:S)(d:Nat)(t:TypeId)(x y:A)(k:S->aj X):aj X:=
 match wM P t with
 | some (e,tc)=>bif Nat.beq (full tc) 0&&(zeroOf P e).any (λz=>Nat.beq z.cells.size (aB tc))then rS σ y λyv=>(match yv.Mp tc with
  |none=>none
  | some l2=>match x with
   |.lf (.v .nil)=>bif bZ l2.length then jO N σ d (.sl (.sl tc 2 false l2)) (.lf (.own [d])) k else none
   | .lf (.own [r])=>(match σ.m r with
    |some (.sl (.sl t' (o+2) q l))=>if h:t'=tc then (bif Nat.blt d N&&(Nat.blt r N ||Nat.ble 60000 r)&&bZ (l.length+l2.length)then k (((σ.drop r).root r (.sl (.sl tc (o+2) false ((h ▸ l)++l2)))).set d (.lf (.own [r])))else none)else none
    |_=>none)
   |_=>none)else none
 |none=>none
section
variable {P:Program} {w w':World} {w0:Wd} {B N:Nat} {ah aC:bE} {ρ ρ':Nat->Loc} {σ:S} {a:Act} {X:Type} {d:Nat} {r:X}
theorem Mq(v:Value):dN w B ah ρ (ke v) v:=by
 unfold ke;split
 ·exact⟨rfl,.int _ _ _⟩
 ·exact⟨rfl,.bool _ _⟩
 ·exact⟨rfl,.str _ _⟩
 ·exact⟨rfl,.nil _⟩
 ·trivial
theorem YS{v:Value}{x:V}(h:zeroV v=some x)(q:af Nat):RV w B ah q x v:=by
 unfold zeroV at h;split at h<;>first|(injection h with h;subst h;first|exact .int _ _ _|exact .bool _ _|exact .str _ _|exact .nil _)|cases h
theorem Su:∀ (vs:af Value) (xs:af V),H6 vs=some xs->xs.length=vs.length/\∀ (j:Nat) x,xs[j]?=some x->∃ v,vs[j]?=some v/\zeroV v=some x
 | [],xs,h=>by
  simp[H6]at h;subst h;simp
 | v :: vs,xs,h=>by
  unfold H6 at h;split at h
  ·rename_i y ys hy m7;injection h with h;subst h;obtain⟨h1,h2⟩:=Su vs ys m7
   refine⟨by simp[h1],λj x hx=>?_⟩
   cases j with
   |zero=>simp at hx;subst hx;exact⟨v,rfl,hy⟩
   |succ j=>simp at hx;simpa using h2 j x hx
  ·cases h
theorem kQ.YT(w0:Wd)(w:World)(o:Obj)(h:w0.heap.size<=w.heap.size):kQ w0 w (w.alloc o):=.of ((Below.refl w0.heap.size w).alloc h o) (gZ _)
theorem Rl.ER{c:Array Value}{e:TypeId}{x:aW}{ρ':Nat->Loc}(h:Rl w0 N ah ρ σ a w)(hF:w0.F d=none)(aM:∀ r,r≠d->ρ' r=ρ r)
  (hx:fj (w.alloc (.cells c e)) w0.heap.size (bP ah w.heap.size (some [d])) ρ' d x):Rl w0 N (bP ah w.heap.size (some [d])) ρ' ((σ.drop d).root d x) a (w.alloc (.cells c e)):=by
 refine h.AA hF (kQ.YT w0 w _ h.below.size) ⟨by simp,λb hb _=>Below.heap_alloc w _ b hb,λb hb=>cL _ _ _ (by omega),λb hb=>(h.dn b [] hb).2.2 rfl⟩ (λb k hb hk=>?_) aM hx
 by_cases e:b=w.heap.size
 ·subst e;rw[bY]at hk;injection hk with hk;subst hk;exact⟨by simp,by simp⟩
 ·rw[cL _ _ _ e]at hk;have:=(h.dn b k hk).2.1;omega
theorem qH{x:aW}{y:A}{k:S->aj X}(h:jO N σ d x y k=some r):d<N/\k (((σ.drop d).root d x).set d y)=some r:=by
 unfold jO at h;cases hN:Nat.blt d N with
 |false=>rw[hN]at h;cases h
 |true=>rw[hN]at h;exact⟨by have:=cH hN;omega,h⟩
theorem ahu{e:TypeId}{k:S->aj X}(h:uq P N σ d e k=some r):∃ az,k az=some r/\∀ ah ρ a w,Rl w0 N ah ρ σ a w->∃ w' aC ρ' v,(Instr.alloc e true (.tuple #[])).run P w = .ok v w'/\Rl w0 N aC ρ' az (a.put (some d) v) w':=by
 unfold uq at h;split at h
 ·rename_i z hz;obtain⟨hd,h⟩:=qH h
  refine⟨_,h,λah ρ a w hR=>?_⟩
  have bq:(Instr.alloc e true (.tuple #[])).run P w = .ok (.pointer (some ⟨w.heap.size,0,none⟩)) (w.alloc (.cells z.cells e)):=by
   unfold zeroOf at hz;cases hi:P.info? e with
   |none=>simp[hi]at hz
   | some i=>
    have hz:i.zero=some z:=by simpa [hi]using hz
    simp[Instr.alloc,zeroValue,typeInfo,hi,hz,newVar,newRow]
  refine⟨_,bP ah w.heap.size (some [d]),bP ρ d (.ax w.heap.size 0),_,bq,(hR.ER (hR.dQ d (.inl hd)) (λr hr=>cL _ _ _ hr) ?_).set ⟨w.heap.size,0,bY _ _ _,rfl⟩ hd⟩
  refine .ax w.heap.size 0 z.cells e _ (λj=>z.cells.getD j undef) (bY _ _ _) (bY _ _ _) (heap_alloc_new w _) (by simp) λj x hx=>?_
  rw[dH]at hx;cases hv:z.cells.toList[j]? with
  |none=>rw[hv]at hx;cases hx
  | some v=>
   rw[hv]at hx;injection hx with hx;subst hx;have dY:z.cells[j]?=some v:=by simpa using hv
   have hg:z.cells.getD j undef=v:=by rw[jy,dY];rfl
   rw[hg,fQ];exact⟨dY,Mq v⟩
 ·cases h
theorem AB{t e:TypeId}{tc:TC}(h:wM P t=some (e,tc)):P.underlying t=some (.slice e)/\tid tc=e/\∃ i,P.info? e=some i/\i.size=aB tc/\i.bytes<=65536:=by
 unfold wM at h;split at h
 ·cases h
 ·rename_i e' he;split at h
  ·rename_i tc' n b htc hn hb;cases hc:(Nat.beq n (aB tc')&&Nat.ble b 65536)with
   |false=>rw[hc]at h;cases h
   | true=>
    rw[hc,aq]at h;injection h with h;injection h with h1 h2;subst h1 h2;rw[aJ]at hc;refine⟨?_,ag7 htc,?_⟩
    ·unfold rT at he;split at he
     next e'' hu=>injection he with he;subst he;exact hu
     ·cases he
    ·unfold ld at hn;unfold bytesOf at hb;cases hi:P.info? e' with
     |none=>simp[hi]at hn
     | some i=>
      simp only[hi,jU,gp]at hn hb;refine⟨i,rfl,hn.trans (cz hc.1),by rw[hb];exact cH hc.2⟩
  ·cases h
theorem YU(z:Array Value)(n i j:Nat)(hz:j<z.size)(h:i*z.size+j<n):(madeCells z n)[i*z.size+j]?=some z[j]:=by
 have hm:(i*z.size+j) % z.size=j:=by rw[Nat.add_comm,Nat.add_mul_mod_self_right,Nat.mod_eq_of_lt hz]
 simp only[madeCells,Array.getElem?_map,Array.getElem?_range,h,if_true,jU,hm];simp[hz]
theorem ahv{t:TypeId}{l c:A}{k:S->aj X}(h:Cq P N σ d t l c k=some r):∃ az,k az=some r/\∀ ah ρ a w,Rl w0 N ah ρ σ a w->∀ u v,RA w w0.heap.size ah ρ l u->RA w w0.heap.size ah ρ c v->
  ∃w' aC ρ' x,(Instr.makeSlice t u v).run P w = .ok x w'/\Rl w0 N aC ρ' az (a.put (some d) x) w':=by
 unfold Cq at h;split at h
 ·rename_i e tc kl n kc c gN;split at h
  ·cases h
  ·rename_i z hz;split at h
   ·rename_i hb;obtain⟨hd,h⟩:=qH h
    refine⟨_,h,λah ρ a w hR u v hu hv=>?_⟩
    obtain rfl:=hu.2.jk;obtain rfl:=hv.2.jk;obtain⟨gi,ht,i,hi,dx,lU⟩:=AB gN;unfold Mo at hz;split at hz
    ·cases hz
    ·rename_i zv Cr;split at hz
     ·cases hz
     ·rename_i vs ia;have qI:i.zero=some zv:=by unfold zeroOf at Cr;simpa [hi]using Cr
      obtain⟨o9,gF⟩:=Su _ _ ia;have hk:=nB tc (full tc) vs z hz;have gQ:zv.cells.size=aB tc:=by rw[<-lO tc (full tc) z,<-hk.1,o9];simp
      have QZ:(i.bytes:Int)*c<=281474976710656:=by
       have h1:(i.bytes:Int)<=65536:=by omega
       have h2:(i.bytes:Int)*c<=65536*c:=Int.mul_le_mul_of_nonneg_right h1 (by omega);omega
      have bq:=run_make (P:=P) w t e i zv gi hi qI kl kc n c hb.1 hb.2.1 QZ (by omega);rw[dx,<-gQ]at bq
      refine⟨_,bP ah w.heap.size (some [d]),bP ρ d (.dP (.slice (some ⟨w.heap.size,0,none⟩) n.toNat c.toNat)),_,bq,(hR.ER (hR.dQ d (.inl hd)) (λr hr=>cL _ _ _ hr) ?_).set ⟨rfl,?_⟩ hd⟩
      ·refine .sl _ _ (bY _ _ _) ?_;have hlen:(List.replicate n.toNat z).length=n.toNat:=by simp
       have:=RV.own (w:=w.alloc (.cells (madeCells zv.cells (c.toNat*zv.cells.size)) e)) (B:=w0.heap.size) (ah:=bP ah w.heap.size (some [d])) [d] tc (full tc) false (List.replicate n.toNat z) w.heap.size c.toNat (madeCells zv.cells (c.toNat*zv.cells.size)) (λ_ j=>zv.cells.getD j undef)
        (bY _ _ _) (by rw[ht];exact heap_alloc_new w _) (by rw[size_madeCells,gQ]) (by rw[hlen];omega) ⟨by unfold maxLen;omega,λh=>by cases h⟩ (λi' h' j x hx=>?_) (λi' h' j x hx=>?_)
       ·rw[hlen]at this;exact this
       ·rw[List.getElem_replicate]at hx;have hj:j<aB tc:=by have:=(dJ.1 hx).1;rwa [lO]at this
        rw[hlen]at h';rw[<-gQ]at hj;rw[<-gQ,YU zv.cells _ i' j hj (by
         have:(i'+1)*zv.cells.size<=c.toNat*zv.cells.size:=kz _ (by omega);rw[je]at this;omega)]
        simp[jy,hj]
       ·rw[List.getElem_replicate]at hx;have hj:j<(enc tc (full tc) z).length:=(dJ.1 hx).1;rw[<-hk.1]at hj;have hy:=bT hj;generalize vs[j]=y at hy;obtain⟨v,hv,Sv⟩:=gF j y hy;have dY:zv.cells[j]?=some v:=by simpa using hv
        have hg:zv.cells.getD j undef=v:=by rw[jy,dY];rfl
        rw[hg];exact(YS Sv _).wk (hk.2 j y x hy hx)
      ·simp[cE,bY]
   ·cases h
 ·cases h
end
end Go.Proofs.YtcioagfjiccleaaGreat
namespace Go.Proofs.YtcioagfjiccleaaGreat
open Go.RowKit
set_option linter.unusedVariables false
section
variable {P:Program} {w w':World} {w0:Wd} {B N:Nat} {ah aC:bE} {ρ ρ':Nat->Loc} {σ:S} {a:Act} {X:Type} {d:Nat} {r:X}
theorem ES(t:TC)(h:full t=0)(o o':Nat)(x:T t):enc t o x=enc t o' x:=by
 have key:∀ o,enc t o x=enc t 0 x:=by
  intro o;rw[YA t o x];have:=Aw t o x h
  conv=>lhs;rw[<-List.map_id (enc t o x)]
  apply lK;intro y hy;have hp:=this y hy;cases y<;>first|rfl|cases hp
 rw[key o,key o']
def yx(u:Nat->Nat->Value)(n s:Nat):af Value:=(List.range (n*s)).map λk=>u (k / s) (k % s)
theorem YV(u:Nat->Nat->Value)(n s i j:Nat)(hi:i<n)(hj:j<s):(yx u n s)[i*s+j]?=some (u i j):=by
 have bC:i*s+j<n*s:=by
  have:(i+1)*s<=n*s:=kz _ hi;rw[je]at this;omega
 have hd:(i*s+j) / s=i:=by rw[Nat.add_comm,Nat.add_mul_div_right _ _ (by omega),Nat.div_eq_of_lt hj,fQ]
 have hm:(i*s+j) % s=j:=by rw[Nat.add_comm,Nat.add_mul_mod_self_right,Nat.mod_eq_of_lt hj]
 simp[yx,bC,hd,hm]
theorem Mr(u:Nat->Nat->Value)(n s k:Nat)(v:Value)(hs:0<s)(h:(yx u n s)[k]?=some v):∃ i j,k=i*s+j/\i<n/\j<s/\v=u i j:=by
 have hk:k<n*s:=by
  have:=(dJ.1 h).1
  simpa [yx]using this
 refine⟨k / s,k % s,by rw[Nat.mul_comm];exact(Nat.div_add_mod k s).symm,Nat.div_lt_of_lt_mul (by rw[Nat.mul_comm];exact hk),Nat.mod_lt _ hs,?_⟩;simp only[yx,dH,List.getElem?_range hk,jU,gp]at h;exact h.symm
theorem Cs(t:TC)(o:Nat)(x:T t)(j:Nat)(hj:j<aB t):∃y,(enc t o x)[j]?=some y:=⟨_,bT (by rw[lO];exact hj)⟩
def yz(t:TC)(l:af (T t))(vs:af Value):Prop:=
 ∀i (hi:i<l.length) (o j:Nat) x,(enc t o l[i])[j]?=some x->∃v,vs[i*aB t+j]?=some v/\v.oneCell'=true/\∀(w':World) (B':Nat) (aC:bE) (q':af Nat),RV w' B' aC q' x v
theorem RV.reads{q:af Nat}{t:TC}{g:Nat}{qn:Bool}{l:af (T t)}{u:Value}(h:RV w B ah q (.sl t g qn l) u)(hf:full t=0):
  ∃A c news,u = .slice A l.length c/\Reads w w.heap.size (aB t) A l.length news/\(∀v∈news,v.oneCell'=true)/\yz t l news:=by
 cases h with
 |dc=>exact⟨none,0,[],rfl,Reads.none_,by simp,λi hi=>by simp at hi⟩
 |dg=>exact⟨_,_,[],rfl,⟨by simp,λh=>by simp at h⟩,by simp,λi hi=>by simp at hi⟩
 |dz=>exact⟨_,_,[],rfl,⟨by simp,λh=>by simp at h⟩,by simp,λi hi=>by simp at hi⟩
 | aA _ _ _ _ _ b off cap us ho hl hb h1 ey hc hr=>
  have kR:∀ i (hi:i<l.length) j,j<aB t->(us i j).oneCell'=true:=by
   intro i hi j hj;obtain⟨y,hy⟩:=Cs t g l[i] j hj;exact(hr i hi j y hy).one
  refine⟨_,cap,yx us l.length (aB t),rfl,⟨by simp[yx],λhn=>⟨b,off,rfl,hb,λk v hv=>?_⟩⟩,λv hv=>?_,λi hi o j x hx=>?_⟩
  ·obtain⟨i,j,rfl,hi,hj,rfl⟩:=Mr us _ _ k v (qB t) hv;obtain⟨y,hy⟩:=Cs t g l[i] j hj;exact hc i hi j y hy
  ·obtain⟨k,hk⟩:=List.mem_iff_getElem?.1 hv;obtain⟨i,j,rfl,hi,hj,rfl⟩:=Mr us _ _ k v (qB t) hk;exact kR i hi j hj
  ·have hj:j<aB t:=by have:=(dJ.1 hx).1;rwa [lO]at this
   rw[ES t hf o g]at hx
   refine⟨us i j,YV us _ _ i j hi hj,kR i hi j hj,λw' B' aC q'=>(hr i hi j x hx).vj (Aw t g l[i] hf x (iy hx))⟩
 | own _ _ o _ _ b cap cs us hl hh hs hn hm hc hr=>
  have kR:∀ i (hi:i<l.length) j,j<aB t->(us i j).oneCell'=true:=by
   intro i hi j hj;obtain⟨y,hy⟩:=Cs t o l[i] j hj;exact(hr i hi j y hy).one
  refine⟨_,cap,yx us l.length (aB t),rfl,⟨by simp[yx],λhn=>⟨b,0,rfl,(gS.1 hh).1,λk v hv=>?_⟩⟩,λv hv=>?_,λi hi o' j x hx=>?_⟩
  ·obtain⟨i,j,rfl,hi,hj,rfl⟩:=Mr us _ _ k v (qB t) hv;obtain⟨y,hy⟩:=Cs t o l[i] j hj;rw[fQ,cell_of_row w b _ cs _ _ hh];exact hc i hi j y hy
  ·obtain⟨k,hk⟩:=List.mem_iff_getElem?.1 hv;obtain⟨i,j,rfl,hi,hj,rfl⟩:=Mr us _ _ k v (qB t) hk;exact kR i hi j hj
  ·have hj:j<aB t:=by have:=(dJ.1 hx).1;rwa [lO]at this
   rw[ES t hf o' o]at hx
   refine⟨us i j,YV us _ _ i j hi hj,kR i hi j hj,λw' B' aC q'=>(hr i hi j x hx).vj (Aw t o l[i] hf x (iy hx))⟩
theorem RV.YW{q:af Nat}{t:TC}{o:Nat}{qn:Bool}{l:af (T t)}{u:Value}(h:RV w B ah q (.sl t (o+2) qn l) u)(hf:full t=0){B':Nat}(hB:∀ b,ah b=some q->B'<=b):
  ∃xs,w.ownsRow B' (tid t) (aB t) u l.length xs/\(∀b,u.ownBlock=some b->ah b=some q)/\(qn=true->u.ownBlock≠none)/\yz t l xs:=by
 cases h with
 |dg=>omega
 |dz=>omega
 |dc=>exact⟨[],⟨by simp,.inl ⟨rfl,rfl⟩⟩,by simp[Value.ownBlock],by simp,λi hi=>by simp at hi⟩
 |aA _ _ _ _ _ _ _ _ _ ho=>omega
 | own _ _ _ _ _ b cap cs us hl hh hs hn hm hc hr=>
  refine⟨cs.toList.take (l.length*aB t),⟨?_,.inr ⟨b,cap,cs,rfl,hB b hl,hh,hn,hm.1,hs,rfl⟩⟩,λb' ug=>?_,λ_=>by simp[Value.ownBlock],λi hi o' j x hx=>?_⟩
  ·have dZ:cs.toList.length=cap*aB t:=by rw[<-hs];simp
   rw[lM,dZ];have:=kz (aB t) hn;omega
  ·have:b=b':=by simpa [Value.ownBlock]using ug
   subst this;exact hl
  ·have hj:j<aB t:=by have:=(dJ.1 hx).1;rwa [lO]at this
   have bC:i*aB t+j<l.length*aB t:=by
    have:(i+1)*aB t<=l.length*aB t:=kz _ hi;rw[je]at this;omega
   rw[ES t hf o' o]at hx
   refine⟨us i j,?_,(hr i hi j x hx).one,λw' B' aC q'=>(hr i hi j x hx).vj (Aw t o l[i] hf x (iy hx))⟩
   rw[List.getElem?_take,bu bC,nu];exact hc i hi j x hx
theorem yz.append{t:TC}{l l2:af (T t)}{xs ys:af Value}(h:yz t l xs)(h2:yz t l2 ys)(hl:xs.length=l.length*aB t):yz t (l++l2) (xs++ys):=by
 intro i hi o j x hx;have hj:j<aB t:=by have:=(dJ.1 hx).1;rwa [lO]at this
 by_cases bC:i<l.length
 ·rw[List.getElem_append_left bC]at hx;obtain⟨v,hv,r⟩:=h i bC o j x hx;refine⟨v,?_,r⟩;rw[List.getElem?_append_left (dJ.1 hv).1];exact hv
 ·rw[List.getElem_append_right (by omega)]at hx;have vn:i-l.length<l2.length:=by rw[List.length_append]at hi;omega
  obtain⟨v,hv,r⟩:=h2 (i-l.length) vn o j x hx;refine⟨v,?_,r⟩;have e:i*aB t+j=xs.length+((i-l.length)*aB t+j):=by
   rw[hl,Nat.sub_mul];have:l.length*aB t<=i*aB t:=kz _ (by omega);omega
  rw[e,List.getElem?_append_right (by omega),Nat.add_sub_cancel_left];exact hv
theorem Sw{q:af Nat}{t:TC}{o:Nat}{l:af (T t)}{u:Value}{xs:af Value}{B':Nat}(h:w.ownsRow B' (tid t) (aB t) u l.length xs)(he:yz t l xs)(hl:∀ b,u.ownBlock=some b->ah b=some q):
  RV w B ah q (.sl t (o+2) false l) u:=by
 rcases h.2 with ⟨rfl,h0⟩|⟨b,cap,cs,rfl,hB,hh,hn,hm,hs,ht⟩
 ·have:l=[]:=List.eq_nil_of_length_eq_zero h0;subst this;exact .dc _ _ _
 ·have kZ:∀ i (hi:i<l.length) j x,(enc t o l[i])[j]?=some x->∃ v,cs[i*aB t+j]?=some v/\∀ (w':World) (B':Nat) (aC:bE) (q':af Nat),RV w' B' aC q' x v:=by
   intro i hi j x hx;obtain⟨v,hv,_,r⟩:=he i hi o j x hx;refine⟨v,?_,r⟩;rw[<-ht,List.getElem?_take]at hv;split at hv
   ·rw[nu]at hv;exact hv
   ·cases hv
  refine .own q t o false l b cap cs (λi j=>(cs[i*aB t+j]?).getD undef) (hl b rfl) hh hs hn ⟨hm,λh=>by cases h⟩ (λi hi j x hx=>?_) (λi hi j x hx=>?_)
  ·obtain⟨v,hv,_⟩:=kZ i hi j x hx;rw[hv];rfl
  ·obtain⟨v,hv,r⟩:=kZ i hi j x hx;rw[hv];exact r _ _ _ _
theorem Rl.append{t e ty:TypeId}{tc:TC}{i:TypeInfo}{z:Value}{rr o g:Nat}{q qn:Bool}{l l2:af (T tc)}{u v:Value}{q':af Nat}{Bx:Nat}{Sx:bE}(h:Rl w0 N ah ρ σ a w)(hF:w0.F rr=none)(gi:P.underlying t=some (.slice e))(ht:tid tc=e)(hi:P.info? e=some i)(hz:i.zero=some z)
  (dx:i.size=aB tc) (lU:i.bytes<=65536) (gQ:z.cells.size=aB tc) (hf:full tc=0) (hd:RV w w0.heap.size ah [rr] (.sl tc (o+2) q l) u) (hs:RV w Bx Sx q' (.sl tc g qn l2) v) (hlen:l.length+l2.length<1073741824):
  ∃v' w' aC,(Builtin.append_ #[t,t] ty #[u,v]).run P w = .ok v' w'/\Rl w0 N aC (bP ρ rr (.dP v')) ((σ.drop rr).root rr (.sl (.sl tc (o+2) false (l++l2)))) a w'/\oe v'=true:=by
 subst ht;obtain⟨xs,nt,yA,H7,kf⟩:=hd.YW hf (B':=0) (λb _=>Nat.zero_le b);obtain⟨A,c,news,rfl,rX,kR,H8⟩:=hs.reads hf;have fT:(l.length+l2.length)*i.bytes<=140737488355328:=by
  have h1:(l.length+l2.length)*i.bytes<=1073741824*65536:=Nat.mul_le_mul (by omega) lU;omega
 obtain⟨v',w',bq,rY,pg,fk⟩:=QX (P:=P) w 0 t ty (tid tc) i z (aB tc) i.bytes gi hi hz dx rfl gQ (qB tc) u l.length xs nt _ A l2.length c news rX kR (by unfold maxLen;omega) fT (Nat.zero_le _);have Ct:(l++l2).length=l.length+l2.length:=List.length_append;rw[<-Ct]at rY;have Cu:=kf.append H8 nt.1;have gM:oe v'=true:=by rcases rY.2 with ⟨rfl,_⟩|⟨_,_,_,rfl,_⟩<;>rfl
 have rZ:Below 0 w w':=(Below.refl 0 w).grown pg (Nat.zero_le _) (λ_ _=>Nat.zero_le _);have iE:kQ w0 w w':=⟨rZ.os,rZ.tape,rZ.output,rZ.size,λk hk hL=>pg.block k (mG hk h.below.size) (λe'=>by
  rcases(h.dn k _ (yA k e'.symm)).1 with h1|h1
  ·exact absurd hk (Nat.not_lt.2 h1)
  ·exact h1 hL)⟩
 by_cases qJ:v'.ownBlock=some w.heap.size
 ·have bC:w.heap.size<w'.heap.size:=by
   rcases rY.2 with ⟨rfl,_⟩|⟨b,cap,cs,rfl,_,hh,_⟩
   ·cases qJ
   ·have:b=w.heap.size:=by simpa [Value.ownBlock]using qJ
    subst this;exact(gS.1 hh).1
  refine⟨v',w',bP ah w.heap.size (some [rr]),bq,h.AA hF iE ⟨pg.size,λb hb bg=>pg.block b hb (λe'=>bg (yA b e'.symm)),λb hb=>cL _ _ _ (by omega),λb hb=>(h.dn b [] hb).2.2 rfl⟩ (λb k hb hk=>?_) (λr hr=>cL _ _ _ hr) (.sl v' _ (bY _ _ _) (Sw rY Cu (λb hb=>?_))),gM⟩
  ·by_cases e:b=w.heap.size
   ·subst e;rw[bY]at hk;injection hk with hk;subst hk;exact⟨bC,by simp⟩
   ·rw[cL _ _ _ e]at hk;have:=(h.dn b k hk).2.1;omega
  ·rw[qJ]at hb;injection hb with hb;subst hb;exact bY _ _ _
 ·have Sz:v'.ownBlock=u.ownBlock:=by
   rcases fk with fk|fk
   ·exact fk
   ·exact absurd fk qJ
  refine⟨v',w',ah,bq,h.AA hF iE ⟨pg.size,λb hb bg=>pg.block b hb (λe'=>bg (yA b e'.symm)),λ_ _=>rfl,λb hb=>(h.dn b [] hb).2.2 rfl⟩ (λb k hb hk=>?_) (λr hr=>cL _ _ _ hr) (.sl v' _ (bY _ _ _) (Sw rY Cu (λb hb=>yA b (by rw[<-Sz];exact hb)))),gM⟩
  have:=(h.dn b k hk).2.1;omega
theorem SA{t:TC}{x:V}{l:af (T t)}(h:x.Mp t=some l){q:af Nat}{u:Value}(hu:RV w B ah q x u):∃ g qn,RV w B ah q (.sl t g qn l) u:=by
 unfold V.Mp at h;split at h
 ·rename_i t' g qn l';split at h
  next ht=>subst ht;injection h with h;subst h;exact⟨g,qn,hu⟩
  ·cases h
 ·injection h with h;subst h;cases hu;exact⟨0,false,.dc _ _ _⟩
 ·cases h
theorem SB{x:Lf}{k:V->aj X}(h:jY σ x k=some r):∃ y,(∀ ah ρ a w,Rl w0 N ah ρ σ a w->∀ u,dN w w0.heap.size ah ρ x u->∃ q,RV w w0.heap.size ah q y u)/\k y=some r:=by
 cases x with
 |v z=>exact⟨z,λah ρ a w _ u hu=>⟨[],hu.2⟩,h⟩
 |dead=>cases h
 | own q=>
  obtain⟨z,hz,h⟩:=uk q _ h
  refine⟨z,λah ρ a w hR u hu=>?_,h⟩
  obtain⟨v,hv,hr⟩:=hz.ok hR.root;have h3:=hu.2;rw[hv]at h3;injection h3 with h3;subst h3;exact⟨q,hr⟩
theorem YX{y:A}{k:V->aj X}(h:rS σ y k=some r):∃ z,(∀ ah ρ a w,Rl w0 N ah ρ σ a w->∀ u,RA w w0.heap.size ah ρ y u->∃ q B' aC,RV w B' aC q z u)/\k z=some r:=by
 unfold rS at h;split at h
 ·obtain⟨z,hz,h2⟩:=SB (w0:=w0) (N:=N) h;exact⟨z,λah ρ a w hR u hu=>let ⟨q,hq⟩:=hz ah ρ a w hR u hu;⟨q,_,_,hq⟩,h2⟩
 ·obtain⟨z,h2,_,hz⟩:=YI h;exact⟨z,λah ρ a w hR u hu=>⟨[],0,_,hz _ _ _ _ _ _ hR u hu 0⟩,h2⟩
 ·cases h
theorem ahw{t ty:TypeId}{x y:A}{k:S->aj X}(h:rW P N σ d t x y k=some r):∃ az,k az=some r/\∀ ah ρ a w,Rl w0 N ah ρ σ a w->∀ u v,RA w w0.heap.size ah ρ x u->RA w w0.heap.size ah ρ y v->
  ∃w' aC ρ' z,(Builtin.append_ #[t,t] ty #[u,v]).run P w = .ok z w'/\Rl w0 N aC ρ' az (a.put (some d) z) w':=by
 unfold rW at h;split at h
 ·rename_i e tc gN;obtain⟨gi,ht,i,hi,dx,lU⟩:=AB gN;cases hc:(Nat.beq (full tc) 0&&(zeroOf P e).any (λz=>Nat.beq z.cells.size (aB tc)))with
  |false=>rw[hc]at h;cases h
  | true=>
   rw[hc,aq]at h;rw[aJ]at hc;have hf:=cz hc.1;obtain⟨z,hz,gQ⟩:=(Option.any_eq_true _ _).1 hc.2;have gQ:=cz gQ;have qI:i.zero=some z:=by unfold zeroOf at hz;simpa [hi]using hz
   obtain⟨yv,Ms,h2⟩:=YX (w0:=w0) (N:=N) h;clear h;split at h2
   ·cases h2
   ·rename_i l2 gF;split at h2
    ·cases hL:bZ l2.length with
     |false=>rw[hL]at h2;cases h2
     | true=>
      rw[hL,aq]at h2;have hL:l2.length<1073741824:=by simpa [bZ]using hL
      obtain⟨hd,h3⟩:=qH h2
      refine⟨_,h3,λah ρ a w hR u v hu hv=>?_⟩
      have hu:u = .slice none 0 0:=by cases hu.2;rfl
      subst hu;obtain⟨q',_,_,dY⟩:=Ms ah ρ a w hR v hv;obtain⟨g,qn,dY⟩:=SA gF dY;obtain⟨v',w',aC,bq,aO,gM⟩:=hR.append (ty:=ty) (rr:=d) (o:=0) (q:=false) (l:=[]) (hR.dQ d (.inl hd)) gi ht hi qI dx lU gQ hf (.dc _ _ _) dY (by simpa using hL);exact⟨w',aC,_,v',bq,aO.set ⟨gM,by simp[cE,bY]⟩ hd⟩
    ·rename_i rr;split at h2
     ·rename_i t' o q l hm;split at h2
      ·rename_i gG;subst gG;cases hL:(Nat.blt d N&&(Nat.blt rr N || Nat.ble 60000 rr)&&bZ (l.length+l2.length))with
       |false=>rw[hL]at h2;cases h2
       | true=>
        rw[hL,aq]at h2;rw[aJ,aJ,eH]at hL;have H9:l.length+l2.length<1073741824:=by simpa [bZ]using hL.2
        have hd:d<N:=by have:=cH hL.1.1;omega
        have kY:rr<N\/60000<=rr:=hL.1.2.imp (λh=>by have:=cH h;omega) (λh=>cH h)
        refine⟨_,h2,λah ρ a w hR u v hu hv=>?_⟩
        obtain⟨q',_,_,dY⟩:=Ms ah ρ a w hR v hv;obtain⟨g,qn,dY⟩:=SA gF dY;have cQ:=hR.root rr _ hm;generalize he:aW.sl (.sl t' (o+2) q l)=x at cQ;cases cQ with
        |ax=>cases he
        |mp=>cases he
        |gh=>cases he
        | sl uu y aM hr=>
         injection he with he;subst he;have HZ:uu=u:=by
          have h4:=hu.2;simp only[cE,aM]at h4;injection h4
         subst HZ;obtain⟨v',w',aC,bq,aO,gM⟩:=hR.append (ty:=ty) (hR.dQ rr kY) gi ht hi qI dx lU gQ hf hr dY H9;exact⟨w',aC,_,v',bq,aO.set ⟨gM,by simp[cE,bY]⟩ hd⟩
      ·cases h2
     ·cases h2
    ·cases h2
 ·cases h
end
end Go.Proofs.YtcioagfjiccleaaGreat
namespace Go.Proofs.YtcioagfjiccleaaGreat
open Go.RowKit
set_option linter.unusedVariables false
section
variable {P:Program} {w w':World} {w0:Wd} {B N:Nat} {ah aC:bE} {ρ ρ':Nat->Loc} {σ:S} {a:Act} {X:Type} {d q:Nat} {r:X} {o:Oper}
theorem Rl.YY{t:TC}{g p:Nat}{qn:Bool}{l ys:af (T t)}{news:af Value}(h:Rl w0 N ah ρ σ a w)(hm:σ.m q=some (.sl (.sl t (g+2) qn l)))(hf:full t=0)(hp:p+ys.length<=l.length)(jN:0<l.length)(kf:yz t ys news)(ur:news.length=ys.length*aB t):
  ∃ b cap,ρ q = .dP (.slice (some ⟨b,0,none⟩) l.length cap)/\l.length<=cap/\(∀ n,n<news.length->(w.cell? ⟨b,p*aB t+n,none⟩).isSome=true/\w.frozen? ⟨b,p*aB t+n,none⟩=false)/\
   Rl w0 N ah ρ ⟨σ.t,bP σ.m q (some (.sl (.sl t (g+2) qn (splice l p ys))))⟩ a (w.setCells b (p*aB t) news):=by
 have cQ:=h.root q _ hm;generalize he:aW.sl (.sl t (g+2) qn l)=x at cQ;cases cQ with
 |ax=>cases he
 |mp=>cases he
 |gh=>cases he
 | sl v y aM di=>
  injection he with he;subst he;cases di with
  |dc=>exact absurd jN (Nat.lt_irrefl 0)
  |dg=>exact absurd jN (Nat.lt_irrefl 0)
  |dz=>exact absurd jN (Nat.lt_irrefl 0)
  |aA _ _ _ _ _ _ _ _ _ ho=>omega
  | own _ _ _ _ _ b cap cs u dB hh hs hn uj hc hr=>
   have sP:(p+ys.length)*aB t<=cap*aB t:=kz _ (by omega);rw[Nat.add_mul]at sP;have ji:p*aB t+news.length<=cs.size:=by rw[ur,hs];exact sP
   have hW:=Mg w b (p*aB t) news;obtain⟨c2,fT,jt⟩:=G0 b (tid t) news (p*aB t) w cs hh ji;have vk:∀ n,c2[n]?=if n<p*aB t then cs[n]? else if n<p*aB t+news.length then news[n-p*aB t]? else cs[n]?:=by
    intro n;have e2:c2[n]?=(splice cs.toList (p*aB t) news)[n]?:=by
     rw[show c2[n]?=c2.toList[n]? by simp,jt];rfl
    rw[e2,yf _ _ _ (by simpa using ji)];simp
   have HR:c2.size=cs.size:=by
    rw[<-mX,jt];have:=uh cs.toList (p*aB t) news (by simpa using ji);simp only[splice]at this;rw[this];simp
   have vo:=qB t;have hC:sO w (w.setCells b (p*aB t) news) ah ρ:=by
    intro k ad v ha hv gM;by_cases bg:ad.block=b
    ·obtain⟨j',i',s',q',rfl,m0,ahe,sQ,_⟩:=ye k ad ha;have jX:ad=⟨b,ad.off,none⟩:=by cases ad;simp_all
     rw[jX,cell_of_row w b _ cs _ _ hh]at hv;rw[jX,cell_of_row _ b _ c2 _ _ fT,vk];by_cases h1:ad.off<p*aB t
     ·rw[bu h1];exact hv
     ·by_cases h2:ad.off<p*aB t+news.length
      ·exfalso;have hk:ad.off=(ad.off / aB t)*aB t+ad.off % aB t:=by rw[Nat.mul_comm];exact(Nat.div_add_mod _ _).symm
       have bC:ad.off<l.length*aB t:=by
        have:(p+ys.length)*aB t<=l.length*aB t:=kz _ hp;rw[Nat.add_mul]at this;omega
       have hi:ad.off / aB t<l.length:=Nat.div_lt_of_lt_mul (by rw[Nat.mul_comm];exact bC);obtain⟨y,hy⟩:=Cs t g l[ad.off / aB t] (ad.off % aB t) (Nat.mod_lt _ vo);have h3:=hc _ hi _ y hy;rw[<-hk,hv]at h3;injection h3 with h3;have:=(hr _ hi _ y hy).YG (Aw t g _ hf y (iy hy));rw[<-h3,gM]at this;cases this
      ·rw[bJ h1,bJ h2];exact hv
    ·exact(mH (hW.block _ bg)).trans hv
   have Cm:cE w ah ρ [q]=some (.slice (some ⟨b,0,none⟩) l.length cap):=by simp only[cE,aM]
   refine⟨b,cap,aM,hn,λn sR=>⟨?_,frozen_of_row w b _ cs _ hh⟩,h.wrote hW dB hC ((Ax.root q _ _ hm).ok h.root hW dB (List.suffix_refl _) hC Cm ?_)⟩
   ·rw[cell_of_row w b _ cs _ _ hh];simp;omega
   ·have hlen:(splice l p ys).length=l.length:=uh l p ys hp;have key:∀ i' (h:i'<(splice l p ys).length) (j':Nat) x,(enc t g (splice l p ys)[i'])[j']?=some x->∃ v,c2[i'*aB t+j']?=some v/\RV (w.setCells b (p*aB t) news) w0.heap.size ah (j' :: i' :: aB t :: [q]) x v:=by
     intro i' h' j' x hx;have qD:j'<aB t:=by have:=(dJ.1 hx).1;rwa [lO]at this
     have qK:=bT h';generalize (splice l p ys)[i']=e at qK hx;rw[yf l p ys hp]at qK;have iP:=Aw t g e hf x (iy hx);have sW:l[i']?=some e->∃ v,cs[i'*aB t+j']?=some v/\RV (w.setCells b (p*aB t) news) w0.heap.size ah (j' :: i' :: aB t :: [q]) x v:=λhle=>by
      obtain⟨hi,rfl⟩:=dJ.1 hle;exact⟨_,hc i' hi j' x hx,(hr i' hi j' x hx).vj iP⟩
     by_cases h1:i'<p
     ·rw[bu h1]at qK;have bC:(i'+1)*aB t<=p*aB t:=kz _ h1;rw[je]at bC;rw[vk,bu (by omega)];exact sW qK
     ·rw[bJ h1]at qK;by_cases h2:i'<p+ys.length
      ·rw[bu h2]at qK;obtain⟨hi,rfl⟩:=dJ.1 qK;obtain⟨v,hv,_,l7⟩:=kf (i'-p) hi g j' x hx;have avz:(i'-p)*aB t=i'*aB t-p*aB t:=Nat.sub_mul _ _ _;have hle:p*aB t<=i'*aB t:=kz _ (by omega);have bC:=(dJ.1 hv).1;refine⟨v,?_,l7 _ _ _ _⟩;rw[vk,bJ (by omega),bu (by omega),<-hv];congr 1;omega
      ·rw[bJ h2]at qK;have oZ:(p+ys.length)*aB t<=i'*aB t:=kz _ (by omega);rw[Nat.add_mul]at oZ;rw[vk,bJ (by omega),bJ (by rw[ur];omega)];exact sW qK
    rw[<-hlen]
    refine .own [q] t g qn (splice l p ys) b cap c2 (λi' j'=>(c2[i'*aB t+j']?).getD undef) dB fT (HR.trans hs) (by rw[hlen];exact hn) ⟨uj.1,λh=>by rw[hlen];exact uj.2 h⟩ (λi' h j' x cV=>?_) (λi' h j' x cV=>?_)
    ·obtain⟨v,hv,_⟩:=key i' h j' x cV;rw[hv];rfl
    ·obtain⟨v,hv,hr⟩:=key i' h j' x cV;rw[hv];exact hr
theorem YZ(b i c s:Nat):sliced (some ⟨b,0,none⟩) 0 i c s = .slice (some ⟨b,0,none⟩) i c:=by
 unfold sliced;split
 ·rfl
 ·rw[jU,Addr.add_lit];simp
def Cv{X:Type}(P:Program)(N:Nat)(σ:S)(d:Nat)(t:TypeId)(x y:A)(k:S->aj X):aj X:=
 match x,y with
 | .view [q] s 0 i,.view [q'] s' j m=>(match wM P t with
  | some (e,tc)=>bif Nat.beq q' q&&Nat.beq s (aB tc)&&Nat.beq s' (aB tc)&&Nat.beq (full tc) 0&&Nat.blt d N then (match σ.m q with
   |some (.sl (.sl t' (o+2) qn l))=>bif Nat.beq (full t') 0&&Nat.beq (aB t') (aB tc)then (if i<=j/\j<=m/\m<=l.length/\0<l.length then k ((σ.root q (.sl (.sl t' (o+2) qn (splice l i ((l.take m).drop j))))).set d (.view [q] s 0 (i+(m-j))))else none)else none
   |_=>none)else none
  |none=>none)
 |_,_=>none
theorem ahx{t ty:TypeId}{x y:A}{k:S->aj X}(h:Cv P N σ d t x y k=some r):∃ az,k az=some r/\∀ ah ρ a w,Rl w0 N ah ρ σ a w->∀ u v,RA w w0.heap.size ah ρ x u->RA w w0.heap.size ah ρ y v->
  ∃w' aC ρ' z,(Builtin.append_ #[t,t] ty #[u,v]).run P w = .ok z w'/\Rl w0 N aC ρ' az (a.put (some d) z) w':=by
 unfold Cv at h;split at h
 ·rename_i q s i q' s' j m;split at h
  ·rename_i e tc gN;obtain⟨gi,ht,inf,hi,dx,lU⟩:=AB gN;cases hc:(Nat.beq q' q&&Nat.beq s (aB tc)&&Nat.beq s' (aB tc)&&Nat.beq (full tc) 0&&Nat.blt d N)with
   |false=>rw[hc]at h;cases h
   | true=>
    rw[hc,aq]at h;simp only[aJ]at hc;obtain⟨⟨⟨⟨c1,c2⟩,c3⟩,c4⟩,c5⟩:=hc;obtain rfl:=cz c1;obtain rfl:=cz c2;obtain rfl:=cz c3;have hd:d<N:=by have:=cH c5;omega
    split at h
    ·rename_i t' g qn l hm;cases oh:(Nat.beq (full t') 0&&Nat.beq (aB t') (aB tc))with
     |false=>rw[oh]at h;cases h
     | true=>
      rw[oh,aq]at h;rw[aJ]at oh;have hf:=cz oh.1;have dL:=cz oh.2;split at h
      ·rename_i hb;obtain⟨b1,b2,b3,b4⟩:=hb
       refine⟨_,h,λah ρ a w hR u v hu hv=>?_⟩
       obtain⟨A,n,c,AD,a1,a2,rfl⟩:=hu;obtain⟨A',n',c',Mt,a1',a2',rfl⟩:=hv;rw[AD]at Mt;injection Mt with Mt;injection Mt with e1 e2 e3;subst e1 e2 e3
       -- what is moved
       have cQ:=hR.root q' _ hm;generalize he:aW.sl (.sl t' (g+2) qn l)=x at cQ;cases cQ with
       |ax=>cases he
       |mp=>cases he
       |gh=>cases he
       | sl qL y aM di=>
        injection he with he;subst he;have Mv:qL = .slice A n c:=by
         simp only[cE,aM]at AD;injection AD
        subst Mv;have Mw:RV w 0 (λ_=>none) [] (.sl t' 0 qn l) (.slice A n c):=di.ja;have hn:n=l.length:=by cases Mw<;>rfl
        obtain⟨hp,pX,qM⟩:=Mw.part (a:=j) (h:=m) (by omega) b2 (by omega);obtain⟨A2,c2,news,gM,rX,kR,kf⟩:=hp.reads hf;have hlen:((l.take m).drop j).length=m-j:=by rw[List.length_drop,lM];omega
        obtain⟨b,cap,gE,ey,lz,aO⟩:=hR.YY hm hf (p:=i) (ys:=(l.take m).drop j) (news:=news) (by rw[hlen];omega) b4 kf (by rw[hlen];exact hlen ▸ rX.1);rw[aM]at gE;injection gE with gE;injection gE with e1 e2 e3;subst e1 e2 e3;rw[hlen]at gM;have kS:sliced (some ⟨b,0,none⟩) 0 i c (aB tc) = .slice (some ⟨b,0,none⟩) i c:=YZ b i c _;obtain⟨ad,qL⟩:∃ ad,sliced (some ⟨b,0,none⟩) j m c (aB tc) = .slice (some ad) (m-j) (c-j):=by
         unfold sliced;by_cases Y0:c=j
         ·rw[bu Y0];exact⟨_,rfl⟩
         ·rw[bJ Y0];exact⟨_,rfl⟩
        have SC:A2=some ad:=by
         rw[dL,qL]at gM;injection gM with e1;exact e1.symm
        subst SC;have ur:news.length=(m-j)*inf.size:=by rw[rX.1,hlen,dx,dL]
        have bq:=run_append_room_cells (P:=P) w t ty e inf gi hi b 0 i c ad (m-j) (c-j) news ur (λk u hk=>by
         have dU:=(dJ.1 hk).1;have vo:0<((l.take m).drop j).length:=by
          rcases Nat.eq_zero_or_pos ((l.take m).drop j).length with h0|h0
          ·rw[rX.1,h0]at dU;omega
          ·exact h0
         obtain⟨b',pQ,e1,_,dZ⟩:=rX.2 vo;injection e1 with e1;subst e1;rw[Addr.add_lit];exact dZ k u hk) kR (by omega) (λk hk=>by rw[fQ,dx,<-dL];exact(lz k hk).1) (λk hk=>by rw[fQ,dx,<-dL];exact(lz k hk).2)
        refine⟨_,ah,ρ,_,by rw[kS,qL];exact bq,?_⟩;rw[fQ,dx,<-dL];exact aO.set ⟨some ⟨b,0,none⟩,l.length,c,by simp only[cE,aM],Nat.zero_le _,by omega,(YZ b _ c _).symm⟩ hd
      ·cases h
    ·cases h
  ·cases h
 ·cases h
theorem ahy{t:TypeId}{x y:A}{k:S->aj X}(h:Cv P N σ d t x y k=some r):∃ τ,k τ=some r/\∀ (X:Type) (k:S->aj X),Cv P N σ d t x y k=k τ:=by
 unfold Cv at h;split at h
 ·rename_i q s i q' s' j m;split at h
  ·rename_i e tc gN;cases hc:(Nat.beq q' q&&Nat.beq s (aB tc)&&Nat.beq s' (aB tc)&&Nat.beq (full tc) 0&&Nat.blt d N)with
   |false=>rw[hc]at h;cases h
   | true=>
    rw[hc,aq]at h;split at h
    ·rename_i t' g qn l hm;cases oh:(Nat.beq (full t') 0&&Nat.beq (aB t') (aB tc))with
     |false=>rw[oh]at h;cases h
     | true=>
      rw[oh,aq]at h;split at h
      ·rename_i hb
       refine⟨_,h,λX k=>?_⟩
       simp only[Cv,gN,hc,hm,oh,aq];rw[bu hb]
      ·cases h
    ·cases h
  ·cases h
 ·cases h
def Cw{X:Type}(P:Program)(σ:S)(t:TypeId)(x:A)(k:S->aj X):aj X:=
 match x with
 | .view [q] s i j=>(match wM P t with
  | some (e,tc)=>(match Mo P e tc with
   | some z=>(match σ.m q with
    |some (.sl (.sl t' (o+2) qn l))=>if h:tc=t' then (bif Nat.beq s (aB tc)&&Nat.beq (full tc) 0 then (if i<=j/\j<=l.length then k (σ.root q (.sl (.sl t' (o+2) qn (splice l i (List.replicate (j-i) (h ▸ z))))))else none)else none)else none
    |_=>none)
   |none=>none)
  |none=>none)
 |_=>none
theorem ahz{t ty:TypeId}{x:A}{k:S->aj X}(h:Cw P σ t x k=some r):∃ az,k az=some r/\∀ ah ρ a w,Rl w0 N ah ρ σ a w->∀ u,RA w w0.heap.size ah ρ x u->
  ∃w',(Builtin.clear_ #[t] ty #[u]).run P w = .ok (.tuple #[]) w'/\Rl w0 N ah ρ az a w':=by
 unfold Cw at h;split at h
 ·rename_i q s i j;split at h
  ·rename_i e tc gN;obtain⟨gi,ht,inf,hi,dx,lU⟩:=AB gN;split at h
   ·rename_i z hz;split at h
    ·rename_i t' g qn l hm;split at h
     ·rename_i gG;subst gG;cases hc:(Nat.beq s (aB tc)&&Nat.beq (full tc) 0)with
      |false=>rw[hc]at h;cases h
      | true=>
       rw[hc,aq]at h;rw[aJ]at hc;obtain rfl:=cz hc.1;have hf:=cz hc.2;split at h
       ·rename_i hb
        refine⟨_,h,λah ρ a w hR u hu=>?_⟩
        obtain⟨A,n,c,AD,a1,a2,rfl⟩:=hu;unfold Mo at hz;split at hz
        ·cases hz
        ·rename_i zv Cr;split at hz
         ·cases hz
         ·rename_i vs ia;have qI:inf.zero=some zv:=by unfold zeroOf at Cr;simpa [hi]using Cr
          obtain⟨o9,gF⟩:=Su _ _ ia;have hk:=nB tc (full tc) vs z hz;have gQ:zv.cells.size=aB tc:=by rw[<-lO tc (full tc) z,<-hk.1,o9];simp
          have hzr:∀w:World,(zeroValue e).run P w = .ok zv w:=λw=>by simp[zeroValue,typeInfo,hi,qI]
          rcases Nat.eq_zero_or_pos (j-i)with h0|h0
          ·have sQ:splice l i (List.replicate (j-i) z)=l:=by rw[h0];simp[splice]
           refine⟨w,?_,?_⟩
           ·unfold sliced;rw[h0];cases (if c=i then A else A.map (·.add (i*aB tc)))<;>simp[Builtin.clear_,jr gi]
           ·show Rl w0 N ah ρ (σ.root q (.sl (.sl tc (g+2) qn (splice l i (List.replicate (j-i) z))))) a w;rw[sQ];have:σ.root q (.sl (.sl tc (g+2) qn l))=σ:=by
             unfold S.root;have:bP σ.m q (some (.sl (.sl tc (g+2) qn l)))=σ.m:=by
              funext k;by_cases hk:k=q
              ·subst hk;rw[bY,hm]
              ·rw[cL _ _ _ hk]
             rw[this]
            rw[this];exact hR
          ·have qN:(Builtin.zeroCells zv.cells (j-i))=madeCells zv.cells ((j-i)*zv.cells.size):=rfl;have kf:yz tc (List.replicate (j-i) z) (Builtin.zeroCells zv.cells (j-i)).toList:=by
            intro i' h' o' j' x hx;rw[List.getElem_replicate]at hx;have hj:j'<aB tc:=by have:=(dJ.1 hx).1;rwa [lO]at this
            rw[nv]at h';have qD:=hj;rw[<-gQ]at qD;have lz:(Builtin.zeroCells zv.cells (j-i)).toList[i'*aB tc+j']?=some zv.cells[j']:=by
             rw[qN,nu,<-gQ];exact YU zv.cells _ i' j' qD (by
              have:(i'+1)*zv.cells.size<=(j-i)*zv.cells.size:=kz _ (by omega);rw[je]at this;omega)
            rw[ES tc hf o' (full tc)]at hx;have Ia:j'<(enc tc (full tc) z).length:=(dJ.1 hx).1;rw[<-hk.1]at Ia;have hy:=bT Ia;generalize vs[j']=y at hy;obtain⟨v,hv,Sv⟩:=gF j' y hy;have dY:zv.cells[j']=v:=by
             have e1:zv.cells.toList[j']?=some zv.cells[j']:=by simp[qD]
             rw[e1]at hv;injection hv
            have l7:∀(w':World) (B':Nat) (aC:bE) (q':af Nat),RV w' B' aC q' x v:=λw' B' aC q'=>(YS Sv _).wk (hk.2 j' y x hy hx)
            exact⟨_,lz,by rw[dY];exact(l7 w 0 (λ_=>none) []).one,λw' B' aC q'=>by rw[dY];exact l7 _ _ _ _⟩
           have ur:(Builtin.zeroCells zv.cells (j-i)).toList.length=(List.replicate (j-i) z).length*aB tc:=by rw[qN,nv,mX,size_madeCells,gQ]
           obtain⟨b,cap,aM,ey,lz,aO⟩:=hR.YY hm hf (p:=i) (ys:=List.replicate (j-i) z) (by rw[nv];omega) (by omega) kf ur;simp only[cE,aM]at AD;injection AD with AD;injection AD with e1 e2 e3;subst e1 e2 e3;refine⟨_,?_,aO⟩;have gM:sliced (some ⟨b,0,none⟩) i j cap (aB tc) = .slice (some ⟨b,i*aB tc,none⟩) (j-i) (cap-i):=by
            unfold sliced;rw[bJ (by omega),jU,Addr.add_lit,fQ]
           have jl:=run_storeCells_cells (P:=P) b (i*aB tc) (Builtin.zeroCells zv.cells (j-i)).toList 0 w (λk hk=>(lz k hk).1) (λk hk=>(lz k hk).2) (λv hv=>by
            obtain⟨k,hk⟩:=List.mem_iff_getElem?.1 hv;have dU:=(dJ.1 hk).1;rw[ur,nv]at dU;have vo:=qB tc;obtain⟨x,hx⟩:=Cs tc 0 z (k % aB tc) (Nat.mod_lt _ vo);have bC:k / aB tc<(List.replicate (j-i) z).length:=by rw[nv];exact Nat.div_lt_of_lt_mul (by rw[Nat.mul_comm];exact dU)
            obtain⟨v',dY,kR,_⟩:=kf (k / aB tc) bC 0 (k % aB tc) x (by rw[List.getElem_replicate];exact hx);rw[Nat.mul_comm,Nat.div_add_mod,hk]at dY;injection dY with dY;rw[dY];exact kR)
           simp only[Nat.add_zero]at jl;rw[gM];obtain⟨n',sR⟩:∃n',j-i=n'+1:=⟨j-i-1,by omega⟩
           rw[sR]at jl ⊢;simp[Builtin.clear_,jr gi,hzr,jl]
       ·cases h
     ·cases h
    ·cases h
   ·cases h
  ·cases h
 ·cases h
theorem ahA{t:TypeId}{x:A}{k:S->aj X}(h:Cw P σ t x k=some r):∃ τ,k τ=some r/\∀ (X:Type) (k:S->aj X),Cw P σ t x k=k τ:=by
 unfold Cw at h;split at h
 ·rename_i q s i j;split at h
  ·rename_i e tc gN;split at h
   ·rename_i z hz;split at h
    ·rename_i t' g qn l hm;split at h
     ·rename_i gG;subst gG;cases hc:(Nat.beq s (aB tc)&&Nat.beq (full tc) 0)with
      |false=>rw[hc]at h;cases h
      | true=>
       rw[hc,aq]at h;split at h
       ·rename_i hb
        refine⟨_,h,λX k=>?_⟩
        simp only[Cw,gN,hz,hm,hc,aq,dite_true];rw[bu hb]
       ·cases h
     ·cases h
    ·cases h
   ·cases h
  ·cases h
 ·cases h
end
end Go.Proofs.YtcioagfjiccleaaGreat
namespace Go.Proofs.YtcioagfjiccleaaGreat
open Go.RowKit
set_option linter.unusedVariables false
def AE(place:Nat->aj (Nat×Nat))(cells:af Lf):af (Nat×A)->aj (af Lf)
 |[]=>some cells
 | (i,x) :: rest=>match place i,x.Az with
  |some (off,n),some xs=>if xs.length=n/\off+n<=cells.length then (bif xs.all Lf.live then AE place (splice cells off xs) rest else none)else none
  |_,_=>none
def Y1(P:Program)(t:TypeId):aj (Nat->aj (Nat×Nat)):=
 match P.underlying t with
 |some (.array _ e)=>(P.info? e).map λie=>λi=>some (i*ie.size,ie.size)
 |some (.struct fields)=>(fields.toList.mapM (λf=>(P.info? f.type).map λi=>(f.offset,i.size))).map λps=>(ps.toArray[·]?)
 |_=>none
def wN{X:Type}(P:Program)(σ:S)(t:TypeId)(parts:af (Nat×Operand))(k:A->aj X):aj X:=
 match zeroOf P t,Y1 P t with
 | some z,some pl=>match AE pl (z.cells.toList.map ke) (parts.map λp=>(p.1,aF σ p.2))with
  |some cs=>k (.agg cs)
  |none=>none
 |_,_=>none
def Lf.asV:Lf->aj V
 |.v x=>some x
 |_=>none
def wO:af Lf->aj (af V)
 |[]=>some []
 | x :: xs=>match x.asV,wO xs with
  |some y,some ys=>some (y::ys)
  |_,_=>none
def Ib(t:TC)(g:Nat):Nat->af V->aj (af (T t))
 |0,[]=>some []
 |0,_=>none
 | n+1,vs=>match dec t g (vs.take (aB t)),Ib t g n (vs.drop (aB t))with
  |some x,some xs=>some (x::xs)
  |_,_=>none
def Cx{X:Type}(P:Program)(N:Nat)(σ:S)(d:Nat)(t:TypeId)(len:Nat)(parts:af (Nat×Operand))(k:S->aj X):aj X:=
 match wM P t with
 | some (e,tc)=>match zeroOf P e with
  | some z=>bif Nat.beq (full tc) 0&&Nat.beq z.cells.size (aB tc)&&Nat.blt (len*aB tc) 16777217 then (match AE (λi=>some (i*aB tc,aB tc)) (List.replicate len (z.cells.toList.map ke)).flatten (parts.map λp=>(p.1,aF σ p.2))with
   | some cs=>(match wO cs with
    | some vs=>(match Ib tc 0 len vs with
     |some l=>jO N σ d (.sl (.sl tc 2 true l)) (.lf (.own [d])) k
     |none=>none)
    |none=>none)
   |none=>none)else none
  |none=>none
 |none=>none
section
variable {P:Program} {w w':World} {w0:Wd} {B N:Nat} {ah aC:bE} {ρ ρ':Nat->Loc} {σ:S} {a:Act} {X:Type} {d:Nat} {r:X}
theorem Y2(off:Nat):∀ (l:af Value) (n:Nat) (cs:Array Value),off+n+l.length<=cs.size->
  ((l.zipIdx n).foldl (λ(cs:Array Value) (p:Value×Nat)=>cs.setIfInBounds (off+p.2) p.1) cs).toList=splice cs.toList (off+n) l
 |[],n,cs,_=>by simp[splice]
 | v :: l,n,cs,h=>by
  simp only[n9]at h;rw[List.zipIdx_cons,List.foldl_cons,Y2 off l (n+1) (cs.setIfInBounds (off+n) v) (by simp;omega)];have bC:off+n<cs.toList.length:=by simp;omega
  simp only[splice,Array.toList_setIfInBounds,n9];have e1:(cs.toList.set (off+n) v).take (off+(n+1))=cs.toList.take (off+n)++[v]:=by
   rw[show off+(n+1)=off+n+1 by omega,List.take_succ_eq_append_getElem (by simpa using bC),List.getElem_set_self,List.take_set_of_le (gZ _)]
  have e2:(cs.toList.set (off+n) v).drop (off+(n+1)+l.length)=cs.toList.drop (off+(n+1)+l.length):=by
   rw[List.drop_set_of_lt (by omega)]
  rw[e1,e2,show off+n+(l.length+1)=off+(n+1)+l.length by omega];simp
theorem eB.splice{cs xs:af Lf}{cv xv:Array Value}(h:eB w B ah ρ cs cv)(hx:eB w B ah ρ xs xv){off:Nat}(hf:off+xs.length<=cs.length){gW:Array Value}(hc:gW.toList=Proofs.YtcioagfjiccleaaGreat.splice cv.toList off xv.toList):eB w B ah ρ (Proofs.YtcioagfjiccleaaGreat.splice cs off xs) gW:=by
 have Y3:off+xv.toList.length<=cv.toList.length:=by rw[mX,mX,hx.1,h.1];exact hf
 refine⟨?_,λj x hj=>?_⟩
 ·rw[uh _ _ _ hf,<-mX,hc,uh _ _ _ Y3,mX,h.1]
 ·have e:gW[j]?=(Proofs.YtcioagfjiccleaaGreat.splice cv.toList off xv.toList)[j]?:=by rw[<-hc,nu]
  rw[e,yf _ _ _ Y3,mX,hx.1];rw[yf _ _ _ hf]at hj;by_cases h1:j<off
  ·simp only[h1,if_true,nu]at hj ⊢;exact h.2 j x hj
  ·by_cases h2:j<off+xs.length
   ·simp only[h1,h2,if_true,if_false,nu]at hj ⊢;exact hx.2 _ x hj
   ·simp only[h1,h2,if_false,nu]at hj ⊢;exact h.2 j x hj
theorem Mx{place:Nat->aj (Nat×Nat)}:∀ (parts:af (Nat×A)) (cells:af Lf) (cv:Array Value) (vs:af (Nat×Value)) (out:af Lf),AE place cells parts=some out->eB w B ah ρ cells cv->vs.length=parts.length->
  (∀(j:Nat) p q,parts[j]?=some p->vs[j]?=some q->p.1=q.1/\RA w B ah ρ p.2 q.2)->∃gW,Instr.fill place cv vs=some gW/\eB w B ah ρ out gW
 | [],cells,cv,vs,out,h,hR,hl,hp=>by
  have:vs=[]:=List.eq_nil_of_length_eq_zero hl;subst this;injection h with h;subst h;exact⟨cv,rfl,hR⟩
 | (i,x) :: rest,cells,cv,vs,out,h,hR,hl,hp=>by
  cases vs with
  |nil=>simp at hl
  | cons v vs=>
   obtain⟨i',v⟩:=v;obtain⟨e,hx⟩:=hp 0 _ _ rfl rfl;simp only at e hx;subst e;unfold AE at h;split at h
   ·rename_i off n xs iP iQ;split at h
    ·rename_i hb;cases jC:xs.all Lf.live with
     |false=>rw[jC]at h;cases h
     | true=>
      rw[jC,aq]at h;obtain⟨Y4,_⟩:=HV iQ jC hx;have sV:v.cells.size=n:=by rw[Y4.1];exact hb.1
      have ji:¬ (off+v.cells.size > cv.size):=by rw[sV,hR.1];omega
      have ahB:(v.cells.zipIdx.foldl (λ(cs:Array Value) (p:Value×Nat)=>cs.setIfInBounds (off+p.2) p.1) cv).toList=Proofs.YtcioagfjiccleaaGreat.splice cv.toList off v.cells.toList:=by
       have:=Y2 off v.cells.toList 0 cv (by rw[mX];omega);rw[<-Array.foldl_toList,Array.toList_zipIdx];exact this
      have sQ:=hR.splice Y4 (off:=off) (by rw[hb.1];exact hb.2) ahB;obtain⟨gW,rU,aO⟩:=Mx rest _ _ vs out h sQ (by simpa using hl) (λj p q My m0=>hp (j+1) p q (by simpa using My) (by simpa using m0));refine⟨gW,?_,aO⟩;have bg:(v.cells.size≠n || off+v.cells.size > cv.size)=false:=by
       simp only[sV,ne_eq,not_true_eq_false,decide_false,Bool.false_or,oW];rw[<-sV];exact ji
      simp only[Instr.fill,iP];rw[bJ (by rw[bg];simp)];exact rU
    ·cases h
   ·cases h
theorem ahC(z:Value):eB w B ah ρ (z.cells.toList.map ke) z.cells:=by
 refine⟨by simp,λj x hx=>?_⟩
 rw[dH]at hx;cases hv:z.cells.toList[j]? with
 |none=>rw[hv]at hx;cases hx
 | some v=>
  rw[hv]at hx;injection hx with hx;subst hx;exact⟨v,by simpa using hv,Mq v⟩
theorem ahD{t:TypeId}{parts:Array (Nat×Operand)}{k:A->aj X}(h:wN P σ t parts.toList k=some r):∃ y,k y=some r/\∀ ah ρ a w,Rl w0 N ah ρ σ a w->
  ∃v,(Instr.build t (parts.map λ(i,x)=>(i,a.eval x))).run P w = .ok v w/\RA w w0.heap.size ah ρ y v:=by
 unfold wN at h;split at h
 ·rename_i z pl hz iP;split at h
  ·rename_i cs dL
   refine⟨_,h,λah ρ a w hR=>?_⟩
   obtain⟨gW,hf,aO⟩:=Mx (w:=w) (B:=w0.heap.size) (ah:=ah) (ρ:=ρ) _ _ z.cells (parts.toList.map λp=>(p.1,a.eval p.2)) cs dL (ahC z) (by simp) (λj p q hp hq=>by
    rw[dH]at hp hq;cases hx:parts.toList[j]? with
    |none=>rw[hx]at hp;cases hp
    | some x=>
     rw[hx]at hp hq;injection hp with hp;injection hq with hq;subst hp hq;exact⟨rfl,hR.aF x.2⟩)
   refine⟨_,run_build (P:=P) w t _ gW ?_,gW,rfl,aO⟩;have Ic:(parts.map λ(i,x)=>(i,a.eval x)).toList=parts.toList.map λp=>(p.1,a.eval p.2):=by simp
   rw[Ic];unfold zeroOf at hz;unfold Program.built;cases hi:P.info? t with
   |none=>simp[hi]at hz
   | some i=>
    have hz:i.zero=some z:=by simpa [hi]using hz
    unfold Y1 at iP;split at iP
    ·rename_i n e hu;cases SD:P.info? e with
     |none=>simp[SD]at iP
     | some ie=>
      rw[SD]at iP;injection iP with iP;subst iP;simp only[hu,hz,SD];exact hf
    ·rename_i fields hu;cases hp:fields.toList.mapM (λf=>(P.info? f.type).map λi=>(f.offset,i.size))with
     |none=>rw[hp]at iP;cases iP
     | some ps=>
      rw[hp]at iP;injection iP with iP;subst iP;simp only[hu,hz,hp];exact hf
    ·cases iP
  ·cases h
 ·cases h
theorem Mz:∀ (cs:af Lf) (vs:af V),wO cs=some vs->cs=vs.map .v
 |[],vs,h=>by injection h with h;subst h;rfl
 | x :: xs,vs,h=>by
  unfold wO at h;split at h
  next y ys hy m7=>injection h with h;subst h;rw[Mz xs ys m7,kN];cases x<;>first|(injection hy with hy;rw[hy])|cases hy
  ·cases h
theorem SE(t:TC)(g:Nat):∀ (n:Nat) (vs:af V) (l:af (T t)),Ib t g n vs=some l->l.length=n/\vs.length=n*aB t/\∀ i (hi:i<l.length) (j:Nat) x,(enc t g l[i])[j]?=some x->∃ y,vs[i*aB t+j]?=some y/\Wk y x
 | 0,[],l,h=>by
  injection h with h;subst h;exact⟨rfl,by simp,λi hi=>by simp at hi⟩
 |0,_::_,l,h=>by cases h
 | n+1,vs,l,h=>by
  unfold Ib at h;split at h
  ·rename_i x xs hx iQ;injection h with h;subst h;obtain⟨h1,h2,h3⟩:=SE t g n _ xs iQ;have hk:=nB t g _ x hx;have hlen:(vs.take (aB t)).length=aB t:=by rw[hk.1,lO]
   have oZ:aB t<=vs.length:=by rw[lM]at hlen;omega
   refine⟨by simp[h1],?_,λi hi j y hy=>?_⟩
   ·rw[List.length_drop]at h2;rw[je];omega
   ·cases i with
    | zero=>
     simp only[List.getElem_cons_zero]at hy;have hj:j<aB t:=by have:=(dJ.1 hy).1;rwa [lO]at this
     have fP:=bT (l:=vs.take (aB t)) (i:=j) (by rw[hlen];exact hj);refine⟨_,?_,hk.2 j _ y fP hy⟩;rw[List.getElem?_take,bu hj]at fP;rw[Nat.zero_mul,fQ];exact fP
    | succ i=>
     simp only[List.getElem_cons_succ]at hy;obtain⟨z,hz,hw⟩:=h3 i (by simpa using hi) j y hy;refine⟨z,?_,hw⟩;rw[List.getElem?_drop]at hz;rw[je,show i*aB t+aB t+j=aB t+(i*aB t+j) by omega];exact hz
  ·cases h
end
end Go.Proofs.YtcioagfjiccleaaGreat
