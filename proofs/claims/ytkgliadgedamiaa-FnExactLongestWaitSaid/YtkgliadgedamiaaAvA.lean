/-
  Values by their contents, and how memory bears them: 'RV' says that a cell's value stands for such contents. Nothing here is a claim.
-/
import Derived.Test.YtkgliadgedamiaaAppend
namespace Go.Proofs.Ytkgliadgedamiaa
open Go.RowKit
set_option linter.unusedVariables false
set_option linter.unusedSimpArgs false

structure DGeometry where
  groups : Int
  banks : Int
  rows : Int
  cols : Int
structure DAddr where
  bank : Int
  row : Int
  col : Int
structure DMapping where
  order : Int
  hash : Bool
structure DPartition where
  owner : List Int
structure DCommand where
  kind : Int
  bank : Int
  row : Int
  col : Int
structure DTiming where
  rcd : Int
  rp : Int
  ras : Int
  rrds : Int
  rrdl : Int
  faw : Int
  ccds : Int
  ccdl : Int
  rtp : Int
  wr : Int
  wtrs : Int
  wtrl : Int
  rtw : Int
  rfc : Int
  cke : Int
  xp : Int
  xs : Int
structure DBank where
  open_ : Bool
  row : Int
structure DRank where
  banks : List DBank
  power : Int
structure DEvent where
  at_ : Int
  cmd : DCommand
structure DReady where
  last : List Int
  acts : List Int
structure DCell where
  symbols : List Int
  poison : Bool
structure DArray where
  cells : List DCell
  age : List Int
  hits : List Int
structure DLimits where
  age : Int
  hits : Int
structure DTracker where
  rows : List Int
  counts : List Int
  spill : Int
structure DSpare where
  spares : Int
  map : List Int
structure DRefresh where
  debt : List Int
  wait : Int
  hot : Bool
structure DReq where
  id : Int
  tenant : Int
  line : Int
  write : Bool
  data : Int
  at_ : Int
structure DShare where
  weight : Int
  credit : Int
structure DDrain where
  on : Bool
  low : Int
  high : Int
structure DSlots where
  owner : List Int
  length : Int
structure DServed where
  id : Int
  at_ : Int
structure DPower where
  state : Int
  since : Int
  idle : Int
structure DPowerRule where
  down : Int
  sleep : Int
structure DErrorEntry where
  line : Int
  code : Int
  times : Int
structure DLogStore where
  slots : List ByteArray
structure DSender where
  frames : List Int
  next : Int
structure DReceiver where
  count : Int
  commands : List DCommand
structure DNode where
  count : Int
  tag : Int
structure DTree where
  root : Int
  mid : List DNode
  leaf : List DNode
structure DSecure where
  key : Int
  tree : DTree
  data : List Int
  tags : List Int
structure DScrubber where
  next : Int
  every : Int
  wait : Int
structure DTicket where
  index : Int
  before : DCell
  after : DCell
  code : Int
structure DMove where
  bank : Int
  from_ : Int
  to : Int
  next : Int
structure DPolicy where
  page : Int
  cap : Int
  limit : Int
  low : Int
  high : Int
  weights : List Int
  rule : DPowerRule
structure DPolicyBox where
  active : DPolicy
  next : DPolicy
  waits : Bool
structure DConfig where
  geometry : DGeometry
  timing : DTiming
  mapping : DMapping
  spares : Int
  interval : Int
  track : Int
  limits : DLimits
structure DRep where
  id : Int
  at_ : Int
  data : Int
  code : Int
structure DController where
  config : DConfig
  box : DPolicyBox
  now : Int
  rank : DRank
  ready : DReady
  array : DArray
  spare : DSpare
  refresh : DRefresh
  trackers : List DTracker
  guard : List Int
  pending : List DAddr
  queue : List DReq
  shares : List DShare
  drain : DDrain
  power : DPower
  scrubber : DScrubber
  errors : List DErrorEntry
  trace : List DEvent
  replies : List DRep
structure DAct where
  kind : Int
  request : DReq
  n : Int
  chip : Int
  addr : DAddr
  policy : DPolicy
structure DFact where
  line : Int
  data : Int
  code : Int
/-- The codes of the types. -/
inductive TC where
  | int | u8 | bool | str
  | Geometry
  | Addr
  | Mapping
  | Partition
  | Command
  | Timing
  | Bank
  | Rank
  | Event
  | Ready
  | Cell
  | Array
  | Limits
  | Tracker
  | Spare
  | Refresh
  | Req
  | Share
  | Drain
  | Slots
  | Served
  | Power
  | PowerRule
  | ErrorEntry
  | LogStore
  | Sender
  | Receiver
  | Node
  | Tree
  | Secure
  | Scrubber
  | Ticket
  | Move
  | Policy
  | PolicyBox
  | Config
  | Rep
  | Controller
  | Act
  | Fact
  | sl (t : TC)
deriving DecidableEq
def T : TC → Type
  | .int => Int
  | .u8 => Int
  | .bool => Bool
  | .str => ByteArray
  | .Geometry => DGeometry
  | .Addr => DAddr
  | .Mapping => DMapping
  | .Partition => DPartition
  | .Command => DCommand
  | .Timing => DTiming
  | .Bank => DBank
  | .Rank => DRank
  | .Event => DEvent
  | .Ready => DReady
  | .Cell => DCell
  | .Array => DArray
  | .Limits => DLimits
  | .Tracker => DTracker
  | .Spare => DSpare
  | .Refresh => DRefresh
  | .Req => DReq
  | .Share => DShare
  | .Drain => DDrain
  | .Slots => DSlots
  | .Served => DServed
  | .Power => DPower
  | .PowerRule => DPowerRule
  | .ErrorEntry => DErrorEntry
  | .LogStore => DLogStore
  | .Sender => DSender
  | .Receiver => DReceiver
  | .Node => DNode
  | .Tree => DTree
  | .Secure => DSecure
  | .Scrubber => DScrubber
  | .Ticket => DTicket
  | .Move => DMove
  | .Policy => DPolicy
  | .PolicyBox => DPolicyBox
  | .Config => DConfig
  | .Rep => DRep
  | .Controller => DController
  | .Act => DAct
  | .Fact => DFact
  | .sl t => List (T t)
def csz : TC → Nat
  | .Geometry => 4
  | .Addr => 3
  | .Mapping => 2
  | .Partition => 1
  | .Command => 4
  | .Timing => 17
  | .Bank => 2
  | .Rank => 2
  | .Event => 5
  | .Ready => 2
  | .Cell => 2
  | .Array => 3
  | .Limits => 2
  | .Tracker => 3
  | .Spare => 2
  | .Refresh => 3
  | .Req => 6
  | .Share => 2
  | .Drain => 3
  | .Slots => 2
  | .Served => 2
  | .Power => 3
  | .PowerRule => 2
  | .ErrorEntry => 3
  | .LogStore => 1
  | .Sender => 2
  | .Receiver => 2
  | .Node => 2
  | .Tree => 3
  | .Secure => 6
  | .Scrubber => 3
  | .Ticket => 6
  | .Move => 4
  | .Policy => 8
  | .PolicyBox => 17
  | .Config => 28
  | .Rep => 4
  | .Controller => 75
  | .Act => 20
  | .Fact => 3
  | _ => 1
/-- The number of a type in this program (0 where the program does not have it). -/
def tid : TC → TypeId
  | .int => 3
  | .u8 => 5
  | .bool => 4
  | .str => 9
  | .Geometry => 62
  | .Addr => 0
  | .Mapping => 0
  | .Partition => 0
  | .Command => 72
  | .Timing => 0
  | .Bank => 117
  | .Rank => 67
  | .Event => 0
  | .Ready => 0
  | .Cell => 0
  | .Array => 0
  | .Limits => 0
  | .Tracker => 0
  | .Spare => 0
  | .Refresh => 0
  | .Req => 81
  | .Share => 139
  | .Drain => 125
  | .Slots => 0
  | .Served => 0
  | .Power => 0
  | .PowerRule => 31
  | .ErrorEntry => 0
  | .LogStore => 0
  | .Sender => 0
  | .Receiver => 0
  | .Node => 0
  | .Tree => 0
  | .Secure => 0
  | .Scrubber => 0
  | .Ticket => 0
  | .Move => 0
  | .Policy => 33
  | .PolicyBox => 36
  | .Config => 0
  | .Rep => 83
  | .Controller => 0
  | .Act => 0
  | .Fact => 130
  | .sl .int => 29
  | .sl .bool => 0
  | .sl .str => 0
  | _ => 0

/-- What one cell holds, by its contents. A slice bears the code of its elements' type, a grade (0: nobody writes it any more; 1: so, and it lies in memory of the call's own; g + 2: it is owned, and what its elements lead to has grade g), whether it is surely not nil, and its elements. -/
inductive V where
  | int (k : IntKind) (n : Int)
  | bool (b : Bool)
  | str (s : ByteArray)
  | nil
  | sl (t : TC) (o : Nat) (q : Bool) (l : List (T t))

def V.asI : V → Option Int | .int .i64 n => some n | _ => none
def V.asU8 : V → Option Int | .int .u8 n => some n | _ => none
def V.asB : V → Option Bool | .bool b => some b | _ => none
def V.asS : V → Option ByteArray | .str s => some s | _ => none
def V.asL (t : TC) (o : Nat) : V → Option (List (T t))
  | .sl t' o' _ l => if o' = o then (if h : t' = t then some (h ▸ l) else none) else none
  | .nil => some []
  | _ => none

/-- y says no more than x. -/
inductive Wk : V → V → Prop
  | same (x : V) : Wk x x
  | nil (t : TC) (o : Nat) : Wk .nil (.sl t o false [])
  | q (t : TC) (o : Nat) (l : List (T t)) : Wk (.sl t o true l) (.sl t o false l)
def Wks (xs ys : List V) : Prop := xs.length = ys.length ∧ ∀ (j : Nat) (x y : V), xs[j]? = some x → ys[j]? = some y → Wk x y
theorem Wks.nil : Wks [] [] := ⟨rfl, by simp⟩
theorem Wks.cons {x y : V} {xs ys : List V} (h : Wk x y) (k : Wks xs ys) : Wks (x :: xs) (y :: ys) := by
  refine ⟨by simp [k.1], fun j a b ha hb => ?_⟩
  cases j with
  | zero => simp at ha hb; subst ha; subst hb; exact h
  | succ j => simp at ha hb; exact k.2 j a b ha hb
theorem V.asI_ok {x : V} {n : Int} (h : x.asI = some n) : Wk x (.int .i64 n) := by
  unfold V.asI at h; split at h <;> first | (injection h with h; subst h; exact .same _) | cases h
theorem V.asU8_ok {x : V} {n : Int} (h : x.asU8 = some n) : Wk x (.int .u8 n) := by
  unfold V.asU8 at h; split at h <;> first | (injection h with h; subst h; exact .same _) | cases h
theorem V.asB_ok {x : V} {n : Bool} (h : x.asB = some n) : Wk x (.bool n) := by
  unfold V.asB at h; split at h <;> first | (injection h with h; subst h; exact .same _) | cases h
theorem V.asS_ok {x : V} {n : ByteArray} (h : x.asS = some n) : Wk x (.str n) := by
  unfold V.asS at h; split at h <;> first | (injection h with h; subst h; exact .same _) | cases h
theorem V.asL_ok {x : V} {t : TC} {o : Nat} {l : List (T t)} (h : x.asL t o = some l) : Wk x (.sl t o false l) := by
  unfold V.asL at h
  split at h
  · rename_i t' o' q l'
    split at h
    · rename_i ho
      split at h
      · rename_i ht
        subst ht; subst ho
        injection h with h
        subst h
        cases q
        · exact .same _
        · exact .q _ _ _
      · cases h
    · cases h
  · injection h with h; subst h; exact .nil _ _
  · cases h

def encGeometry (o : Nat) (x : DGeometry) : List V := [.int .i64 x.groups, .int .i64 x.banks, .int .i64 x.rows, .int .i64 x.cols]
def encAddr (o : Nat) (x : DAddr) : List V := [.int .i64 x.bank, .int .i64 x.row, .int .i64 x.col]
def encMapping (o : Nat) (x : DMapping) : List V := [.int .i64 x.order, .bool x.hash]
def encPartition (o : Nat) (x : DPartition) : List V := [.sl .int o false x.owner]
def encCommand (o : Nat) (x : DCommand) : List V := [.int .i64 x.kind, .int .i64 x.bank, .int .i64 x.row, .int .i64 x.col]
def encTiming (o : Nat) (x : DTiming) : List V := [.int .i64 x.rcd, .int .i64 x.rp, .int .i64 x.ras, .int .i64 x.rrds, .int .i64 x.rrdl, .int .i64 x.faw, .int .i64 x.ccds, .int .i64 x.ccdl, .int .i64 x.rtp, .int .i64 x.wr, .int .i64 x.wtrs, .int .i64 x.wtrl, .int .i64 x.rtw, .int .i64 x.rfc, .int .i64 x.cke, .int .i64 x.xp, .int .i64 x.xs]
def encBank (o : Nat) (x : DBank) : List V := [.bool x.open_, .int .i64 x.row]
def encRank (o : Nat) (x : DRank) : List V := [.sl .Bank o false x.banks, .int .i64 x.power]
def encEvent (o : Nat) (x : DEvent) : List V := [.int .i64 x.at_, .int .i64 x.cmd.kind, .int .i64 x.cmd.bank, .int .i64 x.cmd.row, .int .i64 x.cmd.col]
def encReady (o : Nat) (x : DReady) : List V := [.sl .int o false x.last, .sl .int o false x.acts]
def encCell (o : Nat) (x : DCell) : List V := [.sl .int o false x.symbols, .bool x.poison]
def encArray (o : Nat) (x : DArray) : List V := [.sl .Cell o false x.cells, .sl .int o false x.age, .sl .int o false x.hits]
def encLimits (o : Nat) (x : DLimits) : List V := [.int .i64 x.age, .int .i64 x.hits]
def encTracker (o : Nat) (x : DTracker) : List V := [.sl .int o false x.rows, .sl .int o false x.counts, .int .i64 x.spill]
def encSpare (o : Nat) (x : DSpare) : List V := [.int .i64 x.spares, .sl .int o false x.map]
def encRefresh (o : Nat) (x : DRefresh) : List V := [.sl .int o false x.debt, .int .i64 x.wait, .bool x.hot]
def encReq (o : Nat) (x : DReq) : List V := [.int .i64 x.id, .int .i64 x.tenant, .int .i64 x.line, .bool x.write, .int .i64 x.data, .int .i64 x.at_]
def encShare (o : Nat) (x : DShare) : List V := [.int .i64 x.weight, .int .i64 x.credit]
def encDrain (o : Nat) (x : DDrain) : List V := [.bool x.on, .int .i64 x.low, .int .i64 x.high]
def encSlots (o : Nat) (x : DSlots) : List V := [.sl .int o false x.owner, .int .i64 x.length]
def encServed (o : Nat) (x : DServed) : List V := [.int .i64 x.id, .int .i64 x.at_]
def encPower (o : Nat) (x : DPower) : List V := [.int .i64 x.state, .int .i64 x.since, .int .i64 x.idle]
def encPowerRule (o : Nat) (x : DPowerRule) : List V := [.int .i64 x.down, .int .i64 x.sleep]
def encErrorEntry (o : Nat) (x : DErrorEntry) : List V := [.int .i64 x.line, .int .i64 x.code, .int .i64 x.times]
def encLogStore (o : Nat) (x : DLogStore) : List V := [.sl .str o false x.slots]
def encSender (o : Nat) (x : DSender) : List V := [.sl .int o false x.frames, .int .i64 x.next]
def encReceiver (o : Nat) (x : DReceiver) : List V := [.int .i64 x.count, .sl .Command o false x.commands]
def encNode (o : Nat) (x : DNode) : List V := [.int .i64 x.count, .int .i64 x.tag]
def encTree (o : Nat) (x : DTree) : List V := [.int .i64 x.root, .sl .Node o false x.mid, .sl .Node o false x.leaf]
def encSecure (o : Nat) (x : DSecure) : List V := [.int .i64 x.key, .int .i64 x.tree.root, .sl .Node o false x.tree.mid, .sl .Node o false x.tree.leaf, .sl .int o false x.data, .sl .int o false x.tags]
def encScrubber (o : Nat) (x : DScrubber) : List V := [.int .i64 x.next, .int .i64 x.every, .int .i64 x.wait]
def encTicket (o : Nat) (x : DTicket) : List V := [.int .i64 x.index, .sl .int o false x.before.symbols, .bool x.before.poison, .sl .int o false x.after.symbols, .bool x.after.poison, .int .i64 x.code]
def encMove (o : Nat) (x : DMove) : List V := [.int .i64 x.bank, .int .i64 x.from_, .int .i64 x.to, .int .i64 x.next]
def encPolicy (o : Nat) (x : DPolicy) : List V := [.int .i64 x.page, .int .i64 x.cap, .int .i64 x.limit, .int .i64 x.low, .int .i64 x.high, .sl .int o false x.weights, .int .i64 x.rule.down, .int .i64 x.rule.sleep]
def encPolicyBox (o : Nat) (x : DPolicyBox) : List V := [.int .i64 x.active.page, .int .i64 x.active.cap, .int .i64 x.active.limit, .int .i64 x.active.low, .int .i64 x.active.high, .sl .int o false x.active.weights, .int .i64 x.active.rule.down, .int .i64 x.active.rule.sleep, .int .i64 x.next.page, .int .i64 x.next.cap, .int .i64 x.next.limit, .int .i64 x.next.low, .int .i64 x.next.high, .sl .int o false x.next.weights, .int .i64 x.next.rule.down, .int .i64 x.next.rule.sleep, .bool x.waits]
def encConfig (o : Nat) (x : DConfig) : List V := [.int .i64 x.geometry.groups, .int .i64 x.geometry.banks, .int .i64 x.geometry.rows, .int .i64 x.geometry.cols, .int .i64 x.timing.rcd, .int .i64 x.timing.rp, .int .i64 x.timing.ras, .int .i64 x.timing.rrds, .int .i64 x.timing.rrdl, .int .i64 x.timing.faw, .int .i64 x.timing.ccds, .int .i64 x.timing.ccdl, .int .i64 x.timing.rtp, .int .i64 x.timing.wr, .int .i64 x.timing.wtrs, .int .i64 x.timing.wtrl, .int .i64 x.timing.rtw, .int .i64 x.timing.rfc, .int .i64 x.timing.cke, .int .i64 x.timing.xp, .int .i64 x.timing.xs, .int .i64 x.mapping.order, .bool x.mapping.hash, .int .i64 x.spares, .int .i64 x.interval, .int .i64 x.track, .int .i64 x.limits.age, .int .i64 x.limits.hits]
def encRep (o : Nat) (x : DRep) : List V := [.int .i64 x.id, .int .i64 x.at_, .int .i64 x.data, .int .i64 x.code]
def encController (o : Nat) (x : DController) : List V := [.int .i64 x.config.geometry.groups, .int .i64 x.config.geometry.banks, .int .i64 x.config.geometry.rows, .int .i64 x.config.geometry.cols, .int .i64 x.config.timing.rcd, .int .i64 x.config.timing.rp, .int .i64 x.config.timing.ras, .int .i64 x.config.timing.rrds, .int .i64 x.config.timing.rrdl, .int .i64 x.config.timing.faw, .int .i64 x.config.timing.ccds, .int .i64 x.config.timing.ccdl, .int .i64 x.config.timing.rtp, .int .i64 x.config.timing.wr, .int .i64 x.config.timing.wtrs, .int .i64 x.config.timing.wtrl, .int .i64 x.config.timing.rtw, .int .i64 x.config.timing.rfc, .int .i64 x.config.timing.cke, .int .i64 x.config.timing.xp, .int .i64 x.config.timing.xs, .int .i64 x.config.mapping.order, .bool x.config.mapping.hash, .int .i64 x.config.spares, .int .i64 x.config.interval, .int .i64 x.config.track, .int .i64 x.config.limits.age, .int .i64 x.config.limits.hits, .int .i64 x.box.active.page, .int .i64 x.box.active.cap, .int .i64 x.box.active.limit, .int .i64 x.box.active.low, .int .i64 x.box.active.high, .sl .int o false x.box.active.weights, .int .i64 x.box.active.rule.down, .int .i64 x.box.active.rule.sleep, .int .i64 x.box.next.page, .int .i64 x.box.next.cap, .int .i64 x.box.next.limit, .int .i64 x.box.next.low, .int .i64 x.box.next.high, .sl .int o false x.box.next.weights, .int .i64 x.box.next.rule.down, .int .i64 x.box.next.rule.sleep, .bool x.box.waits, .int .i64 x.now, .sl .Bank o false x.rank.banks, .int .i64 x.rank.power, .sl .int o false x.ready.last, .sl .int o false x.ready.acts, .sl .Cell o false x.array.cells, .sl .int o false x.array.age, .sl .int o false x.array.hits, .int .i64 x.spare.spares, .sl .int o false x.spare.map, .sl .int o false x.refresh.debt, .int .i64 x.refresh.wait, .bool x.refresh.hot, .sl .Tracker o false x.trackers, .sl .int o false x.guard, .sl .Addr o false x.pending, .sl .Req o false x.queue, .sl .Share o false x.shares, .bool x.drain.on, .int .i64 x.drain.low, .int .i64 x.drain.high, .int .i64 x.power.state, .int .i64 x.power.since, .int .i64 x.power.idle, .int .i64 x.scrubber.next, .int .i64 x.scrubber.every, .int .i64 x.scrubber.wait, .sl .ErrorEntry o false x.errors, .sl .Event o false x.trace, .sl .Rep o false x.replies]
def encAct (o : Nat) (x : DAct) : List V := [.int .i64 x.kind, .int .i64 x.request.id, .int .i64 x.request.tenant, .int .i64 x.request.line, .bool x.request.write, .int .i64 x.request.data, .int .i64 x.request.at_, .int .i64 x.n, .int .i64 x.chip, .int .i64 x.addr.bank, .int .i64 x.addr.row, .int .i64 x.addr.col, .int .i64 x.policy.page, .int .i64 x.policy.cap, .int .i64 x.policy.limit, .int .i64 x.policy.low, .int .i64 x.policy.high, .sl .int o false x.policy.weights, .int .i64 x.policy.rule.down, .int .i64 x.policy.rule.sleep]
def encFact (o : Nat) (x : DFact) : List V := [.int .i64 x.line, .int .i64 x.data, .int .i64 x.code]
/-- The cells of a value; o: the grade of its slices. -/
def enc : (t : TC) → (o : Nat) → T t → List V
  | .int, _, x => [.int .i64 x]
  | .u8, _, x => [.int .u8 x]
  | .bool, _, x => [.bool x]
  | .str, _, x => [.str x]
  | .Geometry, o, x => encGeometry o x
  | .Addr, o, x => encAddr o x
  | .Mapping, o, x => encMapping o x
  | .Partition, o, x => encPartition o x
  | .Command, o, x => encCommand o x
  | .Timing, o, x => encTiming o x
  | .Bank, o, x => encBank o x
  | .Rank, o, x => encRank o x
  | .Event, o, x => encEvent o x
  | .Ready, o, x => encReady o x
  | .Cell, o, x => encCell o x
  | .Array, o, x => encArray o x
  | .Limits, o, x => encLimits o x
  | .Tracker, o, x => encTracker o x
  | .Spare, o, x => encSpare o x
  | .Refresh, o, x => encRefresh o x
  | .Req, o, x => encReq o x
  | .Share, o, x => encShare o x
  | .Drain, o, x => encDrain o x
  | .Slots, o, x => encSlots o x
  | .Served, o, x => encServed o x
  | .Power, o, x => encPower o x
  | .PowerRule, o, x => encPowerRule o x
  | .ErrorEntry, o, x => encErrorEntry o x
  | .LogStore, o, x => encLogStore o x
  | .Sender, o, x => encSender o x
  | .Receiver, o, x => encReceiver o x
  | .Node, o, x => encNode o x
  | .Tree, o, x => encTree o x
  | .Secure, o, x => encSecure o x
  | .Scrubber, o, x => encScrubber o x
  | .Ticket, o, x => encTicket o x
  | .Move, o, x => encMove o x
  | .Policy, o, x => encPolicy o x
  | .PolicyBox, o, x => encPolicyBox o x
  | .Config, o, x => encConfig o x
  | .Rep, o, x => encRep o x
  | .Controller, o, x => encController o x
  | .Act, o, x => encAct o x
  | .Fact, o, x => encFact o x
  | .sl t, o, x => [.sl t o false x]
def decGeometry (o : Nat) (cs : List V) : Option DGeometry := match cs with
  | a0 :: a1 :: a2 :: a3 :: [] => (a0.asI).bind fun x0 => (a1.asI).bind fun x1 => (a2.asI).bind fun x2 => (a3.asI).bind fun x3 => some ⟨x0, x1, x2, x3⟩
  | _ => none
def decAddr (o : Nat) (cs : List V) : Option DAddr := match cs with
  | a0 :: a1 :: a2 :: [] => (a0.asI).bind fun x0 => (a1.asI).bind fun x1 => (a2.asI).bind fun x2 => some ⟨x0, x1, x2⟩
  | _ => none
def decMapping (o : Nat) (cs : List V) : Option DMapping := match cs with
  | a0 :: a1 :: [] => (a0.asI).bind fun x0 => (a1.asB).bind fun x1 => some ⟨x0, x1⟩
  | _ => none
def decPartition (o : Nat) (cs : List V) : Option DPartition := match cs with
  | a0 :: [] => (a0.asL .int o).bind fun x0 => some ⟨x0⟩
  | _ => none
def decCommand (o : Nat) (cs : List V) : Option DCommand := match cs with
  | a0 :: a1 :: a2 :: a3 :: [] => (a0.asI).bind fun x0 => (a1.asI).bind fun x1 => (a2.asI).bind fun x2 => (a3.asI).bind fun x3 => some ⟨x0, x1, x2, x3⟩
  | _ => none
def decTiming (o : Nat) (cs : List V) : Option DTiming := match cs with
  | a0 :: a1 :: a2 :: a3 :: a4 :: a5 :: a6 :: a7 :: a8 :: a9 :: a10 :: a11 :: a12 :: a13 :: a14 :: a15 :: a16 :: [] => (a0.asI).bind fun x0 => (a1.asI).bind fun x1 => (a2.asI).bind fun x2 => (a3.asI).bind fun x3 => (a4.asI).bind fun x4 => (a5.asI).bind fun x5 => (a6.asI).bind fun x6 => (a7.asI).bind fun x7 => (a8.asI).bind fun x8 => (a9.asI).bind fun x9 => (a10.asI).bind fun x10 => (a11.asI).bind fun x11 => (a12.asI).bind fun x12 => (a13.asI).bind fun x13 => (a14.asI).bind fun x14 => (a15.asI).bind fun x15 => (a16.asI).bind fun x16 => some ⟨x0, x1, x2, x3, x4, x5, x6, x7, x8, x9, x10, x11, x12, x13, x14, x15, x16⟩
  | _ => none
def decBank (o : Nat) (cs : List V) : Option DBank := match cs with
  | a0 :: a1 :: [] => (a0.asB).bind fun x0 => (a1.asI).bind fun x1 => some ⟨x0, x1⟩
  | _ => none
def decRank (o : Nat) (cs : List V) : Option DRank := match cs with
  | a0 :: a1 :: [] => (a0.asL .Bank o).bind fun x0 => (a1.asI).bind fun x1 => some ⟨x0, x1⟩
  | _ => none
def decEvent (o : Nat) (cs : List V) : Option DEvent := match cs with
  | a0 :: a1 :: a2 :: a3 :: a4 :: [] => (a0.asI).bind fun x0 => (a1.asI).bind fun x1 => (a2.asI).bind fun x2 => (a3.asI).bind fun x3 => (a4.asI).bind fun x4 => some ⟨x0, ⟨x1, x2, x3, x4⟩⟩
  | _ => none
def decReady (o : Nat) (cs : List V) : Option DReady := match cs with
  | a0 :: a1 :: [] => (a0.asL .int o).bind fun x0 => (a1.asL .int o).bind fun x1 => some ⟨x0, x1⟩
  | _ => none
def decCell (o : Nat) (cs : List V) : Option DCell := match cs with
  | a0 :: a1 :: [] => (a0.asL .int o).bind fun x0 => (a1.asB).bind fun x1 => some ⟨x0, x1⟩
  | _ => none
def decArray (o : Nat) (cs : List V) : Option DArray := match cs with
  | a0 :: a1 :: a2 :: [] => (a0.asL .Cell o).bind fun x0 => (a1.asL .int o).bind fun x1 => (a2.asL .int o).bind fun x2 => some ⟨x0, x1, x2⟩
  | _ => none
def decLimits (o : Nat) (cs : List V) : Option DLimits := match cs with
  | a0 :: a1 :: [] => (a0.asI).bind fun x0 => (a1.asI).bind fun x1 => some ⟨x0, x1⟩
  | _ => none
def decTracker (o : Nat) (cs : List V) : Option DTracker := match cs with
  | a0 :: a1 :: a2 :: [] => (a0.asL .int o).bind fun x0 => (a1.asL .int o).bind fun x1 => (a2.asI).bind fun x2 => some ⟨x0, x1, x2⟩
  | _ => none
def decSpare (o : Nat) (cs : List V) : Option DSpare := match cs with
  | a0 :: a1 :: [] => (a0.asI).bind fun x0 => (a1.asL .int o).bind fun x1 => some ⟨x0, x1⟩
  | _ => none
def decRefresh (o : Nat) (cs : List V) : Option DRefresh := match cs with
  | a0 :: a1 :: a2 :: [] => (a0.asL .int o).bind fun x0 => (a1.asI).bind fun x1 => (a2.asB).bind fun x2 => some ⟨x0, x1, x2⟩
  | _ => none
def decReq (o : Nat) (cs : List V) : Option DReq := match cs with
  | a0 :: a1 :: a2 :: a3 :: a4 :: a5 :: [] => (a0.asI).bind fun x0 => (a1.asI).bind fun x1 => (a2.asI).bind fun x2 => (a3.asB).bind fun x3 => (a4.asI).bind fun x4 => (a5.asI).bind fun x5 => some ⟨x0, x1, x2, x3, x4, x5⟩
  | _ => none
def decShare (o : Nat) (cs : List V) : Option DShare := match cs with
  | a0 :: a1 :: [] => (a0.asI).bind fun x0 => (a1.asI).bind fun x1 => some ⟨x0, x1⟩
  | _ => none
def decDrain (o : Nat) (cs : List V) : Option DDrain := match cs with
  | a0 :: a1 :: a2 :: [] => (a0.asB).bind fun x0 => (a1.asI).bind fun x1 => (a2.asI).bind fun x2 => some ⟨x0, x1, x2⟩
  | _ => none
def decSlots (o : Nat) (cs : List V) : Option DSlots := match cs with
  | a0 :: a1 :: [] => (a0.asL .int o).bind fun x0 => (a1.asI).bind fun x1 => some ⟨x0, x1⟩
  | _ => none
def decServed (o : Nat) (cs : List V) : Option DServed := match cs with
  | a0 :: a1 :: [] => (a0.asI).bind fun x0 => (a1.asI).bind fun x1 => some ⟨x0, x1⟩
  | _ => none
def decPower (o : Nat) (cs : List V) : Option DPower := match cs with
  | a0 :: a1 :: a2 :: [] => (a0.asI).bind fun x0 => (a1.asI).bind fun x1 => (a2.asI).bind fun x2 => some ⟨x0, x1, x2⟩
  | _ => none
def decPowerRule (o : Nat) (cs : List V) : Option DPowerRule := match cs with
  | a0 :: a1 :: [] => (a0.asI).bind fun x0 => (a1.asI).bind fun x1 => some ⟨x0, x1⟩
  | _ => none
def decErrorEntry (o : Nat) (cs : List V) : Option DErrorEntry := match cs with
  | a0 :: a1 :: a2 :: [] => (a0.asI).bind fun x0 => (a1.asI).bind fun x1 => (a2.asI).bind fun x2 => some ⟨x0, x1, x2⟩
  | _ => none
def decLogStore (o : Nat) (cs : List V) : Option DLogStore := match cs with
  | a0 :: [] => (a0.asL .str o).bind fun x0 => some ⟨x0⟩
  | _ => none
def decSender (o : Nat) (cs : List V) : Option DSender := match cs with
  | a0 :: a1 :: [] => (a0.asL .int o).bind fun x0 => (a1.asI).bind fun x1 => some ⟨x0, x1⟩
  | _ => none
def decReceiver (o : Nat) (cs : List V) : Option DReceiver := match cs with
  | a0 :: a1 :: [] => (a0.asI).bind fun x0 => (a1.asL .Command o).bind fun x1 => some ⟨x0, x1⟩
  | _ => none
def decNode (o : Nat) (cs : List V) : Option DNode := match cs with
  | a0 :: a1 :: [] => (a0.asI).bind fun x0 => (a1.asI).bind fun x1 => some ⟨x0, x1⟩
  | _ => none
def decTree (o : Nat) (cs : List V) : Option DTree := match cs with
  | a0 :: a1 :: a2 :: [] => (a0.asI).bind fun x0 => (a1.asL .Node o).bind fun x1 => (a2.asL .Node o).bind fun x2 => some ⟨x0, x1, x2⟩
  | _ => none
def decSecure (o : Nat) (cs : List V) : Option DSecure := match cs with
  | a0 :: a1 :: a2 :: a3 :: a4 :: a5 :: [] => (a0.asI).bind fun x0 => (a1.asI).bind fun x1 => (a2.asL .Node o).bind fun x2 => (a3.asL .Node o).bind fun x3 => (a4.asL .int o).bind fun x4 => (a5.asL .int o).bind fun x5 => some ⟨x0, ⟨x1, x2, x3⟩, x4, x5⟩
  | _ => none
def decScrubber (o : Nat) (cs : List V) : Option DScrubber := match cs with
  | a0 :: a1 :: a2 :: [] => (a0.asI).bind fun x0 => (a1.asI).bind fun x1 => (a2.asI).bind fun x2 => some ⟨x0, x1, x2⟩
  | _ => none
def decTicket (o : Nat) (cs : List V) : Option DTicket := match cs with
  | a0 :: a1 :: a2 :: a3 :: a4 :: a5 :: [] => (a0.asI).bind fun x0 => (a1.asL .int o).bind fun x1 => (a2.asB).bind fun x2 => (a3.asL .int o).bind fun x3 => (a4.asB).bind fun x4 => (a5.asI).bind fun x5 => some ⟨x0, ⟨x1, x2⟩, ⟨x3, x4⟩, x5⟩
  | _ => none
def decMove (o : Nat) (cs : List V) : Option DMove := match cs with
  | a0 :: a1 :: a2 :: a3 :: [] => (a0.asI).bind fun x0 => (a1.asI).bind fun x1 => (a2.asI).bind fun x2 => (a3.asI).bind fun x3 => some ⟨x0, x1, x2, x3⟩
  | _ => none
def decPolicy (o : Nat) (cs : List V) : Option DPolicy := match cs with
  | a0 :: a1 :: a2 :: a3 :: a4 :: a5 :: a6 :: a7 :: [] => (a0.asI).bind fun x0 => (a1.asI).bind fun x1 => (a2.asI).bind fun x2 => (a3.asI).bind fun x3 => (a4.asI).bind fun x4 => (a5.asL .int o).bind fun x5 => (a6.asI).bind fun x6 => (a7.asI).bind fun x7 => some ⟨x0, x1, x2, x3, x4, x5, ⟨x6, x7⟩⟩
  | _ => none
def decPolicyBox (o : Nat) (cs : List V) : Option DPolicyBox := match cs with
  | a0 :: a1 :: a2 :: a3 :: a4 :: a5 :: a6 :: a7 :: a8 :: a9 :: a10 :: a11 :: a12 :: a13 :: a14 :: a15 :: a16 :: [] => (a0.asI).bind fun x0 => (a1.asI).bind fun x1 => (a2.asI).bind fun x2 => (a3.asI).bind fun x3 => (a4.asI).bind fun x4 => (a5.asL .int o).bind fun x5 => (a6.asI).bind fun x6 => (a7.asI).bind fun x7 => (a8.asI).bind fun x8 => (a9.asI).bind fun x9 => (a10.asI).bind fun x10 => (a11.asI).bind fun x11 => (a12.asI).bind fun x12 => (a13.asL .int o).bind fun x13 => (a14.asI).bind fun x14 => (a15.asI).bind fun x15 => (a16.asB).bind fun x16 => some ⟨⟨x0, x1, x2, x3, x4, x5, ⟨x6, x7⟩⟩, ⟨x8, x9, x10, x11, x12, x13, ⟨x14, x15⟩⟩, x16⟩
  | _ => none
def decConfig (o : Nat) (cs : List V) : Option DConfig := match cs with
  | a0 :: a1 :: a2 :: a3 :: a4 :: a5 :: a6 :: a7 :: a8 :: a9 :: a10 :: a11 :: a12 :: a13 :: a14 :: a15 :: a16 :: a17 :: a18 :: a19 :: a20 :: a21 :: a22 :: a23 :: a24 :: a25 :: a26 :: a27 :: [] => (a0.asI).bind fun x0 => (a1.asI).bind fun x1 => (a2.asI).bind fun x2 => (a3.asI).bind fun x3 => (a4.asI).bind fun x4 => (a5.asI).bind fun x5 => (a6.asI).bind fun x6 => (a7.asI).bind fun x7 => (a8.asI).bind fun x8 => (a9.asI).bind fun x9 => (a10.asI).bind fun x10 => (a11.asI).bind fun x11 => (a12.asI).bind fun x12 => (a13.asI).bind fun x13 => (a14.asI).bind fun x14 => (a15.asI).bind fun x15 => (a16.asI).bind fun x16 => (a17.asI).bind fun x17 => (a18.asI).bind fun x18 => (a19.asI).bind fun x19 => (a20.asI).bind fun x20 => (a21.asI).bind fun x21 => (a22.asB).bind fun x22 => (a23.asI).bind fun x23 => (a24.asI).bind fun x24 => (a25.asI).bind fun x25 => (a26.asI).bind fun x26 => (a27.asI).bind fun x27 => some ⟨⟨x0, x1, x2, x3⟩, ⟨x4, x5, x6, x7, x8, x9, x10, x11, x12, x13, x14, x15, x16, x17, x18, x19, x20⟩, ⟨x21, x22⟩, x23, x24, x25, ⟨x26, x27⟩⟩
  | _ => none
def decRep (o : Nat) (cs : List V) : Option DRep := match cs with
  | a0 :: a1 :: a2 :: a3 :: [] => (a0.asI).bind fun x0 => (a1.asI).bind fun x1 => (a2.asI).bind fun x2 => (a3.asI).bind fun x3 => some ⟨x0, x1, x2, x3⟩
  | _ => none
def decController (o : Nat) (cs : List V) : Option DController := match cs with
  | a0 :: a1 :: a2 :: a3 :: a4 :: a5 :: a6 :: a7 :: a8 :: a9 :: a10 :: a11 :: a12 :: a13 :: a14 :: a15 :: a16 :: a17 :: a18 :: a19 :: a20 :: a21 :: a22 :: a23 :: a24 :: a25 :: a26 :: a27 :: a28 :: a29 :: a30 :: a31 :: a32 :: a33 :: a34 :: a35 :: a36 :: a37 :: a38 :: a39 :: a40 :: a41 :: a42 :: a43 :: a44 :: a45 :: a46 :: a47 :: a48 :: a49 :: a50 :: a51 :: a52 :: a53 :: a54 :: a55 :: a56 :: a57 :: a58 :: a59 :: a60 :: a61 :: a62 :: a63 :: a64 :: a65 :: a66 :: a67 :: a68 :: a69 :: a70 :: a71 :: a72 :: a73 :: a74 :: [] => (a0.asI).bind fun x0 => (a1.asI).bind fun x1 => (a2.asI).bind fun x2 => (a3.asI).bind fun x3 => (a4.asI).bind fun x4 => (a5.asI).bind fun x5 => (a6.asI).bind fun x6 => (a7.asI).bind fun x7 => (a8.asI).bind fun x8 => (a9.asI).bind fun x9 => (a10.asI).bind fun x10 => (a11.asI).bind fun x11 => (a12.asI).bind fun x12 => (a13.asI).bind fun x13 => (a14.asI).bind fun x14 => (a15.asI).bind fun x15 => (a16.asI).bind fun x16 => (a17.asI).bind fun x17 => (a18.asI).bind fun x18 => (a19.asI).bind fun x19 => (a20.asI).bind fun x20 => (a21.asI).bind fun x21 => (a22.asB).bind fun x22 => (a23.asI).bind fun x23 => (a24.asI).bind fun x24 => (a25.asI).bind fun x25 => (a26.asI).bind fun x26 => (a27.asI).bind fun x27 => (a28.asI).bind fun x28 => (a29.asI).bind fun x29 => (a30.asI).bind fun x30 => (a31.asI).bind fun x31 => (a32.asI).bind fun x32 => (a33.asL .int o).bind fun x33 => (a34.asI).bind fun x34 => (a35.asI).bind fun x35 => (a36.asI).bind fun x36 => (a37.asI).bind fun x37 => (a38.asI).bind fun x38 => (a39.asI).bind fun x39 => (a40.asI).bind fun x40 => (a41.asL .int o).bind fun x41 => (a42.asI).bind fun x42 => (a43.asI).bind fun x43 => (a44.asB).bind fun x44 => (a45.asI).bind fun x45 => (a46.asL .Bank o).bind fun x46 => (a47.asI).bind fun x47 => (a48.asL .int o).bind fun x48 => (a49.asL .int o).bind fun x49 => (a50.asL .Cell o).bind fun x50 => (a51.asL .int o).bind fun x51 => (a52.asL .int o).bind fun x52 => (a53.asI).bind fun x53 => (a54.asL .int o).bind fun x54 => (a55.asL .int o).bind fun x55 => (a56.asI).bind fun x56 => (a57.asB).bind fun x57 => (a58.asL .Tracker o).bind fun x58 => (a59.asL .int o).bind fun x59 => (a60.asL .Addr o).bind fun x60 => (a61.asL .Req o).bind fun x61 => (a62.asL .Share o).bind fun x62 => (a63.asB).bind fun x63 => (a64.asI).bind fun x64 => (a65.asI).bind fun x65 => (a66.asI).bind fun x66 => (a67.asI).bind fun x67 => (a68.asI).bind fun x68 => (a69.asI).bind fun x69 => (a70.asI).bind fun x70 => (a71.asI).bind fun x71 => (a72.asL .ErrorEntry o).bind fun x72 => (a73.asL .Event o).bind fun x73 => (a74.asL .Rep o).bind fun x74 => some ⟨⟨⟨x0, x1, x2, x3⟩, ⟨x4, x5, x6, x7, x8, x9, x10, x11, x12, x13, x14, x15, x16, x17, x18, x19, x20⟩, ⟨x21, x22⟩, x23, x24, x25, ⟨x26, x27⟩⟩, ⟨⟨x28, x29, x30, x31, x32, x33, ⟨x34, x35⟩⟩, ⟨x36, x37, x38, x39, x40, x41, ⟨x42, x43⟩⟩, x44⟩, x45, ⟨x46, x47⟩, ⟨x48, x49⟩, ⟨x50, x51, x52⟩, ⟨x53, x54⟩, ⟨x55, x56, x57⟩, x58, x59, x60, x61, x62, ⟨x63, x64, x65⟩, ⟨x66, x67, x68⟩, ⟨x69, x70, x71⟩, x72, x73, x74⟩
  | _ => none
def decAct (o : Nat) (cs : List V) : Option DAct := match cs with
  | a0 :: a1 :: a2 :: a3 :: a4 :: a5 :: a6 :: a7 :: a8 :: a9 :: a10 :: a11 :: a12 :: a13 :: a14 :: a15 :: a16 :: a17 :: a18 :: a19 :: [] => (a0.asI).bind fun x0 => (a1.asI).bind fun x1 => (a2.asI).bind fun x2 => (a3.asI).bind fun x3 => (a4.asB).bind fun x4 => (a5.asI).bind fun x5 => (a6.asI).bind fun x6 => (a7.asI).bind fun x7 => (a8.asI).bind fun x8 => (a9.asI).bind fun x9 => (a10.asI).bind fun x10 => (a11.asI).bind fun x11 => (a12.asI).bind fun x12 => (a13.asI).bind fun x13 => (a14.asI).bind fun x14 => (a15.asI).bind fun x15 => (a16.asI).bind fun x16 => (a17.asL .int o).bind fun x17 => (a18.asI).bind fun x18 => (a19.asI).bind fun x19 => some ⟨x0, ⟨x1, x2, x3, x4, x5, x6⟩, x7, x8, ⟨x9, x10, x11⟩, ⟨x12, x13, x14, x15, x16, x17, ⟨x18, x19⟩⟩⟩
  | _ => none
def decFact (o : Nat) (cs : List V) : Option DFact := match cs with
  | a0 :: a1 :: a2 :: [] => (a0.asI).bind fun x0 => (a1.asI).bind fun x1 => (a2.asI).bind fun x2 => some ⟨x0, x1, x2⟩
  | _ => none
def dec1 {α : Type} (f : V → Option α) : List V → Option α
  | [a] => f a
  | _ => none
def dec : (t : TC) → (o : Nat) → List V → Option (T t)
  | .int, _, cs => dec1 V.asI cs
  | .u8, _, cs => dec1 V.asU8 cs
  | .bool, _, cs => dec1 V.asB cs
  | .str, _, cs => dec1 V.asS cs
  | .Geometry, o, cs => decGeometry o cs
  | .Addr, o, cs => decAddr o cs
  | .Mapping, o, cs => decMapping o cs
  | .Partition, o, cs => decPartition o cs
  | .Command, o, cs => decCommand o cs
  | .Timing, o, cs => decTiming o cs
  | .Bank, o, cs => decBank o cs
  | .Rank, o, cs => decRank o cs
  | .Event, o, cs => decEvent o cs
  | .Ready, o, cs => decReady o cs
  | .Cell, o, cs => decCell o cs
  | .Array, o, cs => decArray o cs
  | .Limits, o, cs => decLimits o cs
  | .Tracker, o, cs => decTracker o cs
  | .Spare, o, cs => decSpare o cs
  | .Refresh, o, cs => decRefresh o cs
  | .Req, o, cs => decReq o cs
  | .Share, o, cs => decShare o cs
  | .Drain, o, cs => decDrain o cs
  | .Slots, o, cs => decSlots o cs
  | .Served, o, cs => decServed o cs
  | .Power, o, cs => decPower o cs
  | .PowerRule, o, cs => decPowerRule o cs
  | .ErrorEntry, o, cs => decErrorEntry o cs
  | .LogStore, o, cs => decLogStore o cs
  | .Sender, o, cs => decSender o cs
  | .Receiver, o, cs => decReceiver o cs
  | .Node, o, cs => decNode o cs
  | .Tree, o, cs => decTree o cs
  | .Secure, o, cs => decSecure o cs
  | .Scrubber, o, cs => decScrubber o cs
  | .Ticket, o, cs => decTicket o cs
  | .Move, o, cs => decMove o cs
  | .Policy, o, cs => decPolicy o cs
  | .PolicyBox, o, cs => decPolicyBox o cs
  | .Config, o, cs => decConfig o cs
  | .Rep, o, cs => decRep o cs
  | .Controller, o, cs => decController o cs
  | .Act, o, cs => decAct o cs
  | .Fact, o, cs => decFact o cs
  | .sl t, o, cs => dec1 (V.asL t o) cs
theorem enc_length (t : TC) (o : Nat) (x : T t) : (enc t o x).length = csz t := by cases t <;> rfl
theorem csz_pos (t : TC) : 0 < csz t := by cases t <;> simp [csz]
theorem bind_some {α β : Type} {a : Option α} {f : α → Option β} {b : β} (h : a.bind f = some b) : ∃ x, a = some x ∧ f x = some b := by
  cases a with
  | none => cases h
  | some x => exact ⟨x, rfl, h⟩
theorem decGeometry_ok (o : Nat) (cs : List V) (x : DGeometry) (h : decGeometry o cs = some x) : Wks cs (encGeometry o x) := by
  unfold decGeometry at h
  split at h
  · obtain ⟨x0, h0, h⟩ := bind_some h
    obtain ⟨x1, h1, h⟩ := bind_some h
    obtain ⟨x2, h2, h⟩ := bind_some h
    obtain ⟨x3, h3, h⟩ := bind_some h
    injection h with h
    subst h
    exact (.cons (V.asI_ok h0) (.cons (V.asI_ok h1) (.cons (V.asI_ok h2) (.cons (V.asI_ok h3) Wks.nil))))
  · cases h
theorem decAddr_ok (o : Nat) (cs : List V) (x : DAddr) (h : decAddr o cs = some x) : Wks cs (encAddr o x) := by
  unfold decAddr at h
  split at h
  · obtain ⟨x0, h0, h⟩ := bind_some h
    obtain ⟨x1, h1, h⟩ := bind_some h
    obtain ⟨x2, h2, h⟩ := bind_some h
    injection h with h
    subst h
    exact (.cons (V.asI_ok h0) (.cons (V.asI_ok h1) (.cons (V.asI_ok h2) Wks.nil)))
  · cases h
theorem decMapping_ok (o : Nat) (cs : List V) (x : DMapping) (h : decMapping o cs = some x) : Wks cs (encMapping o x) := by
  unfold decMapping at h
  split at h
  · obtain ⟨x0, h0, h⟩ := bind_some h
    obtain ⟨x1, h1, h⟩ := bind_some h
    injection h with h
    subst h
    exact (.cons (V.asI_ok h0) (.cons (V.asB_ok h1) Wks.nil))
  · cases h
theorem decPartition_ok (o : Nat) (cs : List V) (x : DPartition) (h : decPartition o cs = some x) : Wks cs (encPartition o x) := by
  unfold decPartition at h
  split at h
  · obtain ⟨x0, h0, h⟩ := bind_some h
    injection h with h
    subst h
    exact (.cons (V.asL_ok h0) Wks.nil)
  · cases h
theorem decCommand_ok (o : Nat) (cs : List V) (x : DCommand) (h : decCommand o cs = some x) : Wks cs (encCommand o x) := by
  unfold decCommand at h
  split at h
  · obtain ⟨x0, h0, h⟩ := bind_some h
    obtain ⟨x1, h1, h⟩ := bind_some h
    obtain ⟨x2, h2, h⟩ := bind_some h
    obtain ⟨x3, h3, h⟩ := bind_some h
    injection h with h
    subst h
    exact (.cons (V.asI_ok h0) (.cons (V.asI_ok h1) (.cons (V.asI_ok h2) (.cons (V.asI_ok h3) Wks.nil))))
  · cases h
theorem decTiming_ok (o : Nat) (cs : List V) (x : DTiming) (h : decTiming o cs = some x) : Wks cs (encTiming o x) := by
  unfold decTiming at h
  split at h
  · obtain ⟨x0, h0, h⟩ := bind_some h
    obtain ⟨x1, h1, h⟩ := bind_some h
    obtain ⟨x2, h2, h⟩ := bind_some h
    obtain ⟨x3, h3, h⟩ := bind_some h
    obtain ⟨x4, h4, h⟩ := bind_some h
    obtain ⟨x5, h5, h⟩ := bind_some h
    obtain ⟨x6, h6, h⟩ := bind_some h
    obtain ⟨x7, h7, h⟩ := bind_some h
    obtain ⟨x8, h8, h⟩ := bind_some h
    obtain ⟨x9, h9, h⟩ := bind_some h
    obtain ⟨x10, h10, h⟩ := bind_some h
    obtain ⟨x11, h11, h⟩ := bind_some h
    obtain ⟨x12, h12, h⟩ := bind_some h
    obtain ⟨x13, h13, h⟩ := bind_some h
    obtain ⟨x14, h14, h⟩ := bind_some h
    obtain ⟨x15, h15, h⟩ := bind_some h
    obtain ⟨x16, h16, h⟩ := bind_some h
    injection h with h
    subst h
    exact (.cons (V.asI_ok h0) (.cons (V.asI_ok h1) (.cons (V.asI_ok h2) (.cons (V.asI_ok h3) (.cons (V.asI_ok h4) (.cons (V.asI_ok h5) (.cons (V.asI_ok h6) (.cons (V.asI_ok h7) (.cons (V.asI_ok h8) (.cons (V.asI_ok h9) (.cons (V.asI_ok h10) (.cons (V.asI_ok h11) (.cons (V.asI_ok h12) (.cons (V.asI_ok h13) (.cons (V.asI_ok h14) (.cons (V.asI_ok h15) (.cons (V.asI_ok h16) Wks.nil)))))))))))))))))
  · cases h
theorem decBank_ok (o : Nat) (cs : List V) (x : DBank) (h : decBank o cs = some x) : Wks cs (encBank o x) := by
  unfold decBank at h
  split at h
  · obtain ⟨x0, h0, h⟩ := bind_some h
    obtain ⟨x1, h1, h⟩ := bind_some h
    injection h with h
    subst h
    exact (.cons (V.asB_ok h0) (.cons (V.asI_ok h1) Wks.nil))
  · cases h
theorem decRank_ok (o : Nat) (cs : List V) (x : DRank) (h : decRank o cs = some x) : Wks cs (encRank o x) := by
  unfold decRank at h
  split at h
  · obtain ⟨x0, h0, h⟩ := bind_some h
    obtain ⟨x1, h1, h⟩ := bind_some h
    injection h with h
    subst h
    exact (.cons (V.asL_ok h0) (.cons (V.asI_ok h1) Wks.nil))
  · cases h
theorem decEvent_ok (o : Nat) (cs : List V) (x : DEvent) (h : decEvent o cs = some x) : Wks cs (encEvent o x) := by
  unfold decEvent at h
  split at h
  · obtain ⟨x0, h0, h⟩ := bind_some h
    obtain ⟨x1, h1, h⟩ := bind_some h
    obtain ⟨x2, h2, h⟩ := bind_some h
    obtain ⟨x3, h3, h⟩ := bind_some h
    obtain ⟨x4, h4, h⟩ := bind_some h
    injection h with h
    subst h
    exact (.cons (V.asI_ok h0) (.cons (V.asI_ok h1) (.cons (V.asI_ok h2) (.cons (V.asI_ok h3) (.cons (V.asI_ok h4) Wks.nil)))))
  · cases h
theorem decReady_ok (o : Nat) (cs : List V) (x : DReady) (h : decReady o cs = some x) : Wks cs (encReady o x) := by
  unfold decReady at h
  split at h
  · obtain ⟨x0, h0, h⟩ := bind_some h
    obtain ⟨x1, h1, h⟩ := bind_some h
    injection h with h
    subst h
    exact (.cons (V.asL_ok h0) (.cons (V.asL_ok h1) Wks.nil))
  · cases h
theorem decCell_ok (o : Nat) (cs : List V) (x : DCell) (h : decCell o cs = some x) : Wks cs (encCell o x) := by
  unfold decCell at h
  split at h
  · obtain ⟨x0, h0, h⟩ := bind_some h
    obtain ⟨x1, h1, h⟩ := bind_some h
    injection h with h
    subst h
    exact (.cons (V.asL_ok h0) (.cons (V.asB_ok h1) Wks.nil))
  · cases h
theorem decArray_ok (o : Nat) (cs : List V) (x : DArray) (h : decArray o cs = some x) : Wks cs (encArray o x) := by
  unfold decArray at h
  split at h
  · obtain ⟨x0, h0, h⟩ := bind_some h
    obtain ⟨x1, h1, h⟩ := bind_some h
    obtain ⟨x2, h2, h⟩ := bind_some h
    injection h with h
    subst h
    exact (.cons (V.asL_ok h0) (.cons (V.asL_ok h1) (.cons (V.asL_ok h2) Wks.nil)))
  · cases h
theorem decLimits_ok (o : Nat) (cs : List V) (x : DLimits) (h : decLimits o cs = some x) : Wks cs (encLimits o x) := by
  unfold decLimits at h
  split at h
  · obtain ⟨x0, h0, h⟩ := bind_some h
    obtain ⟨x1, h1, h⟩ := bind_some h
    injection h with h
    subst h
    exact (.cons (V.asI_ok h0) (.cons (V.asI_ok h1) Wks.nil))
  · cases h
theorem decTracker_ok (o : Nat) (cs : List V) (x : DTracker) (h : decTracker o cs = some x) : Wks cs (encTracker o x) := by
  unfold decTracker at h
  split at h
  · obtain ⟨x0, h0, h⟩ := bind_some h
    obtain ⟨x1, h1, h⟩ := bind_some h
    obtain ⟨x2, h2, h⟩ := bind_some h
    injection h with h
    subst h
    exact (.cons (V.asL_ok h0) (.cons (V.asL_ok h1) (.cons (V.asI_ok h2) Wks.nil)))
  · cases h
theorem decSpare_ok (o : Nat) (cs : List V) (x : DSpare) (h : decSpare o cs = some x) : Wks cs (encSpare o x) := by
  unfold decSpare at h
  split at h
  · obtain ⟨x0, h0, h⟩ := bind_some h
    obtain ⟨x1, h1, h⟩ := bind_some h
    injection h with h
    subst h
    exact (.cons (V.asI_ok h0) (.cons (V.asL_ok h1) Wks.nil))
  · cases h
theorem decRefresh_ok (o : Nat) (cs : List V) (x : DRefresh) (h : decRefresh o cs = some x) : Wks cs (encRefresh o x) := by
  unfold decRefresh at h
  split at h
  · obtain ⟨x0, h0, h⟩ := bind_some h
    obtain ⟨x1, h1, h⟩ := bind_some h
    obtain ⟨x2, h2, h⟩ := bind_some h
    injection h with h
    subst h
    exact (.cons (V.asL_ok h0) (.cons (V.asI_ok h1) (.cons (V.asB_ok h2) Wks.nil)))
  · cases h
theorem decReq_ok (o : Nat) (cs : List V) (x : DReq) (h : decReq o cs = some x) : Wks cs (encReq o x) := by
  unfold decReq at h
  split at h
  · obtain ⟨x0, h0, h⟩ := bind_some h
    obtain ⟨x1, h1, h⟩ := bind_some h
    obtain ⟨x2, h2, h⟩ := bind_some h
    obtain ⟨x3, h3, h⟩ := bind_some h
    obtain ⟨x4, h4, h⟩ := bind_some h
    obtain ⟨x5, h5, h⟩ := bind_some h
    injection h with h
    subst h
    exact (.cons (V.asI_ok h0) (.cons (V.asI_ok h1) (.cons (V.asI_ok h2) (.cons (V.asB_ok h3) (.cons (V.asI_ok h4) (.cons (V.asI_ok h5) Wks.nil))))))
  · cases h
theorem decShare_ok (o : Nat) (cs : List V) (x : DShare) (h : decShare o cs = some x) : Wks cs (encShare o x) := by
  unfold decShare at h
  split at h
  · obtain ⟨x0, h0, h⟩ := bind_some h
    obtain ⟨x1, h1, h⟩ := bind_some h
    injection h with h
    subst h
    exact (.cons (V.asI_ok h0) (.cons (V.asI_ok h1) Wks.nil))
  · cases h
theorem decDrain_ok (o : Nat) (cs : List V) (x : DDrain) (h : decDrain o cs = some x) : Wks cs (encDrain o x) := by
  unfold decDrain at h
  split at h
  · obtain ⟨x0, h0, h⟩ := bind_some h
    obtain ⟨x1, h1, h⟩ := bind_some h
    obtain ⟨x2, h2, h⟩ := bind_some h
    injection h with h
    subst h
    exact (.cons (V.asB_ok h0) (.cons (V.asI_ok h1) (.cons (V.asI_ok h2) Wks.nil)))
  · cases h
theorem decSlots_ok (o : Nat) (cs : List V) (x : DSlots) (h : decSlots o cs = some x) : Wks cs (encSlots o x) := by
  unfold decSlots at h
  split at h
  · obtain ⟨x0, h0, h⟩ := bind_some h
    obtain ⟨x1, h1, h⟩ := bind_some h
    injection h with h
    subst h
    exact (.cons (V.asL_ok h0) (.cons (V.asI_ok h1) Wks.nil))
  · cases h
theorem decServed_ok (o : Nat) (cs : List V) (x : DServed) (h : decServed o cs = some x) : Wks cs (encServed o x) := by
  unfold decServed at h
  split at h
  · obtain ⟨x0, h0, h⟩ := bind_some h
    obtain ⟨x1, h1, h⟩ := bind_some h
    injection h with h
    subst h
    exact (.cons (V.asI_ok h0) (.cons (V.asI_ok h1) Wks.nil))
  · cases h
theorem decPower_ok (o : Nat) (cs : List V) (x : DPower) (h : decPower o cs = some x) : Wks cs (encPower o x) := by
  unfold decPower at h
  split at h
  · obtain ⟨x0, h0, h⟩ := bind_some h
    obtain ⟨x1, h1, h⟩ := bind_some h
    obtain ⟨x2, h2, h⟩ := bind_some h
    injection h with h
    subst h
    exact (.cons (V.asI_ok h0) (.cons (V.asI_ok h1) (.cons (V.asI_ok h2) Wks.nil)))
  · cases h
theorem decPowerRule_ok (o : Nat) (cs : List V) (x : DPowerRule) (h : decPowerRule o cs = some x) : Wks cs (encPowerRule o x) := by
  unfold decPowerRule at h
  split at h
  · obtain ⟨x0, h0, h⟩ := bind_some h
    obtain ⟨x1, h1, h⟩ := bind_some h
    injection h with h
    subst h
    exact (.cons (V.asI_ok h0) (.cons (V.asI_ok h1) Wks.nil))
  · cases h
theorem decErrorEntry_ok (o : Nat) (cs : List V) (x : DErrorEntry) (h : decErrorEntry o cs = some x) : Wks cs (encErrorEntry o x) := by
  unfold decErrorEntry at h
  split at h
  · obtain ⟨x0, h0, h⟩ := bind_some h
    obtain ⟨x1, h1, h⟩ := bind_some h
    obtain ⟨x2, h2, h⟩ := bind_some h
    injection h with h
    subst h
    exact (.cons (V.asI_ok h0) (.cons (V.asI_ok h1) (.cons (V.asI_ok h2) Wks.nil)))
  · cases h
theorem decLogStore_ok (o : Nat) (cs : List V) (x : DLogStore) (h : decLogStore o cs = some x) : Wks cs (encLogStore o x) := by
  unfold decLogStore at h
  split at h
  · obtain ⟨x0, h0, h⟩ := bind_some h
    injection h with h
    subst h
    exact (.cons (V.asL_ok h0) Wks.nil)
  · cases h
theorem decSender_ok (o : Nat) (cs : List V) (x : DSender) (h : decSender o cs = some x) : Wks cs (encSender o x) := by
  unfold decSender at h
  split at h
  · obtain ⟨x0, h0, h⟩ := bind_some h
    obtain ⟨x1, h1, h⟩ := bind_some h
    injection h with h
    subst h
    exact (.cons (V.asL_ok h0) (.cons (V.asI_ok h1) Wks.nil))
  · cases h
theorem decReceiver_ok (o : Nat) (cs : List V) (x : DReceiver) (h : decReceiver o cs = some x) : Wks cs (encReceiver o x) := by
  unfold decReceiver at h
  split at h
  · obtain ⟨x0, h0, h⟩ := bind_some h
    obtain ⟨x1, h1, h⟩ := bind_some h
    injection h with h
    subst h
    exact (.cons (V.asI_ok h0) (.cons (V.asL_ok h1) Wks.nil))
  · cases h
theorem decNode_ok (o : Nat) (cs : List V) (x : DNode) (h : decNode o cs = some x) : Wks cs (encNode o x) := by
  unfold decNode at h
  split at h
  · obtain ⟨x0, h0, h⟩ := bind_some h
    obtain ⟨x1, h1, h⟩ := bind_some h
    injection h with h
    subst h
    exact (.cons (V.asI_ok h0) (.cons (V.asI_ok h1) Wks.nil))
  · cases h
theorem decTree_ok (o : Nat) (cs : List V) (x : DTree) (h : decTree o cs = some x) : Wks cs (encTree o x) := by
  unfold decTree at h
  split at h
  · obtain ⟨x0, h0, h⟩ := bind_some h
    obtain ⟨x1, h1, h⟩ := bind_some h
    obtain ⟨x2, h2, h⟩ := bind_some h
    injection h with h
    subst h
    exact (.cons (V.asI_ok h0) (.cons (V.asL_ok h1) (.cons (V.asL_ok h2) Wks.nil)))
  · cases h
theorem decSecure_ok (o : Nat) (cs : List V) (x : DSecure) (h : decSecure o cs = some x) : Wks cs (encSecure o x) := by
  unfold decSecure at h
  split at h
  · obtain ⟨x0, h0, h⟩ := bind_some h
    obtain ⟨x1, h1, h⟩ := bind_some h
    obtain ⟨x2, h2, h⟩ := bind_some h
    obtain ⟨x3, h3, h⟩ := bind_some h
    obtain ⟨x4, h4, h⟩ := bind_some h
    obtain ⟨x5, h5, h⟩ := bind_some h
    injection h with h
    subst h
    exact (.cons (V.asI_ok h0) (.cons (V.asI_ok h1) (.cons (V.asL_ok h2) (.cons (V.asL_ok h3) (.cons (V.asL_ok h4) (.cons (V.asL_ok h5) Wks.nil))))))
  · cases h
theorem decScrubber_ok (o : Nat) (cs : List V) (x : DScrubber) (h : decScrubber o cs = some x) : Wks cs (encScrubber o x) := by
  unfold decScrubber at h
  split at h
  · obtain ⟨x0, h0, h⟩ := bind_some h
    obtain ⟨x1, h1, h⟩ := bind_some h
    obtain ⟨x2, h2, h⟩ := bind_some h
    injection h with h
    subst h
    exact (.cons (V.asI_ok h0) (.cons (V.asI_ok h1) (.cons (V.asI_ok h2) Wks.nil)))
  · cases h
theorem decTicket_ok (o : Nat) (cs : List V) (x : DTicket) (h : decTicket o cs = some x) : Wks cs (encTicket o x) := by
  unfold decTicket at h
  split at h
  · obtain ⟨x0, h0, h⟩ := bind_some h
    obtain ⟨x1, h1, h⟩ := bind_some h
    obtain ⟨x2, h2, h⟩ := bind_some h
    obtain ⟨x3, h3, h⟩ := bind_some h
    obtain ⟨x4, h4, h⟩ := bind_some h
    obtain ⟨x5, h5, h⟩ := bind_some h
    injection h with h
    subst h
    exact (.cons (V.asI_ok h0) (.cons (V.asL_ok h1) (.cons (V.asB_ok h2) (.cons (V.asL_ok h3) (.cons (V.asB_ok h4) (.cons (V.asI_ok h5) Wks.nil))))))
  · cases h
theorem decMove_ok (o : Nat) (cs : List V) (x : DMove) (h : decMove o cs = some x) : Wks cs (encMove o x) := by
  unfold decMove at h
  split at h
  · obtain ⟨x0, h0, h⟩ := bind_some h
    obtain ⟨x1, h1, h⟩ := bind_some h
    obtain ⟨x2, h2, h⟩ := bind_some h
    obtain ⟨x3, h3, h⟩ := bind_some h
    injection h with h
    subst h
    exact (.cons (V.asI_ok h0) (.cons (V.asI_ok h1) (.cons (V.asI_ok h2) (.cons (V.asI_ok h3) Wks.nil))))
  · cases h
theorem decPolicy_ok (o : Nat) (cs : List V) (x : DPolicy) (h : decPolicy o cs = some x) : Wks cs (encPolicy o x) := by
  unfold decPolicy at h
  split at h
  · obtain ⟨x0, h0, h⟩ := bind_some h
    obtain ⟨x1, h1, h⟩ := bind_some h
    obtain ⟨x2, h2, h⟩ := bind_some h
    obtain ⟨x3, h3, h⟩ := bind_some h
    obtain ⟨x4, h4, h⟩ := bind_some h
    obtain ⟨x5, h5, h⟩ := bind_some h
    obtain ⟨x6, h6, h⟩ := bind_some h
    obtain ⟨x7, h7, h⟩ := bind_some h
    injection h with h
    subst h
    exact (.cons (V.asI_ok h0) (.cons (V.asI_ok h1) (.cons (V.asI_ok h2) (.cons (V.asI_ok h3) (.cons (V.asI_ok h4) (.cons (V.asL_ok h5) (.cons (V.asI_ok h6) (.cons (V.asI_ok h7) Wks.nil))))))))
  · cases h
theorem decPolicyBox_ok (o : Nat) (cs : List V) (x : DPolicyBox) (h : decPolicyBox o cs = some x) : Wks cs (encPolicyBox o x) := by
  unfold decPolicyBox at h
  split at h
  · obtain ⟨x0, h0, h⟩ := bind_some h
    obtain ⟨x1, h1, h⟩ := bind_some h
    obtain ⟨x2, h2, h⟩ := bind_some h
    obtain ⟨x3, h3, h⟩ := bind_some h
    obtain ⟨x4, h4, h⟩ := bind_some h
    obtain ⟨x5, h5, h⟩ := bind_some h
    obtain ⟨x6, h6, h⟩ := bind_some h
    obtain ⟨x7, h7, h⟩ := bind_some h
    obtain ⟨x8, h8, h⟩ := bind_some h
    obtain ⟨x9, h9, h⟩ := bind_some h
    obtain ⟨x10, h10, h⟩ := bind_some h
    obtain ⟨x11, h11, h⟩ := bind_some h
    obtain ⟨x12, h12, h⟩ := bind_some h
    obtain ⟨x13, h13, h⟩ := bind_some h
    obtain ⟨x14, h14, h⟩ := bind_some h
    obtain ⟨x15, h15, h⟩ := bind_some h
    obtain ⟨x16, h16, h⟩ := bind_some h
    injection h with h
    subst h
    exact (.cons (V.asI_ok h0) (.cons (V.asI_ok h1) (.cons (V.asI_ok h2) (.cons (V.asI_ok h3) (.cons (V.asI_ok h4) (.cons (V.asL_ok h5) (.cons (V.asI_ok h6) (.cons (V.asI_ok h7) (.cons (V.asI_ok h8) (.cons (V.asI_ok h9) (.cons (V.asI_ok h10) (.cons (V.asI_ok h11) (.cons (V.asI_ok h12) (.cons (V.asL_ok h13) (.cons (V.asI_ok h14) (.cons (V.asI_ok h15) (.cons (V.asB_ok h16) Wks.nil)))))))))))))))))
  · cases h
theorem decConfig_ok (o : Nat) (cs : List V) (x : DConfig) (h : decConfig o cs = some x) : Wks cs (encConfig o x) := by
  unfold decConfig at h
  split at h
  · obtain ⟨x0, h0, h⟩ := bind_some h
    obtain ⟨x1, h1, h⟩ := bind_some h
    obtain ⟨x2, h2, h⟩ := bind_some h
    obtain ⟨x3, h3, h⟩ := bind_some h
    obtain ⟨x4, h4, h⟩ := bind_some h
    obtain ⟨x5, h5, h⟩ := bind_some h
    obtain ⟨x6, h6, h⟩ := bind_some h
    obtain ⟨x7, h7, h⟩ := bind_some h
    obtain ⟨x8, h8, h⟩ := bind_some h
    obtain ⟨x9, h9, h⟩ := bind_some h
    obtain ⟨x10, h10, h⟩ := bind_some h
    obtain ⟨x11, h11, h⟩ := bind_some h
    obtain ⟨x12, h12, h⟩ := bind_some h
    obtain ⟨x13, h13, h⟩ := bind_some h
    obtain ⟨x14, h14, h⟩ := bind_some h
    obtain ⟨x15, h15, h⟩ := bind_some h
    obtain ⟨x16, h16, h⟩ := bind_some h
    obtain ⟨x17, h17, h⟩ := bind_some h
    obtain ⟨x18, h18, h⟩ := bind_some h
    obtain ⟨x19, h19, h⟩ := bind_some h
    obtain ⟨x20, h20, h⟩ := bind_some h
    obtain ⟨x21, h21, h⟩ := bind_some h
    obtain ⟨x22, h22, h⟩ := bind_some h
    obtain ⟨x23, h23, h⟩ := bind_some h
    obtain ⟨x24, h24, h⟩ := bind_some h
    obtain ⟨x25, h25, h⟩ := bind_some h
    obtain ⟨x26, h26, h⟩ := bind_some h
    obtain ⟨x27, h27, h⟩ := bind_some h
    injection h with h
    subst h
    exact (.cons (V.asI_ok h0) (.cons (V.asI_ok h1) (.cons (V.asI_ok h2) (.cons (V.asI_ok h3) (.cons (V.asI_ok h4) (.cons (V.asI_ok h5) (.cons (V.asI_ok h6) (.cons (V.asI_ok h7) (.cons (V.asI_ok h8) (.cons (V.asI_ok h9) (.cons (V.asI_ok h10) (.cons (V.asI_ok h11) (.cons (V.asI_ok h12) (.cons (V.asI_ok h13) (.cons (V.asI_ok h14) (.cons (V.asI_ok h15) (.cons (V.asI_ok h16) (.cons (V.asI_ok h17) (.cons (V.asI_ok h18) (.cons (V.asI_ok h19) (.cons (V.asI_ok h20) (.cons (V.asI_ok h21) (.cons (V.asB_ok h22) (.cons (V.asI_ok h23) (.cons (V.asI_ok h24) (.cons (V.asI_ok h25) (.cons (V.asI_ok h26) (.cons (V.asI_ok h27) Wks.nil))))))))))))))))))))))))))))
  · cases h
theorem decRep_ok (o : Nat) (cs : List V) (x : DRep) (h : decRep o cs = some x) : Wks cs (encRep o x) := by
  unfold decRep at h
  split at h
  · obtain ⟨x0, h0, h⟩ := bind_some h
    obtain ⟨x1, h1, h⟩ := bind_some h
    obtain ⟨x2, h2, h⟩ := bind_some h
    obtain ⟨x3, h3, h⟩ := bind_some h
    injection h with h
    subst h
    exact (.cons (V.asI_ok h0) (.cons (V.asI_ok h1) (.cons (V.asI_ok h2) (.cons (V.asI_ok h3) Wks.nil))))
  · cases h
theorem decController_ok (o : Nat) (cs : List V) (x : DController) (h : decController o cs = some x) : Wks cs (encController o x) := by
  unfold decController at h
  split at h
  · obtain ⟨x0, h0, h⟩ := bind_some h
    obtain ⟨x1, h1, h⟩ := bind_some h
    obtain ⟨x2, h2, h⟩ := bind_some h
    obtain ⟨x3, h3, h⟩ := bind_some h
    obtain ⟨x4, h4, h⟩ := bind_some h
    obtain ⟨x5, h5, h⟩ := bind_some h
    obtain ⟨x6, h6, h⟩ := bind_some h
    obtain ⟨x7, h7, h⟩ := bind_some h
    obtain ⟨x8, h8, h⟩ := bind_some h
    obtain ⟨x9, h9, h⟩ := bind_some h
    obtain ⟨x10, h10, h⟩ := bind_some h
    obtain ⟨x11, h11, h⟩ := bind_some h
    obtain ⟨x12, h12, h⟩ := bind_some h
    obtain ⟨x13, h13, h⟩ := bind_some h
    obtain ⟨x14, h14, h⟩ := bind_some h
    obtain ⟨x15, h15, h⟩ := bind_some h
    obtain ⟨x16, h16, h⟩ := bind_some h
    obtain ⟨x17, h17, h⟩ := bind_some h
    obtain ⟨x18, h18, h⟩ := bind_some h
    obtain ⟨x19, h19, h⟩ := bind_some h
    obtain ⟨x20, h20, h⟩ := bind_some h
    obtain ⟨x21, h21, h⟩ := bind_some h
    obtain ⟨x22, h22, h⟩ := bind_some h
    obtain ⟨x23, h23, h⟩ := bind_some h
    obtain ⟨x24, h24, h⟩ := bind_some h
    obtain ⟨x25, h25, h⟩ := bind_some h
    obtain ⟨x26, h26, h⟩ := bind_some h
    obtain ⟨x27, h27, h⟩ := bind_some h
    obtain ⟨x28, h28, h⟩ := bind_some h
    obtain ⟨x29, h29, h⟩ := bind_some h
    obtain ⟨x30, h30, h⟩ := bind_some h
    obtain ⟨x31, h31, h⟩ := bind_some h
    obtain ⟨x32, h32, h⟩ := bind_some h
    obtain ⟨x33, h33, h⟩ := bind_some h
    obtain ⟨x34, h34, h⟩ := bind_some h
    obtain ⟨x35, h35, h⟩ := bind_some h
    obtain ⟨x36, h36, h⟩ := bind_some h
    obtain ⟨x37, h37, h⟩ := bind_some h
    obtain ⟨x38, h38, h⟩ := bind_some h
    obtain ⟨x39, h39, h⟩ := bind_some h
    obtain ⟨x40, h40, h⟩ := bind_some h
    obtain ⟨x41, h41, h⟩ := bind_some h
    obtain ⟨x42, h42, h⟩ := bind_some h
    obtain ⟨x43, h43, h⟩ := bind_some h
    obtain ⟨x44, h44, h⟩ := bind_some h
    obtain ⟨x45, h45, h⟩ := bind_some h
    obtain ⟨x46, h46, h⟩ := bind_some h
    obtain ⟨x47, h47, h⟩ := bind_some h
    obtain ⟨x48, h48, h⟩ := bind_some h
    obtain ⟨x49, h49, h⟩ := bind_some h
    obtain ⟨x50, h50, h⟩ := bind_some h
    obtain ⟨x51, h51, h⟩ := bind_some h
    obtain ⟨x52, h52, h⟩ := bind_some h
    obtain ⟨x53, h53, h⟩ := bind_some h
    obtain ⟨x54, h54, h⟩ := bind_some h
    obtain ⟨x55, h55, h⟩ := bind_some h
    obtain ⟨x56, h56, h⟩ := bind_some h
    obtain ⟨x57, h57, h⟩ := bind_some h
    obtain ⟨x58, h58, h⟩ := bind_some h
    obtain ⟨x59, h59, h⟩ := bind_some h
    obtain ⟨x60, h60, h⟩ := bind_some h
    obtain ⟨x61, h61, h⟩ := bind_some h
    obtain ⟨x62, h62, h⟩ := bind_some h
    obtain ⟨x63, h63, h⟩ := bind_some h
    obtain ⟨x64, h64, h⟩ := bind_some h
    obtain ⟨x65, h65, h⟩ := bind_some h
    obtain ⟨x66, h66, h⟩ := bind_some h
    obtain ⟨x67, h67, h⟩ := bind_some h
    obtain ⟨x68, h68, h⟩ := bind_some h
    obtain ⟨x69, h69, h⟩ := bind_some h
    obtain ⟨x70, h70, h⟩ := bind_some h
    obtain ⟨x71, h71, h⟩ := bind_some h
    obtain ⟨x72, h72, h⟩ := bind_some h
    obtain ⟨x73, h73, h⟩ := bind_some h
    obtain ⟨x74, h74, h⟩ := bind_some h
    injection h with h
    subst h
    exact (.cons (V.asI_ok h0) (.cons (V.asI_ok h1) (.cons (V.asI_ok h2) (.cons (V.asI_ok h3) (.cons (V.asI_ok h4) (.cons (V.asI_ok h5) (.cons (V.asI_ok h6) (.cons (V.asI_ok h7) (.cons (V.asI_ok h8) (.cons (V.asI_ok h9) (.cons (V.asI_ok h10) (.cons (V.asI_ok h11) (.cons (V.asI_ok h12) (.cons (V.asI_ok h13) (.cons (V.asI_ok h14) (.cons (V.asI_ok h15) (.cons (V.asI_ok h16) (.cons (V.asI_ok h17) (.cons (V.asI_ok h18) (.cons (V.asI_ok h19) (.cons (V.asI_ok h20) (.cons (V.asI_ok h21) (.cons (V.asB_ok h22) (.cons (V.asI_ok h23) (.cons (V.asI_ok h24) (.cons (V.asI_ok h25) (.cons (V.asI_ok h26) (.cons (V.asI_ok h27) (.cons (V.asI_ok h28) (.cons (V.asI_ok h29) (.cons (V.asI_ok h30) (.cons (V.asI_ok h31) (.cons (V.asI_ok h32) (.cons (V.asL_ok h33) (.cons (V.asI_ok h34) (.cons (V.asI_ok h35) (.cons (V.asI_ok h36) (.cons (V.asI_ok h37) (.cons (V.asI_ok h38) (.cons (V.asI_ok h39) (.cons (V.asI_ok h40) (.cons (V.asL_ok h41) (.cons (V.asI_ok h42) (.cons (V.asI_ok h43) (.cons (V.asB_ok h44) (.cons (V.asI_ok h45) (.cons (V.asL_ok h46) (.cons (V.asI_ok h47) (.cons (V.asL_ok h48) (.cons (V.asL_ok h49) (.cons (V.asL_ok h50) (.cons (V.asL_ok h51) (.cons (V.asL_ok h52) (.cons (V.asI_ok h53) (.cons (V.asL_ok h54) (.cons (V.asL_ok h55) (.cons (V.asI_ok h56) (.cons (V.asB_ok h57) (.cons (V.asL_ok h58) (.cons (V.asL_ok h59) (.cons (V.asL_ok h60) (.cons (V.asL_ok h61) (.cons (V.asL_ok h62) (.cons (V.asB_ok h63) (.cons (V.asI_ok h64) (.cons (V.asI_ok h65) (.cons (V.asI_ok h66) (.cons (V.asI_ok h67) (.cons (V.asI_ok h68) (.cons (V.asI_ok h69) (.cons (V.asI_ok h70) (.cons (V.asI_ok h71) (.cons (V.asL_ok h72) (.cons (V.asL_ok h73) (.cons (V.asL_ok h74) Wks.nil)))))))))))))))))))))))))))))))))))))))))))))))))))))))))))))))))))))))))))
  · cases h
theorem decAct_ok (o : Nat) (cs : List V) (x : DAct) (h : decAct o cs = some x) : Wks cs (encAct o x) := by
  unfold decAct at h
  split at h
  · obtain ⟨x0, h0, h⟩ := bind_some h
    obtain ⟨x1, h1, h⟩ := bind_some h
    obtain ⟨x2, h2, h⟩ := bind_some h
    obtain ⟨x3, h3, h⟩ := bind_some h
    obtain ⟨x4, h4, h⟩ := bind_some h
    obtain ⟨x5, h5, h⟩ := bind_some h
    obtain ⟨x6, h6, h⟩ := bind_some h
    obtain ⟨x7, h7, h⟩ := bind_some h
    obtain ⟨x8, h8, h⟩ := bind_some h
    obtain ⟨x9, h9, h⟩ := bind_some h
    obtain ⟨x10, h10, h⟩ := bind_some h
    obtain ⟨x11, h11, h⟩ := bind_some h
    obtain ⟨x12, h12, h⟩ := bind_some h
    obtain ⟨x13, h13, h⟩ := bind_some h
    obtain ⟨x14, h14, h⟩ := bind_some h
    obtain ⟨x15, h15, h⟩ := bind_some h
    obtain ⟨x16, h16, h⟩ := bind_some h
    obtain ⟨x17, h17, h⟩ := bind_some h
    obtain ⟨x18, h18, h⟩ := bind_some h
    obtain ⟨x19, h19, h⟩ := bind_some h
    injection h with h
    subst h
    exact (.cons (V.asI_ok h0) (.cons (V.asI_ok h1) (.cons (V.asI_ok h2) (.cons (V.asI_ok h3) (.cons (V.asB_ok h4) (.cons (V.asI_ok h5) (.cons (V.asI_ok h6) (.cons (V.asI_ok h7) (.cons (V.asI_ok h8) (.cons (V.asI_ok h9) (.cons (V.asI_ok h10) (.cons (V.asI_ok h11) (.cons (V.asI_ok h12) (.cons (V.asI_ok h13) (.cons (V.asI_ok h14) (.cons (V.asI_ok h15) (.cons (V.asI_ok h16) (.cons (V.asL_ok h17) (.cons (V.asI_ok h18) (.cons (V.asI_ok h19) Wks.nil))))))))))))))))))))
  · cases h
theorem decFact_ok (o : Nat) (cs : List V) (x : DFact) (h : decFact o cs = some x) : Wks cs (encFact o x) := by
  unfold decFact at h
  split at h
  · obtain ⟨x0, h0, h⟩ := bind_some h
    obtain ⟨x1, h1, h⟩ := bind_some h
    obtain ⟨x2, h2, h⟩ := bind_some h
    injection h with h
    subst h
    exact (.cons (V.asI_ok h0) (.cons (V.asI_ok h1) (.cons (V.asI_ok h2) Wks.nil)))
  · cases h
theorem dec1_ok {α : Type} {f : V → Option α} {g : α → V} (hf : ∀ x a, f x = some a → Wk x (g a)) {cs : List V} {x : α} (h : dec1 f cs = some x) : Wks cs [g x] := by
  unfold dec1 at h
  split at h
  · exact .cons (hf _ _ h) .nil
  · cases h
theorem dec_ok : (t : TC) → (o : Nat) → (cs : List V) → (x : T t) → dec t o cs = some x → Wks cs (enc t o x)
  | .int, _, _, _, h => dec1_ok (g := fun n => .int .i64 n) (fun _ _ => V.asI_ok) h
  | .u8, _, _, _, h => dec1_ok (g := fun n => .int .u8 n) (fun _ _ => V.asU8_ok) h
  | .bool, _, _, _, h => dec1_ok (g := fun n => .bool n) (fun _ _ => V.asB_ok) h
  | .str, _, _, _, h => dec1_ok (g := fun n => .str n) (fun _ _ => V.asS_ok) h
  | .Geometry, o, cs, x, h => decGeometry_ok o cs x h
  | .Addr, o, cs, x, h => decAddr_ok o cs x h
  | .Mapping, o, cs, x, h => decMapping_ok o cs x h
  | .Partition, o, cs, x, h => decPartition_ok o cs x h
  | .Command, o, cs, x, h => decCommand_ok o cs x h
  | .Timing, o, cs, x, h => decTiming_ok o cs x h
  | .Bank, o, cs, x, h => decBank_ok o cs x h
  | .Rank, o, cs, x, h => decRank_ok o cs x h
  | .Event, o, cs, x, h => decEvent_ok o cs x h
  | .Ready, o, cs, x, h => decReady_ok o cs x h
  | .Cell, o, cs, x, h => decCell_ok o cs x h
  | .Array, o, cs, x, h => decArray_ok o cs x h
  | .Limits, o, cs, x, h => decLimits_ok o cs x h
  | .Tracker, o, cs, x, h => decTracker_ok o cs x h
  | .Spare, o, cs, x, h => decSpare_ok o cs x h
  | .Refresh, o, cs, x, h => decRefresh_ok o cs x h
  | .Req, o, cs, x, h => decReq_ok o cs x h
  | .Share, o, cs, x, h => decShare_ok o cs x h
  | .Drain, o, cs, x, h => decDrain_ok o cs x h
  | .Slots, o, cs, x, h => decSlots_ok o cs x h
  | .Served, o, cs, x, h => decServed_ok o cs x h
  | .Power, o, cs, x, h => decPower_ok o cs x h
  | .PowerRule, o, cs, x, h => decPowerRule_ok o cs x h
  | .ErrorEntry, o, cs, x, h => decErrorEntry_ok o cs x h
  | .LogStore, o, cs, x, h => decLogStore_ok o cs x h
  | .Sender, o, cs, x, h => decSender_ok o cs x h
  | .Receiver, o, cs, x, h => decReceiver_ok o cs x h
  | .Node, o, cs, x, h => decNode_ok o cs x h
  | .Tree, o, cs, x, h => decTree_ok o cs x h
  | .Secure, o, cs, x, h => decSecure_ok o cs x h
  | .Scrubber, o, cs, x, h => decScrubber_ok o cs x h
  | .Ticket, o, cs, x, h => decTicket_ok o cs x h
  | .Move, o, cs, x, h => decMove_ok o cs x h
  | .Policy, o, cs, x, h => decPolicy_ok o cs x h
  | .PolicyBox, o, cs, x, h => decPolicyBox_ok o cs x h
  | .Config, o, cs, x, h => decConfig_ok o cs x h
  | .Rep, o, cs, x, h => decRep_ok o cs x h
  | .Controller, o, cs, x, h => decController_ok o cs x h
  | .Act, o, cs, x, h => decAct_ok o cs x h
  | .Fact, o, cs, x, h => decFact_ok o cs x h
  | .sl t, o, _, _, h => dec1_ok (g := fun n => .sl t o false n) (fun _ _ => V.asL_ok) h
/-- The grade of what a value leads to if all of it is owned. -/
def full : TC → Nat
  | .int | .u8 | .bool | .str => 0
  | .Geometry => 0
  | .Addr => 0
  | .Mapping => 0
  | .Partition => 2
  | .Command => 0
  | .Timing => 0
  | .Bank => 0
  | .Rank => 2
  | .Event => 0
  | .Ready => 2
  | .Cell => 2
  | .Array => 4
  | .Limits => 0
  | .Tracker => 2
  | .Spare => 2
  | .Refresh => 2
  | .Req => 0
  | .Share => 0
  | .Drain => 0
  | .Slots => 2
  | .Served => 0
  | .Power => 0
  | .PowerRule => 0
  | .ErrorEntry => 0
  | .LogStore => 2
  | .Sender => 2
  | .Receiver => 2
  | .Node => 0
  | .Tree => 2
  | .Secure => 2
  | .Scrubber => 0
  | .Ticket => 2
  | .Move => 0
  | .Policy => 2
  | .PolicyBox => 2
  | .Config => 0
  | .Rep => 0
  | .Controller => 4
  | .Act => 2
  | .Fact => 0
  | .sl t => full t + 2
def V.low (n : Nat) : V → Bool
  | .sl t _ _ _ => Nat.ble (full t + 2) n
  | _ => true
theorem enc_full (t : TC) (o : Nat) (x : T t) : ∀ y ∈ enc t o x, y.low (full t) = true := by
  cases t <;> simp [enc, V.low, full, encGeometry, encAddr, encMapping, encPartition, encCommand, encTiming, encBank, encRank, encEvent, encReady, encCell, encArray, encLimits, encTracker, encSpare, encRefresh, encReq, encShare, encDrain, encSlots, encServed, encPower, encPowerRule, encErrorEntry, encLogStore, encSender, encReceiver, encNode, encTree, encSecure, encScrubber, encTicket, encMove, encPolicy, encPolicyBox, encConfig, encRep, encController, encAct, encFact]
def V.plain : V → Bool
  | .int _ _ | .bool _ | .str _ => true
  | _ => false
theorem enc_plain (t : TC) (o : Nat) (x : T t) (h : full t = 0) : ∀ y ∈ enc t o x, y.plain = true := by
  cases t <;> first | (simp [full] at h; done) | simp [enc, V.plain, encGeometry, encAddr, encMapping, encCommand, encTiming, encBank, encEvent, encLimits, encReq, encShare, encDrain, encServed, encPower, encPowerRule, encErrorEntry, encNode, encScrubber, encMove, encConfig, encRep, encFact]
def tcs : List TC := [.int, .u8, .bool, .str, .sl .int, .sl .bool, .sl .str, .Geometry, .Addr, .Mapping, .Partition, .Command, .Timing, .Bank, .Rank, .Event, .Ready, .Cell, .Array, .Limits, .Tracker, .Spare, .Refresh, .Req, .Share, .Drain, .Slots, .Served, .Power, .PowerRule, .ErrorEntry, .LogStore, .Sender, .Receiver, .Node, .Tree, .Secure, .Scrubber, .Ticket, .Move, .Policy, .PolicyBox, .Config, .Rep, .Controller, .Act, .Fact]
def tcOf (e : TypeId) : Option TC := tcs.find? fun t => Nat.beq (tid t) e
theorem tcOf_ok {e : TypeId} {t : TC} (h : tcOf e = some t) : tid t = e := Nat.eq_of_beq_eq_true (List.find?_some (p := fun t => Nat.beq (tid t) e) h)
def V.gr (o : Nat) : V → Bool
  | .sl _ o' _ _ => o' == o
  | _ => true
theorem enc_gr (t : TC) (o : Nat) (x : T t) : ∀ y ∈ enc t o x, y.gr o = true := by
  cases t <;> simp [enc, V.gr, encGeometry, encAddr, encMapping, encPartition, encCommand, encTiming, encBank, encRank, encEvent, encReady, encCell, encArray, encLimits, encTracker, encSpare, encRefresh, encReq, encShare, encDrain, encSlots, encServed, encPower, encPowerRule, encErrorEntry, encLogStore, encSender, encReceiver, encNode, encTree, encSecure, encScrubber, encTicket, encMove, encPolicy, encPolicyBox, encConfig, encRep, encController, encAct, encFact]
/-- Contents that nobody writes. -/
def V.fro : V → Bool
  | .sl _ o _ _ => decide (o < 2)
  | _ => true
/-- The contents, held to be frozen. -/
def V.frz : V → V
  | .sl t _ q l => .sl t 0 q l
  | x => x
theorem V.frz_fro (x : V) : x.frz.fro = true := by cases x <;> simp [V.frz, V.fro]
theorem enc_fro (t : TC) (o : Nat) (x : T t) (ho : o < 2) (j : Nat) (y : V) (h : (enc t o x)[j]? = some y) : y.fro = true := by
  have := enc_gr t o x y (List.mem_of_getElem? h)
  cases y <;> simp_all [V.gr, V.fro]
theorem enc_frz_eq (t : TC) (o : Nat) (x : T t) : enc t 0 x = (enc t o x).map V.frz := by cases t <;> rfl
theorem enc_frz (t : TC) (o : Nat) (x : T t) (j : Nat) (y : V) (h : (enc t 0 x)[j]? = some y) : ∃ z, (enc t o x)[j]? = some z ∧ y = z.frz := by
  rw [enc_frz_eq t o x, List.getElem?_map] at h
  cases hz : (enc t o x)[j]? with
  | none => rw [hz] at h; cases h
  | some z => rw [hz] at h; injection h with h; exact ⟨z, rfl, h.symm⟩

/-- The grade of what a slice's elements lead to. -/
def inner : Nat → Nat
  | 0 => 0
  | 1 => 1
  | n + 2 => n

abbrev Lab := Nat → Option (List Nat)
/-- In world w a value stands for contents, at a cell with a key: frozen memory bears no label; a slice that is owned lies in a block that bears its cell's key. -/
inductive RV (w : World) (B : Nat) (lab : Lab) : List Nat → V → Value → Prop
  | int (q : List Nat) (k : IntKind) (n : Int) : RV w B lab q (.int k n) (.int k n)
  | bool (q : List Nat) (b : Bool) : RV w B lab q (.bool b) (.bool b)
  | str (q : List Nat) (s : ByteArray) : RV w B lab q (.str s) (.string s)
  | nil (q : List Nat) : RV w B lab q .nil (.slice none 0 0)
  | slNil (q : List Nat) (t : TC) (o : Nat) : RV w B lab q (.sl t o false []) (.slice none 0 0)
  | slEmp (q : List Nat) (t : TC) (o : Nat) (A : Option Addr) (c : Nat) (ho : o < 2) : RV w B lab q (.sl t o false []) (.slice A 0 c)
  | fro (q : List Nat) (t : TC) (o : Nat) (qn : Bool) (l : List (T t)) (b off cap : Nat) (u : Nat → Nat → Value) (ho : o < 2) (hl : lab b = none) (hb : b < w.heap.size) (h1 : o = 1 → B ≤ b) (hcap : l.length ≤ cap)
      (hc : ∀ i (h : i < l.length) j x, (enc t o l[i])[j]? = some x → w.cell? ⟨b, off + (i * csz t + j), none⟩ = some (u i j))
      (hr : ∀ i (h : i < l.length) j x, (enc t o l[i])[j]? = some x → RV w B lab [] x (u i j)) : RV w B lab q (.sl t o qn l) (.slice (some ⟨b, off, none⟩) l.length cap)
  | own (q : List Nat) (t : TC) (o : Nat) (qn : Bool) (l : List (T t)) (b cap : Nat) (cs : Array Value) (u : Nat → Nat → Value) (hl : lab b = some q) (hh : w.heap[b]? = some (.cells cs (tid t) (0, 0)))
      (hs : cs.size = cap * csz t) (hn : l.length ≤ cap) (hm : cap ≤ maxLen)
      (hc : ∀ i (h : i < l.length) j x, (enc t o l[i])[j]? = some x → cs[i * csz t + j]? = some (u i j))
      (hr : ∀ i (h : i < l.length) j x, (enc t o l[i])[j]? = some x → RV w B lab (j :: i :: csz t :: q) x (u i j)) : RV w B lab q (.sl t (o + 2) qn l) (.slice (some ⟨b, 0, none⟩) l.length cap)

section
variable {w w' : World} {B : Nat} {lab lab' : Lab}

theorem RV.wk {q : List Nat} {x y : V} {v : Value} (h : RV w B lab q x v) (k : Wk x y) : RV w B lab q y v := by
  cases k with
  | same => exact h
  | nil t o => cases h; exact .slNil _ _ _
  | q t o l =>
    cases h with
    | fro q t o qn l b off cap u ho hl hb h1 hcap hc hr => exact .fro _ _ _ _ _ _ _ _ u ho hl hb h1 hcap hc hr
    | own q t o qn l b cap cs u hl hh hs hn hm hc hr => exact .own _ _ _ _ _ _ _ cs u hl hh hs hn hm hc hr

/-- Of frozen contents the key is of no account. -/
theorem RV.key {q q' : List Nat} {x : V} {v : Value} (h : RV w B lab q x v) (hf : x.fro = true) : RV w B lab q' x v := by
  cases h with
  | int => exact .int _ _ _
  | bool => exact .bool _ _
  | str => exact .str _ _
  | nil => exact .nil _
  | slNil => exact .slNil _ _ _
  | slEmp => exact .slEmp _ _ _ _ _ (by first | assumption | omega)
  | fro q t o qn l b off cap u ho hl hb h1 hcap hc hr => exact .fro _ _ _ _ _ _ _ _ u ho hl hb h1 hcap hc hr
  | own q t o qn l b cap cs u hl hh hs hn hm hc hr => simp [V.fro] at hf; omega

def isSl : Value → Bool
  | .slice .. => true
  | _ => false
theorem RV.notfro {q : List Nat} {x : V} {u : Value} (h : RV w B lab q x u) (hf : x.fro = false) : isSl u = true := by
  cases h <;> first | rfl | cases hf
theorem RV.one {q : List Nat} {x : V} {u : Value} (h : RV w B lab q x u) : u.oneCell' = true := by
  cases h <;> rfl

/-- What a world keeps of another: every block that is there, and its label. -/
theorem RV.keep {q : List Nat} {x : V} {v : Value} (h : RV w B lab q x v) (hz : w.heap.size ≤ w'.heap.size) (hk : ∀ b, b < w.heap.size → w'.heap[b]? = w.heap[b]? ∧ lab' b = lab b) : RV w' B lab' q x v := by
  induction h with
  | int => exact .int _ _ _
  | bool => exact .bool _ _
  | str => exact .str _ _
  | nil => exact .nil _
  | slNil => exact .slNil _ _ _
  | slEmp => exact .slEmp _ _ _ _ _ (by first | assumption | omega)
  | fro q t o qn l b off cap u ho hl hb h1 hcap hc hr ih =>
    exact .fro _ _ _ _ _ _ _ _ u ho ((hk b hb).2.trans hl) (Nat.lt_of_lt_of_le hb hz) h1 hcap (fun i h j x hx => (World.cell?_of_block (a := ⟨b, _, none⟩) (hk b hb).1).trans (hc i h j x hx)) ih
  | own q t o qn l b cap cs u hl hh hs hn hm hc hr ih =>
    have hb : b < w.heap.size := (Array.getElem?_eq_some_iff.1 hh).1
    exact .own _ _ _ _ _ _ _ cs u ((hk b hb).2.trans hl) ((hk b hb).1.trans hh) hs hn hm hc ih

/-- One block that is owned is written: contents that do not lead to it are kept. -/
theorem RV.apart {q kt : List Nat} {x : V} {v : Value} {bt : Nat} (h : RV w B lab q x v) (hbt : lab bt = some kt) (hq : ¬ q <:+ kt ∨ x.fro = true) (hz : w.heap.size ≤ w'.heap.size) (hk : ∀ b, b ≠ bt → w'.heap[b]? = w.heap[b]?) : RV w' B lab q x v := by
  induction h with
  | int => exact .int _ _ _
  | bool => exact .bool _ _
  | str => exact .str _ _
  | nil => exact .nil _
  | slNil => exact .slNil _ _ _
  | slEmp => exact .slEmp _ _ _ _ _ (by first | assumption | omega)
  | fro q t o qn l b off cap u ho hl hb h1 hcap hc hr ih =>
    have hne : b ≠ bt := by rintro rfl; rw [hl] at hbt; cases hbt
    refine .fro _ _ _ _ _ _ _ _ u ho hl (Nat.lt_of_lt_of_le hb hz) h1 hcap (fun i h j x hx => (World.cell?_of_block (a := ⟨b, _, none⟩) (hk b hne)).trans (hc i h j x hx)) (fun i h j x hx => ih i h j x hx (.inr (enc_fro t o l[i] ho j x hx)))
  | own q t o qn l b cap cs u hl hh hs hn hm hc hr ih =>
    have hq' : ¬ q <:+ kt := by
      rcases hq with hq | hq
      · exact hq
      · simp [V.fro] at hq; omega
    have hne : b ≠ bt := by rintro rfl; rw [hl] at hbt; injection hbt with hbt; subst hbt; exact hq' (List.suffix_refl _)
    refine .own _ _ _ _ _ _ _ cs u hl ((hk b hne).trans hh) hs hn hm hc (fun i h j x hx => ih i h j x hx (.inl fun hs => hq' (List.IsSuffix.trans ⟨[j, i, csz t], rfl⟩ hs)))

/-- What memory bears reads as frozen contents wherever no block is labelled. -/
theorem RV.frz {q q' : List Nat} {x : V} {v : Value} (h : RV w B lab q x v) {B' : Nat} : RV w B' (fun _ => none) q' x.frz v := by
  induction h generalizing q' with
  | int => exact .int _ _ _
  | bool => exact .bool _ _
  | str => exact .str _ _
  | nil => exact .nil _
  | slNil => exact .slNil _ _ _
  | slEmp => exact .slEmp _ _ _ _ _ (by first | assumption | omega)
  | fro q t o qn l b off cap u ho hl hb h1 hcap hc hr ih =>
    refine .fro _ _ _ _ _ _ _ _ u (by omega) rfl hb (by omega) hcap (fun i h j x hx => ?_) (fun i h j x hx => ?_)
    · obtain ⟨y, hy, _⟩ := enc_frz t o l[i] j x hx
      exact hc i h j y hy
    · obtain ⟨y, hy, rfl⟩ := enc_frz t o l[i] j x hx
      exact ih i h j y hy
  | own q t o qn l b cap cs u hl hh hs hn hm hc hr ih =>
    refine .fro _ _ _ _ _ _ _ _ u (by omega) rfl (Array.getElem?_eq_some_iff.1 hh).1 (by omega) hn (fun i h j x hx => ?_) (fun i h j x hx => ?_)
    · obtain ⟨y, hy, _⟩ := enc_frz t o l[i] j x hx
      have := hc i h j y hy
      rw [Nat.zero_add, cell_of_row w b _ cs _ _ hh]
      exact this
    · obtain ⟨y, hy, rfl⟩ := enc_frz t o l[i] j x hx
      exact ih i h j y hy
end
end Go.Proofs.Ytkgliadgedamiaa
