/-
  Running the program over pure contents, and that it follows (part 1). Nothing here is a claim.
-/
import Derived.Test.YtckjagaogcbedaaGreatAppend
import Derived.Test.YtckjagaogcbedaaGreatLaws
import Derived.Handy
import Derived.Great.BuildSlice
set_option linter.unusedSimpArgs false
namespace Go.Proofs.YtckjagaogcbedaaGreat
open Go.RowKit
set_option linter.unusedVariables false
set_option linter.unusedSimpArgs false
structure DGeometry where
  groups : Int
  banks : Int
  rows : Int
  cols : Int
structure DAddr where
  bank : Int
  row : Int
  col : Int
structure DMapping where
  order : Int
  hash : Bool
structure DPartition where
  owner : List Int
structure DCommand where
  kind : Int
  bank : Int
  row : Int
  col : Int
structure DTiming where
  rcd : Int
  rp : Int
  ras : Int
  rrds : Int
  rrdl : Int
  faw : Int
  ccds : Int
  ccdl : Int
  rtp : Int
  wr : Int
  wtrs : Int
  wtrl : Int
  rtw : Int
  rfc : Int
  cke : Int
  xp : Int
  xs : Int
structure DBank where
  open_ : Bool
  row : Int
structure DRank where
  banks : List DBank
  power : Int
structure DEvent where
  at_ : Int
  cmd : DCommand
structure DReady where
  last : List Int
  acts : List Int
structure DCell where
  symbols : List Int
  poison : Bool
structure DArray where
  cells : List DCell
  age : List Int
  hits : List Int
structure DLimits where
  age : Int
  hits : Int
structure DTracker where
  rows : List Int
  counts : List Int
  spill : Int
structure DSpare where
  spares : Int
  map : List Int
structure DRefresh where
  debt : List Int
  wait : Int
  hot : Bool
structure DReq where
  id : Int
  tenant : Int
  line : Int
  write : Bool
  data : Int
  at_ : Int
structure DShare where
  weight : Int
  credit : Int
structure DDrain where
  on : Bool
  low : Int
  high : Int
structure DSlots where
  owner : List Int
  length : Int
structure DServed where
  id : Int
  at_ : Int
structure DPower where
  state : Int
  since : Int
  idle : Int
structure DPowerRule where
  down : Int
  sleep : Int
structure DErrorEntry where
  line : Int
  code : Int
  times : Int
structure DLogStore where
  slots : List ByteArray
structure DSender where
  frames : List Int
  next : Int
structure DReceiver where
  count : Int
  commands : List DCommand
structure DNode where
  count : Int
  tag : Int
structure DTree where
  root : Int
  mid : List DNode
  leaf : List DNode
structure DSecure where
  key : Int
  tree : DTree
  data : List Int
  tags : List Int
structure DScrubber where
  next : Int
  every : Int
  wait : Int
structure DTicket where
  index : Int
  before : DCell
  after : DCell
  code : Int
structure DMove where
  bank : Int
  from_ : Int
  to : Int
  next : Int
structure DPolicy where
  page : Int
  cap : Int
  limit : Int
  low : Int
  high : Int
  weights : List Int
  rule : DPowerRule
structure DPolicyBox where
  active : DPolicy
  next : DPolicy
  waits : Bool
structure DConfig where
  geometry : DGeometry
  timing : DTiming
  mapping : DMapping
  spares : Int
  interval : Int
  track : Int
  limits : DLimits
structure DRep where
  id : Int
  at_ : Int
  data : Int
  code : Int
structure DController where
  config : DConfig
  box : DPolicyBox
  now : Int
  rank : DRank
  ready : DReady
  array : DArray
  spare : DSpare
  refresh : DRefresh
  trackers : List DTracker
  guard : List Int
  pending : List DAddr
  queue : List DReq
  shares : List DShare
  drain : DDrain
  power : DPower
  scrubber : DScrubber
  errors : List DErrorEntry
  trace : List DEvent
  replies : List DRep
structure DAct where
  kind : Int
  request : DReq
  n : Int
  chip : Int
  addr : DAddr
  policy : DPolicy
structure DFact where
  line : Int
  data : Int
  code : Int
structure DCur where
  b : List Int
  i : Int
  h : Int
/-- The codes of the types. -/
inductive TC where
  | int | u8 | bool | str
  | Geometry
  | Addr
  | Mapping
  | Partition
  | Command
  | Timing
  | Bank
  | Rank
  | Event
  | Ready
  | Cell
  | Array
  | Limits
  | Tracker
  | Spare
  | Refresh
  | Req
  | Share
  | Drain
  | Slots
  | Served
  | Power
  | PowerRule
  | ErrorEntry
  | LogStore
  | Sender
  | Receiver
  | Node
  | Tree
  | Secure
  | Scrubber
  | Ticket
  | Move
  | Policy
  | PolicyBox
  | Config
  | Rep
  | Controller
  | Act
  | Fact
  | Cur
  | sl (t : TC)
  | fpController
  | fnInt (g : Nat)
  | fnReq (g : Nat)
  | fnAddr (g : Nat)
  | fnCommand (g : Nat)
deriving DecidableEq
def T : TC -> Type
  | .int => Int
  | .u8 => Int
  | .bool => Bool
  | .str => ByteArray
  | .Geometry => DGeometry
  | .Addr => DAddr
  | .Mapping => DMapping
  | .Partition => DPartition
  | .Command => DCommand
  | .Timing => DTiming
  | .Bank => DBank
  | .Rank => DRank
  | .Event => DEvent
  | .Ready => DReady
  | .Cell => DCell
  | .Array => DArray
  | .Limits => DLimits
  | .Tracker => DTracker
  | .Spare => DSpare
  | .Refresh => DRefresh
  | .Req => DReq
  | .Share => DShare
  | .Drain => DDrain
  | .Slots => DSlots
  | .Served => DServed
  | .Power => DPower
  | .PowerRule => DPowerRule
  | .ErrorEntry => DErrorEntry
  | .LogStore => DLogStore
  | .Sender => DSender
  | .Receiver => DReceiver
  | .Node => DNode
  | .Tree => DTree
  | .Secure => DSecure
  | .Scrubber => DScrubber
  | .Ticket => DTicket
  | .Move => DMove
  | .Policy => DPolicy
  | .PolicyBox => DPolicyBox
  | .Config => DConfig
  | .Rep => DRep
  | .Controller => DController
  | .Act => DAct
  | .Fact => DFact
  | .Cur => DCur
  | .sl t => List (T t)
  | .fpController => DController
  | .fnInt _ => Int
  | .fnReq _ => DReq
  | .fnAddr _ => DAddr
  | .fnCommand _ => DCommand
def csz : TC -> Nat
  | .fpController => 76
  | .fnInt _ => 3
  | .fnReq _ => 8
  | .fnAddr _ => 5
  | .fnCommand _ => 6
  | .Geometry => 4
  | .Addr => 3
  | .Mapping => 2
  | .Partition => 1
  | .Command => 4
  | .Timing => 17
  | .Bank => 2
  | .Rank => 2
  | .Event => 5
  | .Ready => 2
  | .Cell => 2
  | .Array => 3
  | .Limits => 2
  | .Tracker => 3
  | .Spare => 2
  | .Refresh => 3
  | .Req => 6
  | .Share => 2
  | .Drain => 3
  | .Slots => 2
  | .Served => 2
  | .Power => 3
  | .PowerRule => 2
  | .ErrorEntry => 3
  | .LogStore => 1
  | .Sender => 2
  | .Receiver => 2
  | .Node => 2
  | .Tree => 3
  | .Secure => 6
  | .Scrubber => 3
  | .Ticket => 6
  | .Move => 4
  | .Policy => 8
  | .PolicyBox => 17
  | .Config => 28
  | .Rep => 4
  | .Controller => 75
  | .Act => 20
  | .Fact => 3
  | .Cur => 3
  | _ => 1
/-- The grade of what a value leads to if all of it is owned. -/
def full : TC -> Nat
  | .int | .u8 | .bool | .str => 0
  | .Geometry => 0
  | .Addr => 0
  | .Mapping => 0
  | .Partition => 2
  | .Command => 0
  | .Timing => 0
  | .Bank => 0
  | .Rank => 2
  | .Event => 0
  | .Ready => 2
  | .Cell => 2
  | .Array => 4
  | .Limits => 0
  | .Tracker => 2
  | .Spare => 2
  | .Refresh => 2
  | .Req => 0
  | .Share => 0
  | .Drain => 0
  | .Slots => 2
  | .Served => 0
  | .Power => 0
  | .PowerRule => 0
  | .ErrorEntry => 0
  | .LogStore => 2
  | .Sender => 2
  | .Receiver => 2
  | .Node => 0
  | .Tree => 2
  | .Secure => 2
  | .Scrubber => 0
  | .Ticket => 2
  | .Move => 0
  | .Policy => 2
  | .PolicyBox => 2
  | .Config => 0
  | .Rep => 0
  | .Controller => 4
  | .Act => 2
  | .Fact => 0
  | .Cur => 2
  | .sl t => full t + 2
  | .fpController => 4
  | .fnInt _ => 0
  | .fnReq _ => 0
  | .fnAddr _ => 0
  | .fnCommand _ => 0
/-- The number of a type in this program (0 where the program does not have it). -/
def tid : TC -> TypeId
  | .int => 3
  | .u8 => 5
  | .bool => 4
  | .str => 9
  | .Geometry => 25
  | .Addr => 75
  | .Mapping => 29
  | .Partition => 0
  | .Command => 148
  | .Timing => 27
  | .Bank => 126
  | .Rank => 45
  | .Event => 165
  | .Ready => 47
  | .Cell => 137
  | .Array => 50
  | .Limits => 31
  | .Tracker => 99
  | .Spare => 52
  | .Refresh => 54
  | .Req => 159
  | .Share => 140
  | .Drain => 60
  | .Slots => 0
  | .Served => 0
  | .Power => 62
  | .PowerRule => 36
  | .ErrorEntry => 163
  | .LogStore => 0
  | .Sender => 0
  | .Receiver => 0
  | .Node => 0
  | .Tree => 0
  | .Secure => 0
  | .Scrubber => 64
  | .Ticket => 0
  | .Move => 0
  | .Policy => 38
  | .PolicyBox => 42
  | .Config => 33
  | .Rep => 213
  | .Controller => 69
  | .Act => 0
  | .Fact => 0
  | .Cur => 130
  | .sl .int => 34
  | .sl .bool => 0
  | .sl .str => 0
  | _ => 0
inductive V where
  | int (k : IntKind) (n : Int)
  | bool (b : Bool)
  | str (s : ByteArray)
  | nil
  | sl (t : TC) (o : Nat) (q : Bool) (l : List (T t))
def V.asI : V -> Option Int | .int .i64 n => some n | _ => none
def V.asU8 : V -> Option Int | .int .u8 n => some n | _ => none
def V.asB : V -> Option Bool | .bool b => some b | _ => none
def V.asS : V -> Option ByteArray | .str s => some s | _ => none
def V.asL (t : TC) (o : Nat) : V -> Option (List (T t))
  | .sl t' o' _ l => bif Nat.beq o' o || (Nat.ble (full t + 2) o' && Nat.ble (full t + 2) o) then (if h : t' = t then some (h ▸ l) else none) else none
  | .nil => some []
  | _ => none
inductive Wk : V -> V -> Prop
  | same (x : V) : Wk x x
  | nil (t : TC) (o : Nat) : Wk .nil (.sl t o false [])
  | q (t : TC) (o : Nat) (l : List (T t)) : Wk (.sl t o true l) (.sl t o false l)
  | gr (t : TC) (o o' : Nat) (qn : Bool) (l : List (T t)) (h : full t + 2 <= o) (h' : full t + 2 <= o') : Wk (.sl t o' qn l) (.sl t o false l)
def Wks (xs ys : List V) : Prop := xs.length = ys.length /\ ∀ (j : Nat) (x y : V), xs[j]? = some x -> ys[j]? = some y -> Wk x y
theorem Wks.nil : Wks [] [] := ⟨rfl, by simp⟩
theorem Wks.cons {x y : V} {xs ys : List V} (h : Wk x y) (k : Wks xs ys) : Wks (x :: xs) (y :: ys) := by
  refine ⟨by simp [k.1], fun j a b ha hb => ?_⟩
  cases j with
  | zero => simp at ha hb; subst ha; subst hb; exact h
  | succ j => simp at ha hb; exact k.2 j a b ha hb
theorem V.asI_ok {x : V} {n : Int} (h : x.asI = some n) : Wk x (.int .i64 n) := by
  unfold V.asI at h; split at h <;> first | (injection h with h; subst h; exact .same _) | cases h
theorem V.asU8_ok {x : V} {n : Int} (h : x.asU8 = some n) : Wk x (.int .u8 n) := by
  unfold V.asU8 at h; split at h <;> first | (injection h with h; subst h; exact .same _) | cases h
theorem V.asB_ok {x : V} {n : Bool} (h : x.asB = some n) : Wk x (.bool n) := by
  unfold V.asB at h; split at h <;> first | (injection h with h; subst h; exact .same _) | cases h
theorem V.asS_ok {x : V} {n : ByteArray} (h : x.asS = some n) : Wk x (.str n) := by
  unfold V.asS at h; split at h <;> first | (injection h with h; subst h; exact .same _) | cases h
theorem V.asL_ok {x : V} {t : TC} {o : Nat} {l : List (T t)} (h : x.asL t o = some l) : Wk x (.sl t o false l) := by
  unfold V.asL at h
  split at h
  · rename_i t' o' q l'
    cases hc : (Nat.beq o' o || (Nat.ble (full t + 2) o' && Nat.ble (full t + 2) o)) with
    | false => rw [hc] at h; cases h
    | true =>
      rw [hc, cond_true] at h
      split at h
      · rename_i ht
        subst ht
        injection h with h
        subst h
        rw [Bool.or_eq_true, Bool.and_eq_true] at hc
        rcases hc with hc | hc
        · obtain rfl := Nat.eq_of_beq_eq_true hc
          cases q
          · exact .same _
          · exact .q _ _ _
        · exact .gr _ _ _ _ _ (Nat.le_of_ble_eq_true hc.2) (Nat.le_of_ble_eq_true hc.1)
      · cases h
  · injection h with h; subst h; exact .nil _ _
  · cases h
def encGeometry (o : Nat) (x : DGeometry) : List V := [.int .i64 x.groups, .int .i64 x.banks, .int .i64 x.rows, .int .i64 x.cols]
def encAddr (o : Nat) (x : DAddr) : List V := [.int .i64 x.bank, .int .i64 x.row, .int .i64 x.col]
def encMapping (o : Nat) (x : DMapping) : List V := [.int .i64 x.order, .bool x.hash]
def encPartition (o : Nat) (x : DPartition) : List V := [.sl .int o false x.owner]
def encCommand (o : Nat) (x : DCommand) : List V := [.int .i64 x.kind, .int .i64 x.bank, .int .i64 x.row, .int .i64 x.col]
def encTiming (o : Nat) (x : DTiming) : List V := [.int .i64 x.rcd, .int .i64 x.rp, .int .i64 x.ras, .int .i64 x.rrds, .int .i64 x.rrdl, .int .i64 x.faw, .int .i64 x.ccds, .int .i64 x.ccdl, .int .i64 x.rtp, .int .i64 x.wr, .int .i64 x.wtrs, .int .i64 x.wtrl, .int .i64 x.rtw, .int .i64 x.rfc, .int .i64 x.cke, .int .i64 x.xp, .int .i64 x.xs]
def encBank (o : Nat) (x : DBank) : List V := [.bool x.open_, .int .i64 x.row]
def encRank (o : Nat) (x : DRank) : List V := [.sl .Bank o false x.banks, .int .i64 x.power]
def encEvent (o : Nat) (x : DEvent) : List V := [.int .i64 x.at_, .int .i64 x.cmd.kind, .int .i64 x.cmd.bank, .int .i64 x.cmd.row, .int .i64 x.cmd.col]
def encReady (o : Nat) (x : DReady) : List V := [.sl .int o false x.last, .sl .int o false x.acts]
def encCell (o : Nat) (x : DCell) : List V := [.sl .int o false x.symbols, .bool x.poison]
def encArray (o : Nat) (x : DArray) : List V := [.sl .Cell o false x.cells, .sl .int o false x.age, .sl .int o false x.hits]
def encLimits (o : Nat) (x : DLimits) : List V := [.int .i64 x.age, .int .i64 x.hits]
def encTracker (o : Nat) (x : DTracker) : List V := [.sl .int o false x.rows, .sl .int o false x.counts, .int .i64 x.spill]
def encSpare (o : Nat) (x : DSpare) : List V := [.int .i64 x.spares, .sl .int o false x.map]
def encRefresh (o : Nat) (x : DRefresh) : List V := [.sl .int o false x.debt, .int .i64 x.wait, .bool x.hot]
def encReq (o : Nat) (x : DReq) : List V := [.int .i64 x.id, .int .i64 x.tenant, .int .i64 x.line, .bool x.write, .int .i64 x.data, .int .i64 x.at_]
def encShare (o : Nat) (x : DShare) : List V := [.int .i64 x.weight, .int .i64 x.credit]
def encDrain (o : Nat) (x : DDrain) : List V := [.bool x.on, .int .i64 x.low, .int .i64 x.high]
def encSlots (o : Nat) (x : DSlots) : List V := [.sl .int o false x.owner, .int .i64 x.length]
def encServed (o : Nat) (x : DServed) : List V := [.int .i64 x.id, .int .i64 x.at_]
def encPower (o : Nat) (x : DPower) : List V := [.int .i64 x.state, .int .i64 x.since, .int .i64 x.idle]
def encPowerRule (o : Nat) (x : DPowerRule) : List V := [.int .i64 x.down, .int .i64 x.sleep]
def encErrorEntry (o : Nat) (x : DErrorEntry) : List V := [.int .i64 x.line, .int .i64 x.code, .int .i64 x.times]
def encLogStore (o : Nat) (x : DLogStore) : List V := [.sl .str o false x.slots]
def encSender (o : Nat) (x : DSender) : List V := [.sl .int o false x.frames, .int .i64 x.next]
def encReceiver (o : Nat) (x : DReceiver) : List V := [.int .i64 x.count, .sl .Command o false x.commands]
def encNode (o : Nat) (x : DNode) : List V := [.int .i64 x.count, .int .i64 x.tag]
def encTree (o : Nat) (x : DTree) : List V := [.int .i64 x.root, .sl .Node o false x.mid, .sl .Node o false x.leaf]
def encSecure (o : Nat) (x : DSecure) : List V := [.int .i64 x.key, .int .i64 x.tree.root, .sl .Node o false x.tree.mid, .sl .Node o false x.tree.leaf, .sl .int o false x.data, .sl .int o false x.tags]
def encScrubber (o : Nat) (x : DScrubber) : List V := [.int .i64 x.next, .int .i64 x.every, .int .i64 x.wait]
def encTicket (o : Nat) (x : DTicket) : List V := [.int .i64 x.index, .sl .int o false x.before.symbols, .bool x.before.poison, .sl .int o false x.after.symbols, .bool x.after.poison, .int .i64 x.code]
def encMove (o : Nat) (x : DMove) : List V := [.int .i64 x.bank, .int .i64 x.from_, .int .i64 x.to, .int .i64 x.next]
def encPolicy (o : Nat) (x : DPolicy) : List V := [.int .i64 x.page, .int .i64 x.cap, .int .i64 x.limit, .int .i64 x.low, .int .i64 x.high, .sl .int o false x.weights, .int .i64 x.rule.down, .int .i64 x.rule.sleep]
def encPolicyBox (o : Nat) (x : DPolicyBox) : List V := [.int .i64 x.active.page, .int .i64 x.active.cap, .int .i64 x.active.limit, .int .i64 x.active.low, .int .i64 x.active.high, .sl .int o false x.active.weights, .int .i64 x.active.rule.down, .int .i64 x.active.rule.sleep, .int .i64 x.next.page, .int .i64 x.next.cap, .int .i64 x.next.limit, .int .i64 x.next.low, .int .i64 x.next.high, .sl .int o false x.next.weights, .int .i64 x.next.rule.down, .int .i64 x.next.rule.sleep, .bool x.waits]
def encConfig (o : Nat) (x : DConfig) : List V := [.int .i64 x.geometry.groups, .int .i64 x.geometry.banks, .int .i64 x.geometry.rows, .int .i64 x.geometry.cols, .int .i64 x.timing.rcd, .int .i64 x.timing.rp, .int .i64 x.timing.ras, .int .i64 x.timing.rrds, .int .i64 x.timing.rrdl, .int .i64 x.timing.faw, .int .i64 x.timing.ccds, .int .i64 x.timing.ccdl, .int .i64 x.timing.rtp, .int .i64 x.timing.wr, .int .i64 x.timing.wtrs, .int .i64 x.timing.wtrl, .int .i64 x.timing.rtw, .int .i64 x.timing.rfc, .int .i64 x.timing.cke, .int .i64 x.timing.xp, .int .i64 x.timing.xs, .int .i64 x.mapping.order, .bool x.mapping.hash, .int .i64 x.spares, .int .i64 x.interval, .int .i64 x.track, .int .i64 x.limits.age, .int .i64 x.limits.hits]
def encRep (o : Nat) (x : DRep) : List V := [.int .i64 x.id, .int .i64 x.at_, .int .i64 x.data, .int .i64 x.code]
def encController (o : Nat) (x : DController) : List V := [.int .i64 x.config.geometry.groups, .int .i64 x.config.geometry.banks, .int .i64 x.config.geometry.rows, .int .i64 x.config.geometry.cols, .int .i64 x.config.timing.rcd, .int .i64 x.config.timing.rp, .int .i64 x.config.timing.ras, .int .i64 x.config.timing.rrds, .int .i64 x.config.timing.rrdl, .int .i64 x.config.timing.faw, .int .i64 x.config.timing.ccds, .int .i64 x.config.timing.ccdl, .int .i64 x.config.timing.rtp, .int .i64 x.config.timing.wr, .int .i64 x.config.timing.wtrs, .int .i64 x.config.timing.wtrl, .int .i64 x.config.timing.rtw, .int .i64 x.config.timing.rfc, .int .i64 x.config.timing.cke, .int .i64 x.config.timing.xp, .int .i64 x.config.timing.xs, .int .i64 x.config.mapping.order, .bool x.config.mapping.hash, .int .i64 x.config.spares, .int .i64 x.config.interval, .int .i64 x.config.track, .int .i64 x.config.limits.age, .int .i64 x.config.limits.hits, .int .i64 x.box.active.page, .int .i64 x.box.active.cap, .int .i64 x.box.active.limit, .int .i64 x.box.active.low, .int .i64 x.box.active.high, .sl .int o false x.box.active.weights, .int .i64 x.box.active.rule.down, .int .i64 x.box.active.rule.sleep, .int .i64 x.box.next.page, .int .i64 x.box.next.cap, .int .i64 x.box.next.limit, .int .i64 x.box.next.low, .int .i64 x.box.next.high, .sl .int o false x.box.next.weights, .int .i64 x.box.next.rule.down, .int .i64 x.box.next.rule.sleep, .bool x.box.waits, .int .i64 x.now, .sl .Bank o false x.rank.banks, .int .i64 x.rank.power, .sl .int o false x.ready.last, .sl .int o false x.ready.acts, .sl .Cell o false x.array.cells, .sl .int o false x.array.age, .sl .int o false x.array.hits, .int .i64 x.spare.spares, .sl .int o false x.spare.map, .sl .int o false x.refresh.debt, .int .i64 x.refresh.wait, .bool x.refresh.hot, .sl .Tracker o false x.trackers, .sl .int o false x.guard, .sl .Addr o false x.pending, .sl .Req o false x.queue, .sl .Share o false x.shares, .bool x.drain.on, .int .i64 x.drain.low, .int .i64 x.drain.high, .int .i64 x.power.state, .int .i64 x.power.since, .int .i64 x.power.idle, .int .i64 x.scrubber.next, .int .i64 x.scrubber.every, .int .i64 x.scrubber.wait, .sl .ErrorEntry o false x.errors, .sl .Event o false x.trace, .sl .Rep o false x.replies]
def encAct (o : Nat) (x : DAct) : List V := [.int .i64 x.kind, .int .i64 x.request.id, .int .i64 x.request.tenant, .int .i64 x.request.line, .bool x.request.write, .int .i64 x.request.data, .int .i64 x.request.at_, .int .i64 x.n, .int .i64 x.chip, .int .i64 x.addr.bank, .int .i64 x.addr.row, .int .i64 x.addr.col, .int .i64 x.policy.page, .int .i64 x.policy.cap, .int .i64 x.policy.limit, .int .i64 x.policy.low, .int .i64 x.policy.high, .sl .int o false x.policy.weights, .int .i64 x.policy.rule.down, .int .i64 x.policy.rule.sleep]
def encFact (o : Nat) (x : DFact) : List V := [.int .i64 x.line, .int .i64 x.data, .int .i64 x.code]
def encCur (o : Nat) (x : DCur) : List V := [.sl .u8 o false x.b, .int .i64 x.i, .int .i64 x.h]
/-- The cells of a value; o: the grade of its slices. -/
def enc : (t : TC) -> (o : Nat) -> T t -> List V
  | .int, _, x => [.int .i64 x]
  | .u8, _, x => [.int .u8 x]
  | .bool, _, x => [.bool x]
  | .str, _, x => [.str x]
  | .Geometry, o, x => encGeometry o x
  | .Addr, o, x => encAddr o x
  | .Mapping, o, x => encMapping o x
  | .Partition, o, x => encPartition o x
  | .Command, o, x => encCommand o x
  | .Timing, o, x => encTiming o x
  | .Bank, o, x => encBank o x
  | .Rank, o, x => encRank o x
  | .Event, o, x => encEvent o x
  | .Ready, o, x => encReady o x
  | .Cell, o, x => encCell o x
  | .Array, o, x => encArray o x
  | .Limits, o, x => encLimits o x
  | .Tracker, o, x => encTracker o x
  | .Spare, o, x => encSpare o x
  | .Refresh, o, x => encRefresh o x
  | .Req, o, x => encReq o x
  | .Share, o, x => encShare o x
  | .Drain, o, x => encDrain o x
  | .Slots, o, x => encSlots o x
  | .Served, o, x => encServed o x
  | .Power, o, x => encPower o x
  | .PowerRule, o, x => encPowerRule o x
  | .ErrorEntry, o, x => encErrorEntry o x
  | .LogStore, o, x => encLogStore o x
  | .Sender, o, x => encSender o x
  | .Receiver, o, x => encReceiver o x
  | .Node, o, x => encNode o x
  | .Tree, o, x => encTree o x
  | .Secure, o, x => encSecure o x
  | .Scrubber, o, x => encScrubber o x
  | .Ticket, o, x => encTicket o x
  | .Move, o, x => encMove o x
  | .Policy, o, x => encPolicy o x
  | .PolicyBox, o, x => encPolicyBox o x
  | .Config, o, x => encConfig o x
  | .Rep, o, x => encRep o x
  | .Controller, o, x => encController o x
  | .Act, o, x => encAct o x
  | .Fact, o, x => encFact o x
  | .Cur, o, x => encCur o x
  | .sl t, o, x => [.sl t o false x]
  | .fpController, o, x => .bool true :: encController o x
  | .fnInt g, o, x => .bool false :: .int .i64 (g : Int) :: [.int .i64 x]
  | .fnReq g, o, x => .bool false :: .int .i64 (g : Int) :: encReq o x
  | .fnAddr g, o, x => .bool false :: .int .i64 (g : Int) :: encAddr o x
  | .fnCommand g, o, x => .bool false :: .int .i64 (g : Int) :: encCommand o x
def decGeometry (o : Nat) (cs : List V) : Option DGeometry := match cs with
  | a0 :: a1 :: a2 :: a3 :: [] => (a0.asI).bind fun x0 => (a1.asI).bind fun x1 => (a2.asI).bind fun x2 => (a3.asI).bind fun x3 => some ⟨x0, x1, x2, x3⟩
  | _ => none
def decAddr (o : Nat) (cs : List V) : Option DAddr := match cs with
  | a0 :: a1 :: a2 :: [] => (a0.asI).bind fun x0 => (a1.asI).bind fun x1 => (a2.asI).bind fun x2 => some ⟨x0, x1, x2⟩
  | _ => none
def decMapping (o : Nat) (cs : List V) : Option DMapping := match cs with
  | a0 :: a1 :: [] => (a0.asI).bind fun x0 => (a1.asB).bind fun x1 => some ⟨x0, x1⟩
  | _ => none
def decPartition (o : Nat) (cs : List V) : Option DPartition := match cs with
  | a0 :: [] => (a0.asL .int o).bind fun x0 => some ⟨x0⟩
  | _ => none
def decCommand (o : Nat) (cs : List V) : Option DCommand := match cs with
  | a0 :: a1 :: a2 :: a3 :: [] => (a0.asI).bind fun x0 => (a1.asI).bind fun x1 => (a2.asI).bind fun x2 => (a3.asI).bind fun x3 => some ⟨x0, x1, x2, x3⟩
  | _ => none
def decTiming (o : Nat) (cs : List V) : Option DTiming := match cs with
  | a0 :: a1 :: a2 :: a3 :: a4 :: a5 :: a6 :: a7 :: a8 :: a9 :: a10 :: a11 :: a12 :: a13 :: a14 :: a15 :: a16 :: [] => (a0.asI).bind fun x0 => (a1.asI).bind fun x1 => (a2.asI).bind fun x2 => (a3.asI).bind fun x3 => (a4.asI).bind fun x4 => (a5.asI).bind fun x5 => (a6.asI).bind fun x6 => (a7.asI).bind fun x7 => (a8.asI).bind fun x8 => (a9.asI).bind fun x9 => (a10.asI).bind fun x10 => (a11.asI).bind fun x11 => (a12.asI).bind fun x12 => (a13.asI).bind fun x13 => (a14.asI).bind fun x14 => (a15.asI).bind fun x15 => (a16.asI).bind fun x16 => some ⟨x0, x1, x2, x3, x4, x5, x6, x7, x8, x9, x10, x11, x12, x13, x14, x15, x16⟩
  | _ => none
def decBank (o : Nat) (cs : List V) : Option DBank := match cs with
  | a0 :: a1 :: [] => (a0.asB).bind fun x0 => (a1.asI).bind fun x1 => some ⟨x0, x1⟩
  | _ => none
def decRank (o : Nat) (cs : List V) : Option DRank := match cs with
  | a0 :: a1 :: [] => (a0.asL .Bank o).bind fun x0 => (a1.asI).bind fun x1 => some ⟨x0, x1⟩
  | _ => none
def decEvent (o : Nat) (cs : List V) : Option DEvent := match cs with
  | a0 :: a1 :: a2 :: a3 :: a4 :: [] => (a0.asI).bind fun x0 => (a1.asI).bind fun x1 => (a2.asI).bind fun x2 => (a3.asI).bind fun x3 => (a4.asI).bind fun x4 => some ⟨x0, ⟨x1, x2, x3, x4⟩⟩
  | _ => none
def decReady (o : Nat) (cs : List V) : Option DReady := match cs with
  | a0 :: a1 :: [] => (a0.asL .int o).bind fun x0 => (a1.asL .int o).bind fun x1 => some ⟨x0, x1⟩
  | _ => none
def decCell (o : Nat) (cs : List V) : Option DCell := match cs with
  | a0 :: a1 :: [] => (a0.asL .int o).bind fun x0 => (a1.asB).bind fun x1 => some ⟨x0, x1⟩
  | _ => none
def decArray (o : Nat) (cs : List V) : Option DArray := match cs with
  | a0 :: a1 :: a2 :: [] => (a0.asL .Cell o).bind fun x0 => (a1.asL .int o).bind fun x1 => (a2.asL .int o).bind fun x2 => some ⟨x0, x1, x2⟩
  | _ => none
def decLimits (o : Nat) (cs : List V) : Option DLimits := match cs with
  | a0 :: a1 :: [] => (a0.asI).bind fun x0 => (a1.asI).bind fun x1 => some ⟨x0, x1⟩
  | _ => none
def decTracker (o : Nat) (cs : List V) : Option DTracker := match cs with
  | a0 :: a1 :: a2 :: [] => (a0.asL .int o).bind fun x0 => (a1.asL .int o).bind fun x1 => (a2.asI).bind fun x2 => some ⟨x0, x1, x2⟩
  | _ => none
def decSpare (o : Nat) (cs : List V) : Option DSpare := match cs with
  | a0 :: a1 :: [] => (a0.asI).bind fun x0 => (a1.asL .int o).bind fun x1 => some ⟨x0, x1⟩
  | _ => none
def decRefresh (o : Nat) (cs : List V) : Option DRefresh := match cs with
  | a0 :: a1 :: a2 :: [] => (a0.asL .int o).bind fun x0 => (a1.asI).bind fun x1 => (a2.asB).bind fun x2 => some ⟨x0, x1, x2⟩
  | _ => none
def decReq (o : Nat) (cs : List V) : Option DReq := match cs with
  | a0 :: a1 :: a2 :: a3 :: a4 :: a5 :: [] => (a0.asI).bind fun x0 => (a1.asI).bind fun x1 => (a2.asI).bind fun x2 => (a3.asB).bind fun x3 => (a4.asI).bind fun x4 => (a5.asI).bind fun x5 => some ⟨x0, x1, x2, x3, x4, x5⟩
  | _ => none
def decShare (o : Nat) (cs : List V) : Option DShare := match cs with
  | a0 :: a1 :: [] => (a0.asI).bind fun x0 => (a1.asI).bind fun x1 => some ⟨x0, x1⟩
  | _ => none
def decDrain (o : Nat) (cs : List V) : Option DDrain := match cs with
  | a0 :: a1 :: a2 :: [] => (a0.asB).bind fun x0 => (a1.asI).bind fun x1 => (a2.asI).bind fun x2 => some ⟨x0, x1, x2⟩
  | _ => none
def decSlots (o : Nat) (cs : List V) : Option DSlots := match cs with
  | a0 :: a1 :: [] => (a0.asL .int o).bind fun x0 => (a1.asI).bind fun x1 => some ⟨x0, x1⟩
  | _ => none
def decServed (o : Nat) (cs : List V) : Option DServed := match cs with
  | a0 :: a1 :: [] => (a0.asI).bind fun x0 => (a1.asI).bind fun x1 => some ⟨x0, x1⟩
  | _ => none
def decPower (o : Nat) (cs : List V) : Option DPower := match cs with
  | a0 :: a1 :: a2 :: [] => (a0.asI).bind fun x0 => (a1.asI).bind fun x1 => (a2.asI).bind fun x2 => some ⟨x0, x1, x2⟩
  | _ => none
def decPowerRule (o : Nat) (cs : List V) : Option DPowerRule := match cs with
  | a0 :: a1 :: [] => (a0.asI).bind fun x0 => (a1.asI).bind fun x1 => some ⟨x0, x1⟩
  | _ => none
def decErrorEntry (o : Nat) (cs : List V) : Option DErrorEntry := match cs with
  | a0 :: a1 :: a2 :: [] => (a0.asI).bind fun x0 => (a1.asI).bind fun x1 => (a2.asI).bind fun x2 => some ⟨x0, x1, x2⟩
  | _ => none
def decLogStore (o : Nat) (cs : List V) : Option DLogStore := match cs with
  | a0 :: [] => (a0.asL .str o).bind fun x0 => some ⟨x0⟩
  | _ => none
def decSender (o : Nat) (cs : List V) : Option DSender := match cs with
  | a0 :: a1 :: [] => (a0.asL .int o).bind fun x0 => (a1.asI).bind fun x1 => some ⟨x0, x1⟩
  | _ => none
def decReceiver (o : Nat) (cs : List V) : Option DReceiver := match cs with
  | a0 :: a1 :: [] => (a0.asI).bind fun x0 => (a1.asL .Command o).bind fun x1 => some ⟨x0, x1⟩
  | _ => none
def decNode (o : Nat) (cs : List V) : Option DNode := match cs with
  | a0 :: a1 :: [] => (a0.asI).bind fun x0 => (a1.asI).bind fun x1 => some ⟨x0, x1⟩
  | _ => none
def decTree (o : Nat) (cs : List V) : Option DTree := match cs with
  | a0 :: a1 :: a2 :: [] => (a0.asI).bind fun x0 => (a1.asL .Node o).bind fun x1 => (a2.asL .Node o).bind fun x2 => some ⟨x0, x1, x2⟩
  | _ => none
def decSecure (o : Nat) (cs : List V) : Option DSecure := match cs with
  | a0 :: a1 :: a2 :: a3 :: a4 :: a5 :: [] => (a0.asI).bind fun x0 => (a1.asI).bind fun x1 => (a2.asL .Node o).bind fun x2 => (a3.asL .Node o).bind fun x3 => (a4.asL .int o).bind fun x4 => (a5.asL .int o).bind fun x5 => some ⟨x0, ⟨x1, x2, x3⟩, x4, x5⟩
  | _ => none
def decScrubber (o : Nat) (cs : List V) : Option DScrubber := match cs with
  | a0 :: a1 :: a2 :: [] => (a0.asI).bind fun x0 => (a1.asI).bind fun x1 => (a2.asI).bind fun x2 => some ⟨x0, x1, x2⟩
  | _ => none
def decTicket (o : Nat) (cs : List V) : Option DTicket := match cs with
  | a0 :: a1 :: a2 :: a3 :: a4 :: a5 :: [] => (a0.asI).bind fun x0 => (a1.asL .int o).bind fun x1 => (a2.asB).bind fun x2 => (a3.asL .int o).bind fun x3 => (a4.asB).bind fun x4 => (a5.asI).bind fun x5 => some ⟨x0, ⟨x1, x2⟩, ⟨x3, x4⟩, x5⟩
  | _ => none
def decMove (o : Nat) (cs : List V) : Option DMove := match cs with
  | a0 :: a1 :: a2 :: a3 :: [] => (a0.asI).bind fun x0 => (a1.asI).bind fun x1 => (a2.asI).bind fun x2 => (a3.asI).bind fun x3 => some ⟨x0, x1, x2, x3⟩
  | _ => none
def decPolicy (o : Nat) (cs : List V) : Option DPolicy := match cs with
  | a0 :: a1 :: a2 :: a3 :: a4 :: a5 :: a6 :: a7 :: [] => (a0.asI).bind fun x0 => (a1.asI).bind fun x1 => (a2.asI).bind fun x2 => (a3.asI).bind fun x3 => (a4.asI).bind fun x4 => (a5.asL .int o).bind fun x5 => (a6.asI).bind fun x6 => (a7.asI).bind fun x7 => some ⟨x0, x1, x2, x3, x4, x5, ⟨x6, x7⟩⟩
  | _ => none
def decPolicyBox (o : Nat) (cs : List V) : Option DPolicyBox := match cs with
  | a0 :: a1 :: a2 :: a3 :: a4 :: a5 :: a6 :: a7 :: a8 :: a9 :: a10 :: a11 :: a12 :: a13 :: a14 :: a15 :: a16 :: [] => (a0.asI).bind fun x0 => (a1.asI).bind fun x1 => (a2.asI).bind fun x2 => (a3.asI).bind fun x3 => (a4.asI).bind fun x4 => (a5.asL .int o).bind fun x5 => (a6.asI).bind fun x6 => (a7.asI).bind fun x7 => (a8.asI).bind fun x8 => (a9.asI).bind fun x9 => (a10.asI).bind fun x10 => (a11.asI).bind fun x11 => (a12.asI).bind fun x12 => (a13.asL .int o).bind fun x13 => (a14.asI).bind fun x14 => (a15.asI).bind fun x15 => (a16.asB).bind fun x16 => some ⟨⟨x0, x1, x2, x3, x4, x5, ⟨x6, x7⟩⟩, ⟨x8, x9, x10, x11, x12, x13, ⟨x14, x15⟩⟩, x16⟩
  | _ => none
def decConfig (o : Nat) (cs : List V) : Option DConfig := match cs with
  | a0 :: a1 :: a2 :: a3 :: a4 :: a5 :: a6 :: a7 :: a8 :: a9 :: a10 :: a11 :: a12 :: a13 :: a14 :: a15 :: a16 :: a17 :: a18 :: a19 :: a20 :: a21 :: a22 :: a23 :: a24 :: a25 :: a26 :: a27 :: [] => (a0.asI).bind fun x0 => (a1.asI).bind fun x1 => (a2.asI).bind fun x2 => (a3.asI).bind fun x3 => (a4.asI).bind fun x4 => (a5.asI).bind fun x5 => (a6.asI).bind fun x6 => (a7.asI).bind fun x7 => (a8.asI).bind fun x8 => (a9.asI).bind fun x9 => (a10.asI).bind fun x10 => (a11.asI).bind fun x11 => (a12.asI).bind fun x12 => (a13.asI).bind fun x13 => (a14.asI).bind fun x14 => (a15.asI).bind fun x15 => (a16.asI).bind fun x16 => (a17.asI).bind fun x17 => (a18.asI).bind fun x18 => (a19.asI).bind fun x19 => (a20.asI).bind fun x20 => (a21.asI).bind fun x21 => (a22.asB).bind fun x22 => (a23.asI).bind fun x23 => (a24.asI).bind fun x24 => (a25.asI).bind fun x25 => (a26.asI).bind fun x26 => (a27.asI).bind fun x27 => some ⟨⟨x0, x1, x2, x3⟩, ⟨x4, x5, x6, x7, x8, x9, x10, x11, x12, x13, x14, x15, x16, x17, x18, x19, x20⟩, ⟨x21, x22⟩, x23, x24, x25, ⟨x26, x27⟩⟩
  | _ => none
def decRep (o : Nat) (cs : List V) : Option DRep := match cs with
  | a0 :: a1 :: a2 :: a3 :: [] => (a0.asI).bind fun x0 => (a1.asI).bind fun x1 => (a2.asI).bind fun x2 => (a3.asI).bind fun x3 => some ⟨x0, x1, x2, x3⟩
  | _ => none
def decController (o : Nat) (cs : List V) : Option DController := match cs with
  | a0 :: a1 :: a2 :: a3 :: a4 :: a5 :: a6 :: a7 :: a8 :: a9 :: a10 :: a11 :: a12 :: a13 :: a14 :: a15 :: a16 :: a17 :: a18 :: a19 :: a20 :: a21 :: a22 :: a23 :: a24 :: a25 :: a26 :: a27 :: a28 :: a29 :: a30 :: a31 :: a32 :: a33 :: a34 :: a35 :: a36 :: a37 :: a38 :: a39 :: a40 :: a41 :: a42 :: a43 :: a44 :: a45 :: a46 :: a47 :: a48 :: a49 :: a50 :: a51 :: a52 :: a53 :: a54 :: a55 :: a56 :: a57 :: a58 :: a59 :: a60 :: a61 :: a62 :: a63 :: a64 :: a65 :: a66 :: a67 :: a68 :: a69 :: a70 :: a71 :: a72 :: a73 :: a74 :: [] => (a0.asI).bind fun x0 => (a1.asI).bind fun x1 => (a2.asI).bind fun x2 => (a3.asI).bind fun x3 => (a4.asI).bind fun x4 => (a5.asI).bind fun x5 => (a6.asI).bind fun x6 => (a7.asI).bind fun x7 => (a8.asI).bind fun x8 => (a9.asI).bind fun x9 => (a10.asI).bind fun x10 => (a11.asI).bind fun x11 => (a12.asI).bind fun x12 => (a13.asI).bind fun x13 => (a14.asI).bind fun x14 => (a15.asI).bind fun x15 => (a16.asI).bind fun x16 => (a17.asI).bind fun x17 => (a18.asI).bind fun x18 => (a19.asI).bind fun x19 => (a20.asI).bind fun x20 => (a21.asI).bind fun x21 => (a22.asB).bind fun x22 => (a23.asI).bind fun x23 => (a24.asI).bind fun x24 => (a25.asI).bind fun x25 => (a26.asI).bind fun x26 => (a27.asI).bind fun x27 => (a28.asI).bind fun x28 => (a29.asI).bind fun x29 => (a30.asI).bind fun x30 => (a31.asI).bind fun x31 => (a32.asI).bind fun x32 => (a33.asL .int o).bind fun x33 => (a34.asI).bind fun x34 => (a35.asI).bind fun x35 => (a36.asI).bind fun x36 => (a37.asI).bind fun x37 => (a38.asI).bind fun x38 => (a39.asI).bind fun x39 => (a40.asI).bind fun x40 => (a41.asL .int o).bind fun x41 => (a42.asI).bind fun x42 => (a43.asI).bind fun x43 => (a44.asB).bind fun x44 => (a45.asI).bind fun x45 => (a46.asL .Bank o).bind fun x46 => (a47.asI).bind fun x47 => (a48.asL .int o).bind fun x48 => (a49.asL .int o).bind fun x49 => (a50.asL .Cell o).bind fun x50 => (a51.asL .int o).bind fun x51 => (a52.asL .int o).bind fun x52 => (a53.asI).bind fun x53 => (a54.asL .int o).bind fun x54 => (a55.asL .int o).bind fun x55 => (a56.asI).bind fun x56 => (a57.asB).bind fun x57 => (a58.asL .Tracker o).bind fun x58 => (a59.asL .int o).bind fun x59 => (a60.asL .Addr o).bind fun x60 => (a61.asL .Req o).bind fun x61 => (a62.asL .Share o).bind fun x62 => (a63.asB).bind fun x63 => (a64.asI).bind fun x64 => (a65.asI).bind fun x65 => (a66.asI).bind fun x66 => (a67.asI).bind fun x67 => (a68.asI).bind fun x68 => (a69.asI).bind fun x69 => (a70.asI).bind fun x70 => (a71.asI).bind fun x71 => (a72.asL .ErrorEntry o).bind fun x72 => (a73.asL .Event o).bind fun x73 => (a74.asL .Rep o).bind fun x74 => some ⟨⟨⟨x0, x1, x2, x3⟩, ⟨x4, x5, x6, x7, x8, x9, x10, x11, x12, x13, x14, x15, x16, x17, x18, x19, x20⟩, ⟨x21, x22⟩, x23, x24, x25, ⟨x26, x27⟩⟩, ⟨⟨x28, x29, x30, x31, x32, x33, ⟨x34, x35⟩⟩, ⟨x36, x37, x38, x39, x40, x41, ⟨x42, x43⟩⟩, x44⟩, x45, ⟨x46, x47⟩, ⟨x48, x49⟩, ⟨x50, x51, x52⟩, ⟨x53, x54⟩, ⟨x55, x56, x57⟩, x58, x59, x60, x61, x62, ⟨x63, x64, x65⟩, ⟨x66, x67, x68⟩, ⟨x69, x70, x71⟩, x72, x73, x74⟩
  | _ => none
def decAct (o : Nat) (cs : List V) : Option DAct := match cs with
  | a0 :: a1 :: a2 :: a3 :: a4 :: a5 :: a6 :: a7 :: a8 :: a9 :: a10 :: a11 :: a12 :: a13 :: a14 :: a15 :: a16 :: a17 :: a18 :: a19 :: [] => (a0.asI).bind fun x0 => (a1.asI).bind fun x1 => (a2.asI).bind fun x2 => (a3.asI).bind fun x3 => (a4.asB).bind fun x4 => (a5.asI).bind fun x5 => (a6.asI).bind fun x6 => (a7.asI).bind fun x7 => (a8.asI).bind fun x8 => (a9.asI).bind fun x9 => (a10.asI).bind fun x10 => (a11.asI).bind fun x11 => (a12.asI).bind fun x12 => (a13.asI).bind fun x13 => (a14.asI).bind fun x14 => (a15.asI).bind fun x15 => (a16.asI).bind fun x16 => (a17.asL .int o).bind fun x17 => (a18.asI).bind fun x18 => (a19.asI).bind fun x19 => some ⟨x0, ⟨x1, x2, x3, x4, x5, x6⟩, x7, x8, ⟨x9, x10, x11⟩, ⟨x12, x13, x14, x15, x16, x17, ⟨x18, x19⟩⟩⟩
  | _ => none
def decFact (o : Nat) (cs : List V) : Option DFact := match cs with
  | a0 :: a1 :: a2 :: [] => (a0.asI).bind fun x0 => (a1.asI).bind fun x1 => (a2.asI).bind fun x2 => some ⟨x0, x1, x2⟩
  | _ => none
def decCur (o : Nat) (cs : List V) : Option DCur := match cs with
  | a0 :: a1 :: a2 :: [] => (a0.asL .u8 o).bind fun x0 => (a1.asI).bind fun x1 => (a2.asI).bind fun x2 => some ⟨x0, x1, x2⟩
  | _ => none
def dec1 {α : Type} (f : V -> Option α) : List V -> Option α
  | [a] => f a
  | _ => none
def decP {α : Type} (f : List V -> Option α) : List V -> Option α
  | .bool true :: cs => f cs
  | _ => none
def decF {α : Type} (g : Nat) (f : List V -> Option α) : List V -> Option α
  | .bool false :: .int .i64 n :: cs => if n = (g : Int) then f cs else none
  | _ => none
def dec : (t : TC) -> (o : Nat) -> List V -> Option (T t)
  | .int, _, cs => dec1 V.asI cs
  | .u8, _, cs => dec1 V.asU8 cs
  | .bool, _, cs => dec1 V.asB cs
  | .str, _, cs => dec1 V.asS cs
  | .Geometry, o, cs => decGeometry o cs
  | .Addr, o, cs => decAddr o cs
  | .Mapping, o, cs => decMapping o cs
  | .Partition, o, cs => decPartition o cs
  | .Command, o, cs => decCommand o cs
  | .Timing, o, cs => decTiming o cs
  | .Bank, o, cs => decBank o cs
  | .Rank, o, cs => decRank o cs
  | .Event, o, cs => decEvent o cs
  | .Ready, o, cs => decReady o cs
  | .Cell, o, cs => decCell o cs
  | .Array, o, cs => decArray o cs
  | .Limits, o, cs => decLimits o cs
  | .Tracker, o, cs => decTracker o cs
  | .Spare, o, cs => decSpare o cs
  | .Refresh, o, cs => decRefresh o cs
  | .Req, o, cs => decReq o cs
  | .Share, o, cs => decShare o cs
  | .Drain, o, cs => decDrain o cs
  | .Slots, o, cs => decSlots o cs
  | .Served, o, cs => decServed o cs
  | .Power, o, cs => decPower o cs
  | .PowerRule, o, cs => decPowerRule o cs
  | .ErrorEntry, o, cs => decErrorEntry o cs
  | .LogStore, o, cs => decLogStore o cs
  | .Sender, o, cs => decSender o cs
  | .Receiver, o, cs => decReceiver o cs
  | .Node, o, cs => decNode o cs
  | .Tree, o, cs => decTree o cs
  | .Secure, o, cs => decSecure o cs
  | .Scrubber, o, cs => decScrubber o cs
  | .Ticket, o, cs => decTicket o cs
  | .Move, o, cs => decMove o cs
  | .Policy, o, cs => decPolicy o cs
  | .PolicyBox, o, cs => decPolicyBox o cs
  | .Config, o, cs => decConfig o cs
  | .Rep, o, cs => decRep o cs
  | .Controller, o, cs => decController o cs
  | .Act, o, cs => decAct o cs
  | .Fact, o, cs => decFact o cs
  | .Cur, o, cs => decCur o cs
  | .sl t, o, cs => dec1 (V.asL t o) cs
  | .fpController, o, cs => decP (decController o) cs
  | .fnInt g, o, cs => decF g (dec1 V.asI) cs
  | .fnReq g, o, cs => decF g (decReq o) cs
  | .fnAddr g, o, cs => decF g (decAddr o) cs
  | .fnCommand g, o, cs => decF g (decCommand o) cs
/-- The kinds of the cells of such structs. -/
def shp : TC -> Nat -> List V
  | .Controller, o => encController o ⟨⟨⟨0, 0, 0, 0⟩, ⟨0, 0, 0, 0, 0, 0, 0, 0, 0, 0, 0, 0, 0, 0, 0, 0, 0⟩, ⟨0, false⟩, 0, 0, 0, ⟨0, 0⟩⟩, ⟨⟨0, 0, 0, 0, 0, [], ⟨0, 0⟩⟩, ⟨0, 0, 0, 0, 0, [], ⟨0, 0⟩⟩, false⟩, 0, ⟨[], 0⟩, ⟨[], []⟩, ⟨[], [], []⟩, ⟨0, []⟩, ⟨[], 0, false⟩, [], [], [], [], [], ⟨false, 0, 0⟩, ⟨0, 0, 0⟩, ⟨0, 0, 0⟩, [], [], []⟩
  | _, _ => []
theorem enc_length (t : TC) (o : Nat) (x : T t) : (enc t o x).length = csz t := by cases t <;> rfl
theorem csz_pos (t : TC) : 0 < csz t := by cases t <;> simp [csz]
theorem bind_some {α β : Type} {a : Option α} {f : α -> Option β} {b : β} (h : a.bind f = some b) : ∃ x, a = some x /\ f x = some b := by
  cases a with
  | none => cases h
  | some x => exact ⟨x, rfl, h⟩
theorem decGeometry_ok (o : Nat) (cs : List V) (x : DGeometry) (h : decGeometry o cs = some x) : Wks cs (encGeometry o x) := by
  unfold decGeometry at h
  split at h
  · obtain ⟨x0, h0, h⟩ := bind_some h
    obtain ⟨x1, h1, h⟩ := bind_some h
    obtain ⟨x2, h2, h⟩ := bind_some h
    obtain ⟨x3, h3, h⟩ := bind_some h
    injection h with h
    subst h
    exact (.cons (V.asI_ok h0) (.cons (V.asI_ok h1) (.cons (V.asI_ok h2) (.cons (V.asI_ok h3) Wks.nil))))
  · cases h
theorem decAddr_ok (o : Nat) (cs : List V) (x : DAddr) (h : decAddr o cs = some x) : Wks cs (encAddr o x) := by
  unfold decAddr at h
  split at h
  · obtain ⟨x0, h0, h⟩ := bind_some h
    obtain ⟨x1, h1, h⟩ := bind_some h
    obtain ⟨x2, h2, h⟩ := bind_some h
    injection h with h
    subst h
    exact (.cons (V.asI_ok h0) (.cons (V.asI_ok h1) (.cons (V.asI_ok h2) Wks.nil)))
  · cases h
theorem decMapping_ok (o : Nat) (cs : List V) (x : DMapping) (h : decMapping o cs = some x) : Wks cs (encMapping o x) := by
  unfold decMapping at h
  split at h
  · obtain ⟨x0, h0, h⟩ := bind_some h
    obtain ⟨x1, h1, h⟩ := bind_some h
    injection h with h
    subst h
    exact (.cons (V.asI_ok h0) (.cons (V.asB_ok h1) Wks.nil))
  · cases h
theorem decPartition_ok (o : Nat) (cs : List V) (x : DPartition) (h : decPartition o cs = some x) : Wks cs (encPartition o x) := by
  unfold decPartition at h
  split at h
  · obtain ⟨x0, h0, h⟩ := bind_some h
    injection h with h
    subst h
    exact (.cons (V.asL_ok h0) Wks.nil)
  · cases h
theorem decCommand_ok (o : Nat) (cs : List V) (x : DCommand) (h : decCommand o cs = some x) : Wks cs (encCommand o x) := by
  unfold decCommand at h
  split at h
  · obtain ⟨x0, h0, h⟩ := bind_some h
    obtain ⟨x1, h1, h⟩ := bind_some h
    obtain ⟨x2, h2, h⟩ := bind_some h
    obtain ⟨x3, h3, h⟩ := bind_some h
    injection h with h
    subst h
    exact (.cons (V.asI_ok h0) (.cons (V.asI_ok h1) (.cons (V.asI_ok h2) (.cons (V.asI_ok h3) Wks.nil))))
  · cases h
theorem decTiming_ok (o : Nat) (cs : List V) (x : DTiming) (h : decTiming o cs = some x) : Wks cs (encTiming o x) := by
  unfold decTiming at h
  split at h
  · obtain ⟨x0, h0, h⟩ := bind_some h
    obtain ⟨x1, h1, h⟩ := bind_some h
    obtain ⟨x2, h2, h⟩ := bind_some h
    obtain ⟨x3, h3, h⟩ := bind_some h
    obtain ⟨x4, h4, h⟩ := bind_some h
    obtain ⟨x5, h5, h⟩ := bind_some h
    obtain ⟨x6, h6, h⟩ := bind_some h
    obtain ⟨x7, h7, h⟩ := bind_some h
    obtain ⟨x8, h8, h⟩ := bind_some h
    obtain ⟨x9, h9, h⟩ := bind_some h
    obtain ⟨x10, h10, h⟩ := bind_some h
    obtain ⟨x11, h11, h⟩ := bind_some h
    obtain ⟨x12, h12, h⟩ := bind_some h
    obtain ⟨x13, h13, h⟩ := bind_some h
    obtain ⟨x14, h14, h⟩ := bind_some h
    obtain ⟨x15, h15, h⟩ := bind_some h
    obtain ⟨x16, h16, h⟩ := bind_some h
    injection h with h
    subst h
    exact (.cons (V.asI_ok h0) (.cons (V.asI_ok h1) (.cons (V.asI_ok h2) (.cons (V.asI_ok h3) (.cons (V.asI_ok h4) (.cons (V.asI_ok h5) (.cons (V.asI_ok h6) (.cons (V.asI_ok h7) (.cons (V.asI_ok h8) (.cons (V.asI_ok h9) (.cons (V.asI_ok h10) (.cons (V.asI_ok h11) (.cons (V.asI_ok h12) (.cons (V.asI_ok h13) (.cons (V.asI_ok h14) (.cons (V.asI_ok h15) (.cons (V.asI_ok h16) Wks.nil)))))))))))))))))
  · cases h
theorem decBank_ok (o : Nat) (cs : List V) (x : DBank) (h : decBank o cs = some x) : Wks cs (encBank o x) := by
  unfold decBank at h
  split at h
  · obtain ⟨x0, h0, h⟩ := bind_some h
    obtain ⟨x1, h1, h⟩ := bind_some h
    injection h with h
    subst h
    exact (.cons (V.asB_ok h0) (.cons (V.asI_ok h1) Wks.nil))
  · cases h
theorem decRank_ok (o : Nat) (cs : List V) (x : DRank) (h : decRank o cs = some x) : Wks cs (encRank o x) := by
  unfold decRank at h
  split at h
  · obtain ⟨x0, h0, h⟩ := bind_some h
    obtain ⟨x1, h1, h⟩ := bind_some h
    injection h with h
    subst h
    exact (.cons (V.asL_ok h0) (.cons (V.asI_ok h1) Wks.nil))
  · cases h
theorem decEvent_ok (o : Nat) (cs : List V) (x : DEvent) (h : decEvent o cs = some x) : Wks cs (encEvent o x) := by
  unfold decEvent at h
  split at h
  · obtain ⟨x0, h0, h⟩ := bind_some h
    obtain ⟨x1, h1, h⟩ := bind_some h
    obtain ⟨x2, h2, h⟩ := bind_some h
    obtain ⟨x3, h3, h⟩ := bind_some h
    obtain ⟨x4, h4, h⟩ := bind_some h
    injection h with h
    subst h
    exact (.cons (V.asI_ok h0) (.cons (V.asI_ok h1) (.cons (V.asI_ok h2) (.cons (V.asI_ok h3) (.cons (V.asI_ok h4) Wks.nil)))))
  · cases h
theorem decReady_ok (o : Nat) (cs : List V) (x : DReady) (h : decReady o cs = some x) : Wks cs (encReady o x) := by
  unfold decReady at h
  split at h
  · obtain ⟨x0, h0, h⟩ := bind_some h
    obtain ⟨x1, h1, h⟩ := bind_some h
    injection h with h
    subst h
    exact (.cons (V.asL_ok h0) (.cons (V.asL_ok h1) Wks.nil))
  · cases h
theorem decCell_ok (o : Nat) (cs : List V) (x : DCell) (h : decCell o cs = some x) : Wks cs (encCell o x) := by
  unfold decCell at h
  split at h
  · obtain ⟨x0, h0, h⟩ := bind_some h
    obtain ⟨x1, h1, h⟩ := bind_some h
    injection h with h
    subst h
    exact (.cons (V.asL_ok h0) (.cons (V.asB_ok h1) Wks.nil))
  · cases h
theorem decArray_ok (o : Nat) (cs : List V) (x : DArray) (h : decArray o cs = some x) : Wks cs (encArray o x) := by
  unfold decArray at h
  split at h
  · obtain ⟨x0, h0, h⟩ := bind_some h
    obtain ⟨x1, h1, h⟩ := bind_some h
    obtain ⟨x2, h2, h⟩ := bind_some h
    injection h with h
    subst h
    exact (.cons (V.asL_ok h0) (.cons (V.asL_ok h1) (.cons (V.asL_ok h2) Wks.nil)))
  · cases h
theorem decLimits_ok (o : Nat) (cs : List V) (x : DLimits) (h : decLimits o cs = some x) : Wks cs (encLimits o x) := by
  unfold decLimits at h
  split at h
  · obtain ⟨x0, h0, h⟩ := bind_some h
    obtain ⟨x1, h1, h⟩ := bind_some h
    injection h with h
    subst h
    exact (.cons (V.asI_ok h0) (.cons (V.asI_ok h1) Wks.nil))
  · cases h
theorem decTracker_ok (o : Nat) (cs : List V) (x : DTracker) (h : decTracker o cs = some x) : Wks cs (encTracker o x) := by
  unfold decTracker at h
  split at h
  · obtain ⟨x0, h0, h⟩ := bind_some h
    obtain ⟨x1, h1, h⟩ := bind_some h
    obtain ⟨x2, h2, h⟩ := bind_some h
    injection h with h
    subst h
    exact (.cons (V.asL_ok h0) (.cons (V.asL_ok h1) (.cons (V.asI_ok h2) Wks.nil)))
  · cases h
theorem decSpare_ok (o : Nat) (cs : List V) (x : DSpare) (h : decSpare o cs = some x) : Wks cs (encSpare o x) := by
  unfold decSpare at h
  split at h
  · obtain ⟨x0, h0, h⟩ := bind_some h
    obtain ⟨x1, h1, h⟩ := bind_some h
    injection h with h
    subst h
    exact (.cons (V.asI_ok h0) (.cons (V.asL_ok h1) Wks.nil))
  · cases h
theorem decRefresh_ok (o : Nat) (cs : List V) (x : DRefresh) (h : decRefresh o cs = some x) : Wks cs (encRefresh o x) := by
  unfold decRefresh at h
  split at h
  · obtain ⟨x0, h0, h⟩ := bind_some h
    obtain ⟨x1, h1, h⟩ := bind_some h
    obtain ⟨x2, h2, h⟩ := bind_some h
    injection h with h
    subst h
    exact (.cons (V.asL_ok h0) (.cons (V.asI_ok h1) (.cons (V.asB_ok h2) Wks.nil)))
  · cases h
theorem decReq_ok (o : Nat) (cs : List V) (x : DReq) (h : decReq o cs = some x) : Wks cs (encReq o x) := by
  unfold decReq at h
  split at h
  · obtain ⟨x0, h0, h⟩ := bind_some h
    obtain ⟨x1, h1, h⟩ := bind_some h
    obtain ⟨x2, h2, h⟩ := bind_some h
    obtain ⟨x3, h3, h⟩ := bind_some h
    obtain ⟨x4, h4, h⟩ := bind_some h
    obtain ⟨x5, h5, h⟩ := bind_some h
    injection h with h
    subst h
    exact (.cons (V.asI_ok h0) (.cons (V.asI_ok h1) (.cons (V.asI_ok h2) (.cons (V.asB_ok h3) (.cons (V.asI_ok h4) (.cons (V.asI_ok h5) Wks.nil))))))
  · cases h
theorem decShare_ok (o : Nat) (cs : List V) (x : DShare) (h : decShare o cs = some x) : Wks cs (encShare o x) := by
  unfold decShare at h
  split at h
  · obtain ⟨x0, h0, h⟩ := bind_some h
    obtain ⟨x1, h1, h⟩ := bind_some h
    injection h with h
    subst h
    exact (.cons (V.asI_ok h0) (.cons (V.asI_ok h1) Wks.nil))
  · cases h
theorem decDrain_ok (o : Nat) (cs : List V) (x : DDrain) (h : decDrain o cs = some x) : Wks cs (encDrain o x) := by
  unfold decDrain at h
  split at h
  · obtain ⟨x0, h0, h⟩ := bind_some h
    obtain ⟨x1, h1, h⟩ := bind_some h
    obtain ⟨x2, h2, h⟩ := bind_some h
    injection h with h
    subst h
    exact (.cons (V.asB_ok h0) (.cons (V.asI_ok h1) (.cons (V.asI_ok h2) Wks.nil)))
  · cases h
theorem decSlots_ok (o : Nat) (cs : List V) (x : DSlots) (h : decSlots o cs = some x) : Wks cs (encSlots o x) := by
  unfold decSlots at h
  split at h
  · obtain ⟨x0, h0, h⟩ := bind_some h
    obtain ⟨x1, h1, h⟩ := bind_some h
    injection h with h
    subst h
    exact (.cons (V.asL_ok h0) (.cons (V.asI_ok h1) Wks.nil))
  · cases h
theorem decServed_ok (o : Nat) (cs : List V) (x : DServed) (h : decServed o cs = some x) : Wks cs (encServed o x) := by
  unfold decServed at h
  split at h
  · obtain ⟨x0, h0, h⟩ := bind_some h
    obtain ⟨x1, h1, h⟩ := bind_some h
    injection h with h
    subst h
    exact (.cons (V.asI_ok h0) (.cons (V.asI_ok h1) Wks.nil))
  · cases h
theorem decPower_ok (o : Nat) (cs : List V) (x : DPower) (h : decPower o cs = some x) : Wks cs (encPower o x) := by
  unfold decPower at h
  split at h
  · obtain ⟨x0, h0, h⟩ := bind_some h
    obtain ⟨x1, h1, h⟩ := bind_some h
    obtain ⟨x2, h2, h⟩ := bind_some h
    injection h with h
    subst h
    exact (.cons (V.asI_ok h0) (.cons (V.asI_ok h1) (.cons (V.asI_ok h2) Wks.nil)))
  · cases h
theorem decPowerRule_ok (o : Nat) (cs : List V) (x : DPowerRule) (h : decPowerRule o cs = some x) : Wks cs (encPowerRule o x) := by
  unfold decPowerRule at h
  split at h
  · obtain ⟨x0, h0, h⟩ := bind_some h
    obtain ⟨x1, h1, h⟩ := bind_some h
    injection h with h
    subst h
    exact (.cons (V.asI_ok h0) (.cons (V.asI_ok h1) Wks.nil))
  · cases h
theorem decErrorEntry_ok (o : Nat) (cs : List V) (x : DErrorEntry) (h : decErrorEntry o cs = some x) : Wks cs (encErrorEntry o x) := by
  unfold decErrorEntry at h
  split at h
  · obtain ⟨x0, h0, h⟩ := bind_some h
    obtain ⟨x1, h1, h⟩ := bind_some h
    obtain ⟨x2, h2, h⟩ := bind_some h
    injection h with h
    subst h
    exact (.cons (V.asI_ok h0) (.cons (V.asI_ok h1) (.cons (V.asI_ok h2) Wks.nil)))
  · cases h
theorem decLogStore_ok (o : Nat) (cs : List V) (x : DLogStore) (h : decLogStore o cs = some x) : Wks cs (encLogStore o x) := by
  unfold decLogStore at h
  split at h
  · obtain ⟨x0, h0, h⟩ := bind_some h
    injection h with h
    subst h
    exact (.cons (V.asL_ok h0) Wks.nil)
  · cases h
theorem decSender_ok (o : Nat) (cs : List V) (x : DSender) (h : decSender o cs = some x) : Wks cs (encSender o x) := by
  unfold decSender at h
  split at h
  · obtain ⟨x0, h0, h⟩ := bind_some h
    obtain ⟨x1, h1, h⟩ := bind_some h
    injection h with h
    subst h
    exact (.cons (V.asL_ok h0) (.cons (V.asI_ok h1) Wks.nil))
  · cases h
theorem decReceiver_ok (o : Nat) (cs : List V) (x : DReceiver) (h : decReceiver o cs = some x) : Wks cs (encReceiver o x) := by
  unfold decReceiver at h
  split at h
  · obtain ⟨x0, h0, h⟩ := bind_some h
    obtain ⟨x1, h1, h⟩ := bind_some h
    injection h with h
    subst h
    exact (.cons (V.asI_ok h0) (.cons (V.asL_ok h1) Wks.nil))
  · cases h
theorem decNode_ok (o : Nat) (cs : List V) (x : DNode) (h : decNode o cs = some x) : Wks cs (encNode o x) := by
  unfold decNode at h
  split at h
  · obtain ⟨x0, h0, h⟩ := bind_some h
    obtain ⟨x1, h1, h⟩ := bind_some h
    injection h with h
    subst h
    exact (.cons (V.asI_ok h0) (.cons (V.asI_ok h1) Wks.nil))
  · cases h
theorem decTree_ok (o : Nat) (cs : List V) (x : DTree) (h : decTree o cs = some x) : Wks cs (encTree o x) := by
  unfold decTree at h
  split at h
  · obtain ⟨x0, h0, h⟩ := bind_some h
    obtain ⟨x1, h1, h⟩ := bind_some h
    obtain ⟨x2, h2, h⟩ := bind_some h
    injection h with h
    subst h
    exact (.cons (V.asI_ok h0) (.cons (V.asL_ok h1) (.cons (V.asL_ok h2) Wks.nil)))
  · cases h
theorem decSecure_ok (o : Nat) (cs : List V) (x : DSecure) (h : decSecure o cs = some x) : Wks cs (encSecure o x) := by
  unfold decSecure at h
  split at h
  · obtain ⟨x0, h0, h⟩ := bind_some h
    obtain ⟨x1, h1, h⟩ := bind_some h
    obtain ⟨x2, h2, h⟩ := bind_some h
    obtain ⟨x3, h3, h⟩ := bind_some h
    obtain ⟨x4, h4, h⟩ := bind_some h
    obtain ⟨x5, h5, h⟩ := bind_some h
    injection h with h
    subst h
    exact (.cons (V.asI_ok h0) (.cons (V.asI_ok h1) (.cons (V.asL_ok h2) (.cons (V.asL_ok h3) (.cons (V.asL_ok h4) (.cons (V.asL_ok h5) Wks.nil))))))
  · cases h
theorem decScrubber_ok (o : Nat) (cs : List V) (x : DScrubber) (h : decScrubber o cs = some x) : Wks cs (encScrubber o x) := by
  unfold decScrubber at h
  split at h
  · obtain ⟨x0, h0, h⟩ := bind_some h
    obtain ⟨x1, h1, h⟩ := bind_some h
    obtain ⟨x2, h2, h⟩ := bind_some h
    injection h with h
    subst h
    exact (.cons (V.asI_ok h0) (.cons (V.asI_ok h1) (.cons (V.asI_ok h2) Wks.nil)))
  · cases h
theorem decTicket_ok (o : Nat) (cs : List V) (x : DTicket) (h : decTicket o cs = some x) : Wks cs (encTicket o x) := by
  unfold decTicket at h
  split at h
  · obtain ⟨x0, h0, h⟩ := bind_some h
    obtain ⟨x1, h1, h⟩ := bind_some h
    obtain ⟨x2, h2, h⟩ := bind_some h
    obtain ⟨x3, h3, h⟩ := bind_some h
    obtain ⟨x4, h4, h⟩ := bind_some h
    obtain ⟨x5, h5, h⟩ := bind_some h
    injection h with h
    subst h
    exact (.cons (V.asI_ok h0) (.cons (V.asL_ok h1) (.cons (V.asB_ok h2) (.cons (V.asL_ok h3) (.cons (V.asB_ok h4) (.cons (V.asI_ok h5) Wks.nil))))))
  · cases h
theorem decMove_ok (o : Nat) (cs : List V) (x : DMove) (h : decMove o cs = some x) : Wks cs (encMove o x) := by
  unfold decMove at h
  split at h
  · obtain ⟨x0, h0, h⟩ := bind_some h
    obtain ⟨x1, h1, h⟩ := bind_some h
    obtain ⟨x2, h2, h⟩ := bind_some h
    obtain ⟨x3, h3, h⟩ := bind_some h
    injection h with h
    subst h
    exact (.cons (V.asI_ok h0) (.cons (V.asI_ok h1) (.cons (V.asI_ok h2) (.cons (V.asI_ok h3) Wks.nil))))
  · cases h
theorem decPolicy_ok (o : Nat) (cs : List V) (x : DPolicy) (h : decPolicy o cs = some x) : Wks cs (encPolicy o x) := by
  unfold decPolicy at h
  split at h
  · obtain ⟨x0, h0, h⟩ := bind_some h
    obtain ⟨x1, h1, h⟩ := bind_some h
    obtain ⟨x2, h2, h⟩ := bind_some h
    obtain ⟨x3, h3, h⟩ := bind_some h
    obtain ⟨x4, h4, h⟩ := bind_some h
    obtain ⟨x5, h5, h⟩ := bind_some h
    obtain ⟨x6, h6, h⟩ := bind_some h
    obtain ⟨x7, h7, h⟩ := bind_some h
    injection h with h
    subst h
    exact (.cons (V.asI_ok h0) (.cons (V.asI_ok h1) (.cons (V.asI_ok h2) (.cons (V.asI_ok h3) (.cons (V.asI_ok h4) (.cons (V.asL_ok h5) (.cons (V.asI_ok h6) (.cons (V.asI_ok h7) Wks.nil))))))))
  · cases h
theorem decPolicyBox_ok (o : Nat) (cs : List V) (x : DPolicyBox) (h : decPolicyBox o cs = some x) : Wks cs (encPolicyBox o x) := by
  unfold decPolicyBox at h
  split at h
  · obtain ⟨x0, h0, h⟩ := bind_some h
    obtain ⟨x1, h1, h⟩ := bind_some h
    obtain ⟨x2, h2, h⟩ := bind_some h
    obtain ⟨x3, h3, h⟩ := bind_some h
    obtain ⟨x4, h4, h⟩ := bind_some h
    obtain ⟨x5, h5, h⟩ := bind_some h
    obtain ⟨x6, h6, h⟩ := bind_some h
    obtain ⟨x7, h7, h⟩ := bind_some h
    obtain ⟨x8, h8, h⟩ := bind_some h
    obtain ⟨x9, h9, h⟩ := bind_some h
    obtain ⟨x10, h10, h⟩ := bind_some h
    obtain ⟨x11, h11, h⟩ := bind_some h
    obtain ⟨x12, h12, h⟩ := bind_some h
    obtain ⟨x13, h13, h⟩ := bind_some h
    obtain ⟨x14, h14, h⟩ := bind_some h
    obtain ⟨x15, h15, h⟩ := bind_some h
    obtain ⟨x16, h16, h⟩ := bind_some h
    injection h with h
    subst h
    exact (.cons (V.asI_ok h0) (.cons (V.asI_ok h1) (.cons (V.asI_ok h2) (.cons (V.asI_ok h3) (.cons (V.asI_ok h4) (.cons (V.asL_ok h5) (.cons (V.asI_ok h6) (.cons (V.asI_ok h7) (.cons (V.asI_ok h8) (.cons (V.asI_ok h9) (.cons (V.asI_ok h10) (.cons (V.asI_ok h11) (.cons (V.asI_ok h12) (.cons (V.asL_ok h13) (.cons (V.asI_ok h14) (.cons (V.asI_ok h15) (.cons (V.asB_ok h16) Wks.nil)))))))))))))))))
  · cases h
theorem decConfig_ok (o : Nat) (cs : List V) (x : DConfig) (h : decConfig o cs = some x) : Wks cs (encConfig o x) := by
  unfold decConfig at h
  split at h
  · obtain ⟨x0, h0, h⟩ := bind_some h
    obtain ⟨x1, h1, h⟩ := bind_some h
    obtain ⟨x2, h2, h⟩ := bind_some h
    obtain ⟨x3, h3, h⟩ := bind_some h
    obtain ⟨x4, h4, h⟩ := bind_some h
    obtain ⟨x5, h5, h⟩ := bind_some h
    obtain ⟨x6, h6, h⟩ := bind_some h
    obtain ⟨x7, h7, h⟩ := bind_some h
    obtain ⟨x8, h8, h⟩ := bind_some h
    obtain ⟨x9, h9, h⟩ := bind_some h
    obtain ⟨x10, h10, h⟩ := bind_some h
    obtain ⟨x11, h11, h⟩ := bind_some h
    obtain ⟨x12, h12, h⟩ := bind_some h
    obtain ⟨x13, h13, h⟩ := bind_some h
    obtain ⟨x14, h14, h⟩ := bind_some h
    obtain ⟨x15, h15, h⟩ := bind_some h
    obtain ⟨x16, h16, h⟩ := bind_some h
    obtain ⟨x17, h17, h⟩ := bind_some h
    obtain ⟨x18, h18, h⟩ := bind_some h
    obtain ⟨x19, h19, h⟩ := bind_some h
    obtain ⟨x20, h20, h⟩ := bind_some h
    obtain ⟨x21, h21, h⟩ := bind_some h
    obtain ⟨x22, h22, h⟩ := bind_some h
    obtain ⟨x23, h23, h⟩ := bind_some h
    obtain ⟨x24, h24, h⟩ := bind_some h
    obtain ⟨x25, h25, h⟩ := bind_some h
    obtain ⟨x26, h26, h⟩ := bind_some h
    obtain ⟨x27, h27, h⟩ := bind_some h
    injection h with h
    subst h
    exact (.cons (V.asI_ok h0) (.cons (V.asI_ok h1) (.cons (V.asI_ok h2) (.cons (V.asI_ok h3) (.cons (V.asI_ok h4) (.cons (V.asI_ok h5) (.cons (V.asI_ok h6) (.cons (V.asI_ok h7) (.cons (V.asI_ok h8) (.cons (V.asI_ok h9) (.cons (V.asI_ok h10) (.cons (V.asI_ok h11) (.cons (V.asI_ok h12) (.cons (V.asI_ok h13) (.cons (V.asI_ok h14) (.cons (V.asI_ok h15) (.cons (V.asI_ok h16) (.cons (V.asI_ok h17) (.cons (V.asI_ok h18) (.cons (V.asI_ok h19) (.cons (V.asI_ok h20) (.cons (V.asI_ok h21) (.cons (V.asB_ok h22) (.cons (V.asI_ok h23) (.cons (V.asI_ok h24) (.cons (V.asI_ok h25) (.cons (V.asI_ok h26) (.cons (V.asI_ok h27) Wks.nil))))))))))))))))))))))))))))
  · cases h
theorem decRep_ok (o : Nat) (cs : List V) (x : DRep) (h : decRep o cs = some x) : Wks cs (encRep o x) := by
  unfold decRep at h
  split at h
  · obtain ⟨x0, h0, h⟩ := bind_some h
    obtain ⟨x1, h1, h⟩ := bind_some h
    obtain ⟨x2, h2, h⟩ := bind_some h
    obtain ⟨x3, h3, h⟩ := bind_some h
    injection h with h
    subst h
    exact (.cons (V.asI_ok h0) (.cons (V.asI_ok h1) (.cons (V.asI_ok h2) (.cons (V.asI_ok h3) Wks.nil))))
  · cases h
theorem decController_ok (o : Nat) (cs : List V) (x : DController) (h : decController o cs = some x) : Wks cs (encController o x) := by
  unfold decController at h
  split at h
  · obtain ⟨x0, h0, h⟩ := bind_some h
    obtain ⟨x1, h1, h⟩ := bind_some h
    obtain ⟨x2, h2, h⟩ := bind_some h
    obtain ⟨x3, h3, h⟩ := bind_some h
    obtain ⟨x4, h4, h⟩ := bind_some h
    obtain ⟨x5, h5, h⟩ := bind_some h
    obtain ⟨x6, h6, h⟩ := bind_some h
    obtain ⟨x7, h7, h⟩ := bind_some h
    obtain ⟨x8, h8, h⟩ := bind_some h
    obtain ⟨x9, h9, h⟩ := bind_some h
    obtain ⟨x10, h10, h⟩ := bind_some h
    obtain ⟨x11, h11, h⟩ := bind_some h
    obtain ⟨x12, h12, h⟩ := bind_some h
    obtain ⟨x13, h13, h⟩ := bind_some h
    obtain ⟨x14, h14, h⟩ := bind_some h
    obtain ⟨x15, h15, h⟩ := bind_some h
    obtain ⟨x16, h16, h⟩ := bind_some h
    obtain ⟨x17, h17, h⟩ := bind_some h
    obtain ⟨x18, h18, h⟩ := bind_some h
    obtain ⟨x19, h19, h⟩ := bind_some h
    obtain ⟨x20, h20, h⟩ := bind_some h
    obtain ⟨x21, h21, h⟩ := bind_some h
    obtain ⟨x22, h22, h⟩ := bind_some h
    obtain ⟨x23, h23, h⟩ := bind_some h
    obtain ⟨x24, h24, h⟩ := bind_some h
    obtain ⟨x25, h25, h⟩ := bind_some h
    obtain ⟨x26, h26, h⟩ := bind_some h
    obtain ⟨x27, h27, h⟩ := bind_some h
    obtain ⟨x28, h28, h⟩ := bind_some h
    obtain ⟨x29, h29, h⟩ := bind_some h
    obtain ⟨x30, h30, h⟩ := bind_some h
    obtain ⟨x31, h31, h⟩ := bind_some h
    obtain ⟨x32, h32, h⟩ := bind_some h
    obtain ⟨x33, h33, h⟩ := bind_some h
    obtain ⟨x34, h34, h⟩ := bind_some h
    obtain ⟨x35, h35, h⟩ := bind_some h
    obtain ⟨x36, h36, h⟩ := bind_some h
    obtain ⟨x37, h37, h⟩ := bind_some h
    obtain ⟨x38, h38, h⟩ := bind_some h
    obtain ⟨x39, h39, h⟩ := bind_some h
    obtain ⟨x40, h40, h⟩ := bind_some h
    obtain ⟨x41, h41, h⟩ := bind_some h
    obtain ⟨x42, h42, h⟩ := bind_some h
    obtain ⟨x43, h43, h⟩ := bind_some h
    obtain ⟨x44, h44, h⟩ := bind_some h
    obtain ⟨x45, h45, h⟩ := bind_some h
    obtain ⟨x46, h46, h⟩ := bind_some h
    obtain ⟨x47, h47, h⟩ := bind_some h
    obtain ⟨x48, h48, h⟩ := bind_some h
    obtain ⟨x49, h49, h⟩ := bind_some h
    obtain ⟨x50, h50, h⟩ := bind_some h
    obtain ⟨x51, h51, h⟩ := bind_some h
    obtain ⟨x52, h52, h⟩ := bind_some h
    obtain ⟨x53, h53, h⟩ := bind_some h
    obtain ⟨x54, h54, h⟩ := bind_some h
    obtain ⟨x55, h55, h⟩ := bind_some h
    obtain ⟨x56, h56, h⟩ := bind_some h
    obtain ⟨x57, h57, h⟩ := bind_some h
    obtain ⟨x58, h58, h⟩ := bind_some h
    obtain ⟨x59, h59, h⟩ := bind_some h
    obtain ⟨x60, h60, h⟩ := bind_some h
    obtain ⟨x61, h61, h⟩ := bind_some h
    obtain ⟨x62, h62, h⟩ := bind_some h
    obtain ⟨x63, h63, h⟩ := bind_some h
    obtain ⟨x64, h64, h⟩ := bind_some h
    obtain ⟨x65, h65, h⟩ := bind_some h
    obtain ⟨x66, h66, h⟩ := bind_some h
    obtain ⟨x67, h67, h⟩ := bind_some h
    obtain ⟨x68, h68, h⟩ := bind_some h
    obtain ⟨x69, h69, h⟩ := bind_some h
    obtain ⟨x70, h70, h⟩ := bind_some h
    obtain ⟨x71, h71, h⟩ := bind_some h
    obtain ⟨x72, h72, h⟩ := bind_some h
    obtain ⟨x73, h73, h⟩ := bind_some h
    obtain ⟨x74, h74, h⟩ := bind_some h
    injection h with h
    subst h
    exact (.cons (V.asI_ok h0) (.cons (V.asI_ok h1) (.cons (V.asI_ok h2) (.cons (V.asI_ok h3) (.cons (V.asI_ok h4) (.cons (V.asI_ok h5) (.cons (V.asI_ok h6) (.cons (V.asI_ok h7) (.cons (V.asI_ok h8) (.cons (V.asI_ok h9) (.cons (V.asI_ok h10) (.cons (V.asI_ok h11) (.cons (V.asI_ok h12) (.cons (V.asI_ok h13) (.cons (V.asI_ok h14) (.cons (V.asI_ok h15) (.cons (V.asI_ok h16) (.cons (V.asI_ok h17) (.cons (V.asI_ok h18) (.cons (V.asI_ok h19) (.cons (V.asI_ok h20) (.cons (V.asI_ok h21) (.cons (V.asB_ok h22) (.cons (V.asI_ok h23) (.cons (V.asI_ok h24) (.cons (V.asI_ok h25) (.cons (V.asI_ok h26) (.cons (V.asI_ok h27) (.cons (V.asI_ok h28) (.cons (V.asI_ok h29) (.cons (V.asI_ok h30) (.cons (V.asI_ok h31) (.cons (V.asI_ok h32) (.cons (V.asL_ok h33) (.cons (V.asI_ok h34) (.cons (V.asI_ok h35) (.cons (V.asI_ok h36) (.cons (V.asI_ok h37) (.cons (V.asI_ok h38) (.cons (V.asI_ok h39) (.cons (V.asI_ok h40) (.cons (V.asL_ok h41) (.cons (V.asI_ok h42) (.cons (V.asI_ok h43) (.cons (V.asB_ok h44) (.cons (V.asI_ok h45) (.cons (V.asL_ok h46) (.cons (V.asI_ok h47) (.cons (V.asL_ok h48) (.cons (V.asL_ok h49) (.cons (V.asL_ok h50) (.cons (V.asL_ok h51) (.cons (V.asL_ok h52) (.cons (V.asI_ok h53) (.cons (V.asL_ok h54) (.cons (V.asL_ok h55) (.cons (V.asI_ok h56) (.cons (V.asB_ok h57) (.cons (V.asL_ok h58) (.cons (V.asL_ok h59) (.cons (V.asL_ok h60) (.cons (V.asL_ok h61) (.cons (V.asL_ok h62) (.cons (V.asB_ok h63) (.cons (V.asI_ok h64) (.cons (V.asI_ok h65) (.cons (V.asI_ok h66) (.cons (V.asI_ok h67) (.cons (V.asI_ok h68) (.cons (V.asI_ok h69) (.cons (V.asI_ok h70) (.cons (V.asI_ok h71) (.cons (V.asL_ok h72) (.cons (V.asL_ok h73) (.cons (V.asL_ok h74) Wks.nil)))))))))))))))))))))))))))))))))))))))))))))))))))))))))))))))))))))))))))
  · cases h
theorem decAct_ok (o : Nat) (cs : List V) (x : DAct) (h : decAct o cs = some x) : Wks cs (encAct o x) := by
  unfold decAct at h
  split at h
  · obtain ⟨x0, h0, h⟩ := bind_some h
    obtain ⟨x1, h1, h⟩ := bind_some h
    obtain ⟨x2, h2, h⟩ := bind_some h
    obtain ⟨x3, h3, h⟩ := bind_some h
    obtain ⟨x4, h4, h⟩ := bind_some h
    obtain ⟨x5, h5, h⟩ := bind_some h
    obtain ⟨x6, h6, h⟩ := bind_some h
    obtain ⟨x7, h7, h⟩ := bind_some h
    obtain ⟨x8, h8, h⟩ := bind_some h
    obtain ⟨x9, h9, h⟩ := bind_some h
    obtain ⟨x10, h10, h⟩ := bind_some h
    obtain ⟨x11, h11, h⟩ := bind_some h
    obtain ⟨x12, h12, h⟩ := bind_some h
    obtain ⟨x13, h13, h⟩ := bind_some h
    obtain ⟨x14, h14, h⟩ := bind_some h
    obtain ⟨x15, h15, h⟩ := bind_some h
    obtain ⟨x16, h16, h⟩ := bind_some h
    obtain ⟨x17, h17, h⟩ := bind_some h
    obtain ⟨x18, h18, h⟩ := bind_some h
    obtain ⟨x19, h19, h⟩ := bind_some h
    injection h with h
    subst h
    exact (.cons (V.asI_ok h0) (.cons (V.asI_ok h1) (.cons (V.asI_ok h2) (.cons (V.asI_ok h3) (.cons (V.asB_ok h4) (.cons (V.asI_ok h5) (.cons (V.asI_ok h6) (.cons (V.asI_ok h7) (.cons (V.asI_ok h8) (.cons (V.asI_ok h9) (.cons (V.asI_ok h10) (.cons (V.asI_ok h11) (.cons (V.asI_ok h12) (.cons (V.asI_ok h13) (.cons (V.asI_ok h14) (.cons (V.asI_ok h15) (.cons (V.asI_ok h16) (.cons (V.asL_ok h17) (.cons (V.asI_ok h18) (.cons (V.asI_ok h19) Wks.nil))))))))))))))))))))
  · cases h
theorem decFact_ok (o : Nat) (cs : List V) (x : DFact) (h : decFact o cs = some x) : Wks cs (encFact o x) := by
  unfold decFact at h
  split at h
  · obtain ⟨x0, h0, h⟩ := bind_some h
    obtain ⟨x1, h1, h⟩ := bind_some h
    obtain ⟨x2, h2, h⟩ := bind_some h
    injection h with h
    subst h
    exact (.cons (V.asI_ok h0) (.cons (V.asI_ok h1) (.cons (V.asI_ok h2) Wks.nil)))
  · cases h
theorem decCur_ok (o : Nat) (cs : List V) (x : DCur) (h : decCur o cs = some x) : Wks cs (encCur o x) := by
  unfold decCur at h
  split at h
  · obtain ⟨x0, h0, h⟩ := bind_some h
    obtain ⟨x1, h1, h⟩ := bind_some h
    obtain ⟨x2, h2, h⟩ := bind_some h
    injection h with h
    subst h
    exact (.cons (V.asL_ok h0) (.cons (V.asI_ok h1) (.cons (V.asI_ok h2) Wks.nil)))
  · cases h
theorem dec1_ok {α : Type} {f : V -> Option α} {g : α -> V} (hf : ∀ x a, f x = some a -> Wk x (g a)) {cs : List V} {x : α} (h : dec1 f cs = some x) : Wks cs [g x] := by
  unfold dec1 at h
  split at h
  · exact .cons (hf _ _ h) .nil
  · cases h
theorem decP_ok {α : Type} {f : List V -> Option α} {g : α -> List V} (hf : ∀ x a, f x = some a -> Wks x (g a)) {cs : List V} {x : α} (h : decP f cs = some x) : Wks cs (.bool true :: g x) := by
  unfold decP at h
  split at h
  · exact .cons (.same _) (hf _ _ h)
  · cases h
theorem decF_ok {α : Type} {n : Nat} {f : List V -> Option α} {g : α -> List V} (hf : ∀ x a, f x = some a -> Wks x (g a)) {cs : List V} {x : α} (h : decF n f cs = some x) : Wks cs (.bool false :: .int .i64 (n : Int) :: g x) := by
  unfold decF at h
  split at h
  · split at h
    · rename_i hn
      subst hn
      exact .cons (.same _) (.cons (.same _) (hf _ _ h))
    · cases h
  · cases h
theorem dec_ok : (t : TC) -> (o : Nat) -> (cs : List V) -> (x : T t) -> dec t o cs = some x -> Wks cs (enc t o x)
  | .int, _, _, _, h => dec1_ok (g := fun n => .int .i64 n) (fun _ _ => V.asI_ok) h
  | .u8, _, _, _, h => dec1_ok (g := fun n => .int .u8 n) (fun _ _ => V.asU8_ok) h
  | .bool, _, _, _, h => dec1_ok (g := fun n => .bool n) (fun _ _ => V.asB_ok) h
  | .str, _, _, _, h => dec1_ok (g := fun n => .str n) (fun _ _ => V.asS_ok) h
  | .Geometry, o, cs, x, h => decGeometry_ok o cs x h
  | .Addr, o, cs, x, h => decAddr_ok o cs x h
  | .Mapping, o, cs, x, h => decMapping_ok o cs x h
  | .Partition, o, cs, x, h => decPartition_ok o cs x h
  | .Command, o, cs, x, h => decCommand_ok o cs x h
  | .Timing, o, cs, x, h => decTiming_ok o cs x h
  | .Bank, o, cs, x, h => decBank_ok o cs x h
  | .Rank, o, cs, x, h => decRank_ok o cs x h
  | .Event, o, cs, x, h => decEvent_ok o cs x h
  | .Ready, o, cs, x, h => decReady_ok o cs x h
  | .Cell, o, cs, x, h => decCell_ok o cs x h
  | .Array, o, cs, x, h => decArray_ok o cs x h
  | .Limits, o, cs, x, h => decLimits_ok o cs x h
  | .Tracker, o, cs, x, h => decTracker_ok o cs x h
  | .Spare, o, cs, x, h => decSpare_ok o cs x h
  | .Refresh, o, cs, x, h => decRefresh_ok o cs x h
  | .Req, o, cs, x, h => decReq_ok o cs x h
  | .Share, o, cs, x, h => decShare_ok o cs x h
  | .Drain, o, cs, x, h => decDrain_ok o cs x h
  | .Slots, o, cs, x, h => decSlots_ok o cs x h
  | .Served, o, cs, x, h => decServed_ok o cs x h
  | .Power, o, cs, x, h => decPower_ok o cs x h
  | .PowerRule, o, cs, x, h => decPowerRule_ok o cs x h
  | .ErrorEntry, o, cs, x, h => decErrorEntry_ok o cs x h
  | .LogStore, o, cs, x, h => decLogStore_ok o cs x h
  | .Sender, o, cs, x, h => decSender_ok o cs x h
  | .Receiver, o, cs, x, h => decReceiver_ok o cs x h
  | .Node, o, cs, x, h => decNode_ok o cs x h
  | .Tree, o, cs, x, h => decTree_ok o cs x h
  | .Secure, o, cs, x, h => decSecure_ok o cs x h
  | .Scrubber, o, cs, x, h => decScrubber_ok o cs x h
  | .Ticket, o, cs, x, h => decTicket_ok o cs x h
  | .Move, o, cs, x, h => decMove_ok o cs x h
  | .Policy, o, cs, x, h => decPolicy_ok o cs x h
  | .PolicyBox, o, cs, x, h => decPolicyBox_ok o cs x h
  | .Config, o, cs, x, h => decConfig_ok o cs x h
  | .Rep, o, cs, x, h => decRep_ok o cs x h
  | .Controller, o, cs, x, h => decController_ok o cs x h
  | .Act, o, cs, x, h => decAct_ok o cs x h
  | .Fact, o, cs, x, h => decFact_ok o cs x h
  | .Cur, o, cs, x, h => decCur_ok o cs x h
  | .sl t, o, _, _, h => dec1_ok (g := fun n => .sl t o false n) (fun _ _ => V.asL_ok) h
  | .fpController, o, _, _, h => decP_ok (g := encController o) (decController_ok o) h
  | .fnInt g, o, _, _, h => decF_ok (g := fun n => [.int .i64 n]) (fun _ _ h => dec1_ok (g := fun n => .int .i64 n) (fun _ _ => V.asI_ok) h) h
  | .fnReq g, o, _, _, h => decF_ok (g := encReq o) (decReq_ok o) h
  | .fnAddr g, o, _, _, h => decF_ok (g := encAddr o) (decAddr_ok o) h
  | .fnCommand g, o, _, _, h => decF_ok (g := encCommand o) (decCommand_ok o) h
def V.low (n : Nat) : V -> Bool
  | .sl t _ _ _ => Nat.ble (full t + 2) n
  | _ => true
theorem enc_full (t : TC) (o : Nat) (x : T t) : ∀ y ∈ enc t o x, y.low (full t) = true := by
  cases t <;> simp [enc, V.low, full, encGeometry, encAddr, encMapping, encPartition, encCommand, encTiming, encBank, encRank, encEvent, encReady, encCell, encArray, encLimits, encTracker, encSpare, encRefresh, encReq, encShare, encDrain, encSlots, encServed, encPower, encPowerRule, encErrorEntry, encLogStore, encSender, encReceiver, encNode, encTree, encSecure, encScrubber, encTicket, encMove, encPolicy, encPolicyBox, encConfig, encRep, encController, encAct, encFact, encCur]
def V.plain : V -> Bool
  | .int _ _ | .bool _ | .str _ => true
  | _ => false
theorem enc_plain (t : TC) (o : Nat) (x : T t) (h : full t = 0) : ∀ y ∈ enc t o x, y.plain = true := by
  cases t <;> first | (simp [full] at h; done) | simp [enc, V.plain, encGeometry, encAddr, encMapping, encCommand, encTiming, encBank, encEvent, encLimits, encReq, encShare, encDrain, encServed, encPower, encPowerRule, encErrorEntry, encNode, encScrubber, encMove, encConfig, encRep, encFact]
def V.nonnil : V -> Bool
  | .nil => false
  | _ => true
theorem enc_nonnil (t : TC) (o : Nat) (x : T t) : ∀ y ∈ enc t o x, y.nonnil = true := by
  cases t <;> simp [enc, V.nonnil, encGeometry, encAddr, encMapping, encPartition, encCommand, encTiming, encBank, encRank, encEvent, encReady, encCell, encArray, encLimits, encTracker, encSpare, encRefresh, encReq, encShare, encDrain, encSlots, encServed, encPower, encPowerRule, encErrorEntry, encLogStore, encSender, encReceiver, encNode, encTree, encSecure, encScrubber, encTicket, encMove, encPolicy, encPolicyBox, encConfig, encRep, encController, encAct, encFact, encCur]
def tcs : List TC := [.int, .u8, .bool, .str, .sl .int, .sl .bool, .sl .str, .Geometry, .Addr, .Mapping, .Partition, .Command, .Timing, .Bank, .Rank, .Event, .Ready, .Cell, .Array, .Limits, .Tracker, .Spare, .Refresh, .Req, .Share, .Drain, .Slots, .Served, .Power, .PowerRule, .ErrorEntry, .LogStore, .Sender, .Receiver, .Node, .Tree, .Secure, .Scrubber, .Ticket, .Move, .Policy, .PolicyBox, .Config, .Rep, .Controller, .Act, .Fact, .Cur]
def tcOf (e : TypeId) : Option TC := tcs.find? fun t => Nat.beq (tid t) e
theorem tcOf_ok {e : TypeId} {t : TC} (h : tcOf e = some t) : tid t = e := Nat.eq_of_beq_eq_true (List.find?_some (p := fun t => Nat.beq (tid t) e) h)
def V.gr (o : Nat) : V -> Bool
  | .sl _ o' _ _ => o' == o
  | _ => true
theorem enc_gr (t : TC) (o : Nat) (x : T t) : ∀ y ∈ enc t o x, y.gr o = true := by
  cases t <;> simp [enc, V.gr, encGeometry, encAddr, encMapping, encPartition, encCommand, encTiming, encBank, encRank, encEvent, encReady, encCell, encArray, encLimits, encTracker, encSpare, encRefresh, encReq, encShare, encDrain, encSlots, encServed, encPower, encPowerRule, encErrorEntry, encLogStore, encSender, encReceiver, encNode, encTree, encSecure, encScrubber, encTicket, encMove, encPolicy, encPolicyBox, encConfig, encRep, encController, encAct, encFact, encCur]
/-- Contents that nobody writes. -/
def V.fro : V -> Bool
  | .sl _ o _ _ => decide (o < 2)
  | _ => true
/-- The contents, held to be frozen. -/
def V.frz : V -> V
  | .sl t _ q l => .sl t 0 q l
  | x => x
theorem enc_shape (t : TC) (o : Nat) (x y : T t) : (enc t o x).map (fun v => (v.plain, v.fro)) = (enc t o y).map (fun v => (v.plain, v.fro)) := by cases t <;> rfl
theorem V.frz_fro (x : V) : x.frz.fro = true := by cases x <;> simp [V.frz, V.fro]
theorem enc_fro (t : TC) (o : Nat) (x : T t) (ho : o < 2) (j : Nat) (y : V) (h : (enc t o x)[j]? = some y) : y.fro = true := by
  have := enc_gr t o x y (List.mem_of_getElem? h)
  cases y <;> simp_all [V.gr, V.fro]
theorem enc_frz_eq (t : TC) (o : Nat) (x : T t) : enc t 0 x = (enc t o x).map V.frz := by cases t <;> rfl
theorem enc_frz (t : TC) (o : Nat) (x : T t) (j : Nat) (y : V) (h : (enc t 0 x)[j]? = some y) : ∃ z, (enc t o x)[j]? = some z /\ y = z.frz := by
  rw [enc_frz_eq t o x, List.getElem?_map] at h
  cases hz : (enc t o x)[j]? with
  | none => rw [hz] at h; cases h
  | some z => rw [hz] at h; injection h with h; exact ⟨z, rfl, h.symm⟩
def inner : Nat -> Nat
  | 0 => 0
  | 1 => 1
  | n + 2 => n
abbrev Lab := Nat -> Option (List Nat)
inductive RV (w : World) (B : Nat) (lab : Lab) : List Nat -> V -> Value -> Prop
  | int (q : List Nat) (k : IntKind) (n : Int) : RV w B lab q (.int k n) (.int k n)
  | bool (q : List Nat) (b : Bool) : RV w B lab q (.bool b) (.bool b)
  | str (q : List Nat) (s : ByteArray) : RV w B lab q (.str s) (.string s)
  | nil (q : List Nat) : RV w B lab q .nil (.slice none 0 0)
  | slNil (q : List Nat) (t : TC) (o : Nat) : RV w B lab q (.sl t o false []) (.slice none 0 0)
  | slEmp (q : List Nat) (t : TC) (o : Nat) (A : Addr) (c : Nat) (ho : o < 2) : RV w B lab q (.sl t o false []) (.slice (some A) 0 c)
  | slNon (q : List Nat) (t : TC) (o : Nat) (A : Addr) (c : Nat) (ho : o < 2) : RV w B lab q (.sl t o true []) (.slice (some A) 0 c)
  | fro (q : List Nat) (t : TC) (o : Nat) (qn : Bool) (l : List (T t)) (b off cap : Nat) (u : Nat -> Nat -> Value) (ho : o < 2) (hl : lab b = none) (hb : b < w.heap.size) (h1 : o = 1 -> B <= b) (hcap : l.length <= cap)
      (hc : ∀ i (h : i < l.length) j x, (enc t o l[i])[j]? = some x -> w.cell? ⟨b, off + (i * csz t + j), none⟩ = some (u i j))
      (hr : ∀ i (h : i < l.length) j x, (enc t o l[i])[j]? = some x -> RV w B lab [] x (u i j)) : RV w B lab q (.sl t o qn l) (.slice (some ⟨b, off, none⟩) l.length cap)
  | own (q : List Nat) (t : TC) (o : Nat) (qn : Bool) (l : List (T t)) (b cap : Nat) (cs : Array Value) (u : Nat -> Nat -> Value) (hl : lab b = some q) (hh : w.heap[b]? = some (.cells cs (tid t) (0, 0)))
      (hs : cs.size = cap * csz t) (hn : l.length <= cap) (hm : cap <= maxLen /\ (qn = true -> cap = l.length))
      (hc : ∀ i (h : i < l.length) j x, (enc t o l[i])[j]? = some x -> cs[i * csz t + j]? = some (u i j))
      (hr : ∀ i (h : i < l.length) j x, (enc t o l[i])[j]? = some x -> RV w B lab (j :: i :: csz t :: q) x (u i j)) : RV w B lab q (.sl t (o + 2) qn l) (.slice (some ⟨b, 0, none⟩) l.length cap)
section
variable {w w' : World} {B : Nat} {lab lab' : Lab}
def V.regr (n : Nat) : V -> V
  | .sl t _ q l => .sl t n q l
  | x => x
theorem enc_regr (t : TC) (o n : Nat) (x : T t) : enc t n x = (enc t o x).map (V.regr n) := by cases t <;> rfl
def V.fu (n : Nat) : V -> Prop
  | .sl t o _ _ => full t + 2 <= o /\ full t + 2 <= n
  | _ => True
theorem RV.regr {q : List Nat} {x : V} {v : Value} (h : RV w B lab q x v) : ∀ n, x.fu n -> RV w B lab q (x.regr n) v := by
  induction h with
  | int => exact fun _ _ => .int _ _ _
  | bool => exact fun _ _ => .bool _ _
  | str => exact fun _ _ => .str _ _
  | nil => exact fun _ _ => .nil _
  | slNil => exact fun _ _ => .slNil _ _ _
  | slEmp q t o A c ho => exact fun n hn => by have := hn.1; omega
  | slNon q t o A c ho => exact fun n hn => by have := hn.1; omega
  | fro q t o qn l b off cap u ho hl hb h1 hcap hc hr ih => exact fun n hn => by have := hn.1; omega
  | own q t o qn l b cap cs u hl hh hs hn hm hc hr ih =>
    intro n hf
    obtain ⟨h1, h2⟩ := hf
    obtain ⟨m, rfl⟩ : ∃ m, n = m + 2 := ⟨n - 2, by omega⟩
    have key : ∀ (i : Nat) (h : i < l.length) (j : Nat) (x : V), (enc t m l[i])[j]? = some x -> ∃ y : V, (enc t o l[i])[j]? = some y /\ y.regr m = x /\ y.fu m := by
      intro i h j x hx
      rw [enc_regr t o m l[i], List.getElem?_map] at hx
      cases hy : (enc t o l[i])[j]? with
      | none => rw [hy] at hx; cases hx
      | some y =>
        rw [hy] at hx
        injection hx with hx
        refine ⟨y, rfl, hx, ?_⟩
        have g1 := enc_gr t o l[i] y (List.mem_of_getElem? hy)
        have g2 := enc_full t o l[i] y (List.mem_of_getElem? hy)
        cases y with
        | sl t' o' q' l' =>
          have e : o' = o := by simpa [V.gr] using g1
          have := Nat.le_of_ble_eq_true (show Nat.ble (full t' + 2) (full t) = true from g2)
          exact ⟨by omega, by omega⟩
        | _ => trivial
    refine .own _ _ _ _ _ _ _ cs u hl hh hs hn hm (fun i h j x hx => ?_) (fun i h j x hx => ?_)
    · obtain ⟨y, hy, _⟩ := key i h j x hx
      exact hc i h j y hy
    · obtain ⟨y, hy, rfl, hf⟩ := key i h j x hx
      exact ih i h j y hy m hf
theorem RV.wk {q : List Nat} {x y : V} {v : Value} (h : RV w B lab q x v) (k : Wk x y) : RV w B lab q y v := by
  cases k with
  | same => exact h
  | nil t o => cases h; exact .slNil _ _ _
  | gr t o o' qn l h1 h2 =>
    have h := h.regr o ⟨h2, h1⟩
    have h : RV w B lab q (.sl t o qn l) v := h
    cases h with
    | slNil => exact .slNil _ _ _
    | slEmp q t o A c ho => exact .slEmp _ _ _ _ _ ho
    | slNon q t o A c ho => exact .slEmp _ _ _ _ _ ho
    | fro q t o qn l b off cap u ho hl hb h1 hcap hc hr => exact .fro _ _ _ _ _ _ _ _ u ho hl hb h1 hcap hc hr
    | own q t o qn l b cap cs u hl hh hs hn hm hc hr => exact .own _ _ _ _ _ _ _ cs u hl hh hs hn ⟨hm.1, fun h => by cases h⟩ hc hr
  | q t o l =>
    cases h with
    | slNon q t o A c ho => exact .slEmp _ _ _ _ _ ho
    | fro q t o qn l b off cap u ho hl hb h1 hcap hc hr => exact .fro _ _ _ _ _ _ _ _ u ho hl hb h1 hcap hc hr
    | own q t o qn l b cap cs u hl hh hs hn hm hc hr => exact .own _ _ _ _ _ _ _ cs u hl hh hs hn ⟨hm.1, fun h => by cases h⟩ hc hr
theorem RV.key {q q' : List Nat} {x : V} {v : Value} (h : RV w B lab q x v) (hf : x.fro = true) : RV w B lab q' x v := by
  cases h with
  | int => exact .int _ _ _
  | bool => exact .bool _ _
  | str => exact .str _ _
  | nil => exact .nil _
  | slNil => exact .slNil _ _ _
  | slEmp => exact .slEmp _ _ _ _ _ (by first | assumption | omega)
  | slNon => exact .slNon _ _ _ _ _ (by first | assumption | omega)
  | fro q t o qn l b off cap u ho hl hb h1 hcap hc hr => exact .fro _ _ _ _ _ _ _ _ u ho hl hb h1 hcap hc hr
  | own q t o qn l b cap cs u hl hh hs hn hm hc hr => simp [V.fro] at hf; omega
def isSl : Value -> Bool
  | .slice .. => true
  | _ => false
theorem RV.notfro {q : List Nat} {x : V} {u : Value} (h : RV w B lab q x u) (hf : x.fro = false) : isSl u = true := by
  cases h <;> first | rfl | cases hf
theorem RV.one {q : List Nat} {x : V} {u : Value} (h : RV w B lab q x u) : u.oneCell' = true := by
  cases h <;> rfl
theorem RV.keep {q : List Nat} {x : V} {v : Value} (h : RV w B lab q x v) (hz : w.heap.size <= w'.heap.size) (hk : ∀ b, b < w.heap.size -> w'.heap[b]? = w.heap[b]? /\ lab' b = lab b) : RV w' B lab' q x v := by
  induction h with
  | int => exact .int _ _ _
  | bool => exact .bool _ _
  | str => exact .str _ _
  | nil => exact .nil _
  | slNil => exact .slNil _ _ _
  | slEmp => exact .slEmp _ _ _ _ _ (by first | assumption | omega)
  | slNon => exact .slNon _ _ _ _ _ (by first | assumption | omega)
  | fro q t o qn l b off cap u ho hl hb h1 hcap hc hr ih =>
    exact .fro _ _ _ _ _ _ _ _ u ho ((hk b hb).2.trans hl) (Nat.lt_of_lt_of_le hb hz) h1 hcap (fun i h j x hx => (World.cell?_of_block (a := ⟨b, _, none⟩) (hk b hb).1).trans (hc i h j x hx)) ih
  | own q t o qn l b cap cs u hl hh hs hn hm hc hr ih =>
    have hb : b < w.heap.size := (Array.getElem?_eq_some_iff.1 hh).1
    exact .own _ _ _ _ _ _ _ cs u ((hk b hb).2.trans hl) ((hk b hb).1.trans hh) hs hn hm hc ih
theorem RV.apart {q kt : List Nat} {x : V} {v : Value} {bt : Nat} (h : RV w B lab q x v) (hbt : lab bt = some kt) (hq : ¬ q <:+ kt \/ x.fro = true) (hz : w.heap.size <= w'.heap.size) (hk : ∀ b, b ≠ bt -> w'.heap[b]? = w.heap[b]?) : RV w' B lab q x v := by
  induction h with
  | int => exact .int _ _ _
  | bool => exact .bool _ _
  | str => exact .str _ _
  | nil => exact .nil _
  | slNil => exact .slNil _ _ _
  | slEmp => exact .slEmp _ _ _ _ _ (by first | assumption | omega)
  | slNon => exact .slNon _ _ _ _ _ (by first | assumption | omega)
  | fro q t o qn l b off cap u ho hl hb h1 hcap hc hr ih =>
    have hne : b ≠ bt := by rintro rfl; rw [hl] at hbt; cases hbt
    refine .fro _ _ _ _ _ _ _ _ u ho hl (Nat.lt_of_lt_of_le hb hz) h1 hcap (fun i h j x hx => (World.cell?_of_block (a := ⟨b, _, none⟩) (hk b hne)).trans (hc i h j x hx)) (fun i h j x hx => ih i h j x hx (.inr (enc_fro t o l[i] ho j x hx)))
  | own q t o qn l b cap cs u hl hh hs hn hm hc hr ih =>
    have hq' : ¬ q <:+ kt := by
      rcases hq with hq | hq
      · exact hq
      · simp [V.fro] at hq; omega
    have hne : b ≠ bt := by rintro rfl; rw [hl] at hbt; injection hbt with hbt; subst hbt; exact hq' (List.suffix_refl _)
    refine .own _ _ _ _ _ _ _ cs u hl ((hk b hne).trans hh) hs hn hm hc (fun i h j x hx => ih i h j x hx (.inl fun hs => hq' (List.IsSuffix.trans ⟨[j, i, csz t], rfl⟩ hs)))
theorem RV.frz {q q' : List Nat} {x : V} {v : Value} (h : RV w B lab q x v) {B' : Nat} : RV w B' (fun _ => none) q' x.frz v := by
  induction h generalizing q' with
  | int => exact .int _ _ _
  | bool => exact .bool _ _
  | str => exact .str _ _
  | nil => exact .nil _
  | slNil => exact .slNil _ _ _
  | slEmp => exact .slEmp _ _ _ _ _ (by first | assumption | omega)
  | slNon => exact .slNon _ _ _ _ _ (by first | assumption | omega)
  | fro q t o qn l b off cap u ho hl hb h1 hcap hc hr ih =>
    refine .fro _ _ _ _ _ _ _ _ u (by omega) rfl hb (by omega) hcap (fun i h j x hx => ?_) (fun i h j x hx => ?_)
    · obtain ⟨y, hy, _⟩ := enc_frz t o l[i] j x hx
      exact hc i h j y hy
    · obtain ⟨y, hy, rfl⟩ := enc_frz t o l[i] j x hx
      exact ih i h j y hy
  | own q t o qn l b cap cs u hl hh hs hn hm hc hr ih =>
    refine .fro _ _ _ _ _ _ _ _ u (by omega) rfl (Array.getElem?_eq_some_iff.1 hh).1 (by omega) hn (fun i h j x hx => ?_) (fun i h j x hx => ?_)
    · obtain ⟨y, hy, _⟩ := enc_frz t o l[i] j x hx
      have := hc i h j y hy
      rw [Nat.zero_add, cell_of_row w b _ cs _ _ hh]
      exact this
    · obtain ⟨y, hy, rfl⟩ := enc_frz t o l[i] j x hx
      exact ih i h j y hy
end
end Go.Proofs.YtckjagaogcbedaaGreat
namespace Go.Proofs.YtckjagaogcbedaaGreat
open Go.RowKit
set_option linter.unusedVariables false
inductive Lf where
  | v (x : V)
  | own (k : List Nat)
  | dead
inductive A where
  | undef
  | skip
  | lf (x : Lf)
  | agg (cs : List Lf)
  | tup (xs : List (Bool × List Lf))
  | ptr (k : List Nat)
  | bptr (r j : Nat)
  | fptr (cs : List V)
  | ffn (f : Nat) (cs : List V)
  | pk (r n : Nat)
  | view (k : List Nat) (s i j : Nat)
  | fn (f : Nat) (cap : List (Nat × Nat))
inductive Root where
  | blk (cs : List Lf)
  | sl (y : V)
  | mp (l : List (Int × Bool))
  | gh (xs : List A)
structure S where
  t : Nat -> A
  m : Nat -> Option Root
inductive Loc where
  | blk (b off : Nat)
  | hdr (v : Value)
  | vals (us : List Value)
def addrAt (w : World) (lab : Lab) (ρ : Nat -> Loc) : List Nat -> Option Addr
  | j :: i :: s :: [r] => match ρ r with
    | .hdr (.slice (some ⟨b, 0, none⟩) _ _) => if lab b = some [r] then some ⟨b, i * s + j, none⟩ else none
    | _ => none
  | j :: i :: s :: q => match (addrAt w lab ρ q).bind w.cell? with
    | some (.slice (some ⟨b, 0, none⟩) _ _) => if lab b = some q then some ⟨b, i * s + j, none⟩ else none
    | _ => none
  | _ => none
def valAt (w : World) (lab : Lab) (ρ : Nat -> Loc) : List Nat -> Option Value
  | [r] => match ρ r with
    | .hdr v => some v
    | _ => none
  | q => (addrAt w lab ρ q).bind w.cell?
def RLf (w : World) (B : Nat) (lab : Lab) (ρ : Nat -> Loc) : Lf -> Value -> Prop
  | .v x, u => x.fro = true /\ RV w B lab [] x u
  | .own k, u => isSl u = true /\ valAt w lab ρ k = some u
  | .dead, _ => True
def RLs (w : World) (B : Nat) (lab : Lab) (ρ : Nat -> Loc) (cs : List Lf) (us : Array Value) : Prop :=
  us.size = cs.length /\ ∀ (j : Nat) x, cs[j]? = some x -> ∃ u, us[j]? = some u /\ RLf w B lab ρ x u
def RP (w : World) (B : Nat) (lab : Lab) (ρ : Nat -> Loc) (p : Bool × List Lf) (u : Value) : Prop :=
  match p with
  | (true, cs) => ∃ us, u = .agg us /\ RLs w B lab ρ cs us
  | (false, cs) => RLs w B lab ρ cs #[u]
def mapN : Nat := 4294967296
def pkV (b n : Nat) : Value := bif Nat.beq n mapN then .map (some b) else .slice (some ⟨b, 0, none⟩) n n
theorem pkV_sl {b n : Nat} (h : n < mapN) : pkV b n = .slice (some ⟨b, 0, none⟩) n n := by
  unfold pkV
  cases hb : Nat.beq n mapN with
  | true => have := Nat.eq_of_beq_eq_true hb; omega
  | false => rfl
theorem pkV_map (b : Nat) : pkV b mapN = .map (some b) := rfl
def RF (w : World) (B : Nat) (lab : Lab) (cs : List V) (u : Value) : Prop :=
  ∃ b off, u = .pointer (some ⟨b, off, none⟩) /\ b < w.heap.size /\ lab b = none /\ ∀ (j : Nat) x, cs[j]? = some x -> x.fro = true /\ ∃ v, w.cell? ⟨b, off + j, none⟩ = some v /\ RV w B lab [] x v
def RA (w : World) (B : Nat) (lab : Lab) (ρ : Nat -> Loc) : A -> Value -> Prop
  | .undef, _ => True
  | .skip, u => u = Go.undef
  | .lf x, u => RLf w B lab ρ x u
  | .agg cs, u => RP w B lab ρ (true, cs) u
  | .tup xs, u => ∃ us : Array Value, u = .tuple us /\ us.size = xs.length /\ ∀ (j : Nat) p, xs[j]? = some p -> ∃ v, us[j]? = some v /\ RP w B lab ρ p v
  | .ptr k, u => ∃ ad, u = .pointer (some ad) /\ addrAt w lab ρ k = some ad
  | .bptr r j, u => ∃ b off, ρ r = .blk b off /\ u = .pointer (some ⟨b, off + j, none⟩)
  | .fptr cs, u => RF w B lab cs u
  | .ffn f cs, u => ∃ pv, u = .func (.func f) #[] #[pv] /\ RF w B lab cs pv
  | .pk r n, u => ∃ b, ρ r = .blk b 0 /\ u = pkV b n
  | .view k s i j, u => ∃ A n c, valAt w lab ρ k = some (.slice A n c) /\ i <= j /\ j <= n /\ u = sliced A i j c s
  | .fn f cap, u => ∃ vs : Array Value, u = .func (.func f) #[] vs /\ vs.size = cap.length /\ ∀ (j : Nat) p, cap[j]? = some p -> ∃ b off, ρ p.1 = .blk b off /\ vs[j]? = some (.pointer (some ⟨b, off + p.2, none⟩))
inductive RootOK (w : World) (B : Nat) (lab : Lab) (ρ : Nat -> Loc) (r : Nat) : Root -> Prop
  | blk (b off : Nat) (cells : Array Value) (e : TypeId) (cs : List Lf) (us : Nat -> Value) (hρ : ρ r = .blk b off) (hl : lab b = some [r]) (hh : w.heap[b]? = some (.cells cells e (0, 0))) (hs : off + cs.length <= cells.size)
      (hc : ∀ (j : Nat) x, cs[j]? = some x -> cells[off + j]? = some (us j) /\ RLf w B lab ρ x (us j)) : RootOK w B lab ρ r (.blk cs)
  | sl (v : Value) (y : V) (hρ : ρ r = .hdr v) (hr : RV w B lab [r] y v) : RootOK w B lab ρ r (.sl y)
  | mp (b clock : Nat) (es : Array MapEntry) (l : List (Int × Bool)) (hρ : ρ r = .blk b 0) (hl : lab b = some [r]) (hh : w.heap[b]? = some (.map es clock)) (he : es.toList.map (fun e => (e.key, e.val)) = l.map fun p => (.int .i64 p.1, .bool p.2)) : RootOK w B lab ρ r (.mp l)
  | gh (us : List Value) (xs : List A) (hρ : ρ r = .vals us) (hx : ∀ (j : Nat) x, xs[j]? = some x -> RA w B lab ρ x (us.getD j undef)) : RootOK w B lab ρ r (.gh xs)
def Qw (_ : World) : Prop := True
structure BelowB (n : Nat) (L : Lab) (w w' : World) : Prop where
  os : w'.os = w.os
  tape : w'.tape = w.tape
  output : w'.output = w.output
  size : w.heap.size <= w'.heap.size
  block : ∀ k, k < n -> L k = none -> w'.heap[k]? = w.heap[k]?
def Hd (w : World) (L : Lab) : Prop := ∀ w', BelowB w.heap.size L w w' -> Qw w'
theorem hd_any (w : World) (L : Lab) : Hd w L := fun _ _ => trivial
theorem Hd.here {w : World} {L : Lab} (h : Hd w L) : Qw w := h w ⟨rfl, rfl, rfl, Nat.le_refl _, fun _ _ _ => rfl⟩
structure Wd where
  w : World
  L : Lab
  F : Nat -> Option Loc
  held : Hd w L
  low : ∀ r, r < 20000 -> F r = none
def Wd.heap (d : Wd) : Array Obj := d.w.heap
def Wd.of (w : World) (h : Hd w fun _ => none) : Wd := ⟨w, fun _ => none, fun _ => none, h, fun _ _ => rfl⟩
structure BelowS (d : Wd) (w w' : World) : Prop where
  os : w'.os = w.os
  tape : w'.tape = w.tape
  output : w'.output = w.output
  size : w.heap.size <= w'.heap.size
  block : ∀ k, k < d.heap.size -> d.L k = none -> w'.heap[k]? = w.heap[k]?
theorem BelowS.trans {d : Wd} {a b c : World} (h : BelowS d a b) (k : BelowS d b c) : BelowS d a c :=
  ⟨k.os.trans h.os, k.tape.trans h.tape, k.output.trans h.output, Nat.le_trans h.size k.size, fun i hi hl => (k.block i hi hl).trans (h.block i hi hl)⟩
theorem Wd.on (d : Wd) {w : World} (h : BelowS d d.w w) {L : Lab} (hL : ∀ b k, L b = some k -> d.heap.size <= b \/ d.L b ≠ none) : Hd w L := fun w' hb =>
  d.held w' ⟨hb.os.trans h.os, hb.tape.trans h.tape, hb.output.trans h.output, Nat.le_trans h.size hb.size, fun k hk hl => by
    have e : L k = none := by
      cases e : L k with
      | none => rfl
      | some q =>
        rcases hL k q e with h1 | h1
        · exact absurd hk (Nat.not_lt.2 h1)
        · exact absurd hl h1
    exact (hb.block k (Nat.lt_of_lt_of_le hk h.size) e).trans (h.block k hk hl)⟩
theorem BelowS.of {d : Wd} {a b : World} {B : Nat} (h : Below B a b) (hB : d.heap.size <= B) : BelowS d a b :=
  ⟨h.os, h.tape, h.output, h.size, fun i hi _ => h.block i (Nat.lt_of_lt_of_le hi hB)⟩
structure Rl (w0 : Wd) (N : Nat) (lab : Lab) (ρ : Nat -> Loc) (σ : S) (a : Act) (w : World) : Prop where
  below : BelowS w0 w0.w w
  lab_ge : ∀ b k, lab b = some k -> (w0.heap.size <= b \/ w0.L b ≠ none) /\ b < w.heap.size /\ k ≠ []
  root : ∀ r x, σ.m r = some x -> RootOK w w0.heap.size lab ρ r x
  tmp : ∀ k, RA w w0.heap.size lab ρ (σ.t k) (a.tmps.getD k undef)
  size : a.tmps.size = N
  defers : a.defers = []
  fix : ∀ r l, w0.F r = some l -> ρ r = l
  lim : ∀ r, (r < N \/ 60000 <= r) -> w0.F r = none
def R (w0 : Wd) (N : Nat) (σ : S) (a : Act) (w : World) : Prop := ∃ lab ρ, Rl w0 N lab ρ σ a w
/-! Reading along a key. -/
inductive Get (m : Nat -> Option Root) : List Nat -> V -> Prop
  | root (r : Nat) (y : V) (h : m r = some (.sl y)) : Get m [r] y
  | elem (j i : Nat) (q : List Nat) (t : TC) (o : Nat) (qn : Bool) (l : List (T t)) (y : V) (h : Get m q (.sl t (o + 2) qn l)) (hi : i < l.length) (hy : (enc t o l[i])[j]? = some y) : Get m (j :: i :: csz t :: q) y
section
variable {w w' : World} {w0 : Wd} {B N : Nat} {lab lab' : Lab} {ρ ρ' : Nat -> Loc} {m : Nat -> Option Root} {σ : S} {a : Act}
theorem addrAt_step {q : List Nat} (j i s : Nat) {b n c : Nat} (h : valAt w lab ρ q = some (.slice (some ⟨b, 0, none⟩) n c)) (hl : lab b = some q) : addrAt w lab ρ (j :: i :: s :: q) = some ⟨b, i * s + j, none⟩ := by
  match q, h, hl with
  | [r], h, hl =>
    simp only [valAt] at h
    simp only [addrAt]
    cases hr : ρ r with
    | blk b off => rw [hr] at h; cases h
    | hdr v => rw [hr] at h; injection h with h; subst h; simp [hl]
    | vals us => rw [hr] at h; cases h
  | [], h, hl => simp [valAt, addrAt] at h
  | x :: y :: q, h, hl =>
    simp only [valAt] at h
    simp only [addrAt, h, hl, if_true]
theorem valAt_long {j i s : Nat} {q : List Nat} : valAt w lab ρ (j :: i :: s :: q) = (addrAt w lab ρ (j :: i :: s :: q)).bind w.cell? := rfl
theorem Get.ok {k : List Nat} {y : V} (h : Get m k y) (hm : ∀ r x, m r = some x -> RootOK w B lab ρ r x) : ∃ u, valAt w lab ρ k = some u /\ RV w B lab k y u := by
  induction h with
  | root r y h =>
    cases hm _ _ h with
    | sl v y hρ hr => exact ⟨v, by simp [valAt, hρ], hr⟩
  | elem j i q t o qn l y h hi hy ih =>
    obtain ⟨u, hu, hr⟩ := ih
    cases hr with
    | slNil => simp at hi
    | slEmp => simp at hi
    | slNon => simp at hi
    | fro _ _ _ _ _ _ _ _ _ ho => omega
    | own _ _ _ _ _ b cap cs us hl hh hs hn hm hc hr =>
      refine ⟨us i j, ?_, hr i hi j y hy⟩
      rw [valAt_long, addrAt_step j i (csz t) hu hl]
      show w.cell? _ = _
      rw [cell_of_row w b _ cs _ _ hh]
      exact hc i hi j y hy
theorem addrAt_lab : ∀ (k : List Nat) (ad : Addr), addrAt w lab ρ k = some ad -> ∃ j i s q, k = j :: i :: s :: q /\ lab ad.block = some q /\ ad.off = i * s + j /\ ad.spot = none /\ (∀ r, q = [r] -> ∃ v, ρ r = .hdr v)
  | [], _, h => by simp [addrAt] at h
  | [_], _, h => by simp [addrAt] at h
  | [_, _], _, h => by simp [addrAt] at h
  | [_, _, _], _, h => by simp [addrAt] at h
  | [j, i, s, r], ad, h => by
    simp only [addrAt] at h
    split at h
    · rename_i v b n c hr
      split at h
      · rename_i hl
        injection h with h
        subst h
        exact ⟨j, i, s, [r], rfl, hl, rfl, rfl, fun r' e => by injection e with e; subst e; exact ⟨_, hr⟩⟩
      · cases h
    · cases h
  | j :: i :: s :: x :: y :: q, ad, h => by
    simp only [addrAt] at h
    split at h
    · split at h
      · rename_i hl
        injection h with h
        subst h
        exact ⟨j, i, s, x :: y :: q, rfl, hl, rfl, rfl, fun r' e => by injection e with _ e; cases e⟩
      · cases h
    · cases h
theorem addrAt_keep (hk : ∀ b, b < w.heap.size -> w'.heap[b]? = w.heap[b]? /\ lab' b = lab b) (hg : ∀ b k, lab b = some k -> b < w.heap.size) : ∀ (k : List Nat) (ad : Addr), addrAt w lab ρ k = some ad -> addrAt w' lab' ρ k = some ad
  | [], _, h => h
  | [_], _, h => h
  | [_, _], _, h => h
  | [_, _, _], _, h => by simp only [addrAt] at h ⊢; exact h
  | [j, i, s, r], _, h => by
    simp only [addrAt] at h ⊢
    split at h
    · rename_i v b n c hr
      split at h
      · rename_i hl
        rw [if_pos ((hk _ (hg _ _ hl)).2.trans hl)]
        exact h
      · cases h
    · cases h
  | j :: i :: s :: x :: y :: q, ad, h => by
    simp only [addrAt] at h ⊢
    cases ha : addrAt w lab ρ (x :: y :: q) with
    | none => rw [ha] at h; cases h
    | some ad' =>
      rw [addrAt_keep hk hg _ _ ha]
      rw [ha] at h
      cases hc : w.cell? ad' with
      | none => simp [hc] at h
      | some v =>
        have e : w'.cell? ad' = some v := (World.cell?_of_block (hk _ (block_lt_of_cell hc)).1).trans hc
        simp only [Option.bind_some, hc] at h
        simp only [Option.bind_some, e]
        split at h
        · split at h
          · rename_i hl
            rw [if_pos ((hk _ (hg _ _ hl)).2.trans hl)]
            exact h
          · cases h
        · cases h
theorem valAt_keep (hk : ∀ b, b < w.heap.size -> w'.heap[b]? = w.heap[b]? /\ lab' b = lab b) (hg : ∀ b k, lab b = some k -> b < w.heap.size) (k : List Nat) (u : Value) (h : valAt w lab ρ k = some u) : valAt w' lab' ρ k = some u := by
  match k, h with
  | [], h => simp [valAt, addrAt] at h
  | [r], h => exact h
  | x :: y :: q, h =>
    simp only [valAt] at h ⊢
    cases ha : addrAt w lab ρ (x :: y :: q) with
    | none => rw [ha] at h; cases h
    | some ad =>
      rw [addrAt_keep hk hg _ _ ha]
      rw [ha] at h
      have h : w.cell? ad = some u := h
      exact (World.cell?_of_block (hk _ (block_lt_of_cell h)).1).trans h
theorem RLf.keep {x : Lf} {u : Value} (h : RLf w B lab ρ x u) (hz : w.heap.size <= w'.heap.size) (hk : ∀ b, b < w.heap.size -> w'.heap[b]? = w.heap[b]? /\ lab' b = lab b) (hg : ∀ b k, lab b = some k -> b < w.heap.size) : RLf w' B lab' ρ x u := by
  cases x with
  | v x => exact ⟨h.1, h.2.keep hz hk⟩
  | own k => exact ⟨h.1, valAt_keep hk hg _ _ h.2⟩
  | dead => trivial
theorem RLs.keep {cs : List Lf} {us : Array Value} (h : RLs w B lab ρ cs us) (hz : w.heap.size <= w'.heap.size) (hk : ∀ b, b < w.heap.size -> w'.heap[b]? = w.heap[b]? /\ lab' b = lab b) (hg : ∀ b k, lab b = some k -> b < w.heap.size) : RLs w' B lab' ρ cs us :=
  ⟨h.1, fun j x hx => let ⟨u, hu, r⟩ := h.2 j x hx; ⟨u, hu, r.keep hz hk hg⟩⟩
theorem RP.keep {p : Bool × List Lf} {u : Value} (h : RP w B lab ρ p u) (hz : w.heap.size <= w'.heap.size) (hk : ∀ b, b < w.heap.size -> w'.heap[b]? = w.heap[b]? /\ lab' b = lab b) (hg : ∀ b k, lab b = some k -> b < w.heap.size) : RP w' B lab' ρ p u := by
  obtain ⟨b, cs⟩ := p
  cases b with
  | true => obtain ⟨us, e, h⟩ := h; exact ⟨us, e, h.keep hz hk hg⟩
  | false => exact RLs.keep h hz hk hg
theorem RF.keep {cs : List V} {u : Value} (h : RF w B lab cs u) (hz : w.heap.size <= w'.heap.size) (hk : ∀ b, b < w.heap.size -> w'.heap[b]? = w.heap[b]? /\ lab' b = lab b) : RF w' B lab' cs u := by
  obtain ⟨b, off, e, hb, hl, h⟩ := h
  refine ⟨b, off, e, Nat.lt_of_lt_of_le hb hz, ((hk b hb).2).trans hl, fun j x hx => ?_⟩
  obtain ⟨hf, v, hv, hr⟩ := h j x hx
  exact ⟨hf, v, (World.cell?_of_block (a := ⟨b, _, none⟩) (hk b hb).1).trans hv, hr.keep hz hk⟩
theorem RA.keep {x : A} {u : Value} (h : RA w B lab ρ x u) (hz : w.heap.size <= w'.heap.size) (hk : ∀ b, b < w.heap.size -> w'.heap[b]? = w.heap[b]? /\ lab' b = lab b) (hg : ∀ b k, lab b = some k -> b < w.heap.size) : RA w' B lab' ρ x u := by
  cases x with
  | undef => trivial
  | skip => exact h
  | lf x => exact RLf.keep h hz hk hg
  | agg cs => exact RP.keep (p := (true, cs)) h hz hk hg
  | tup xs => obtain ⟨us, e, hs, h⟩ := h; exact ⟨us, e, hs, fun j p hp => let ⟨v, hv, r⟩ := h j p hp; ⟨v, hv, r.keep hz hk hg⟩⟩
  | ptr k => obtain ⟨ad, e, h⟩ := h; exact ⟨ad, e, addrAt_keep hk hg _ _ h⟩
  | view k s i j => obtain ⟨A, n, c, h, g⟩ := h; exact ⟨A, n, c, valAt_keep hk hg _ _ h, g⟩
  | pk r n => exact h
  | bptr r j => exact h
  | fptr cs => exact RF.keep h hz hk
  | ffn f cs => obtain ⟨pv, e, h⟩ := h; exact ⟨pv, e, h.keep hz hk⟩
  | fn f cap => exact h
theorem RootOK.keep {r : Nat} {x : Root} (h : RootOK w B lab ρ r x) (hz : w.heap.size <= w'.heap.size) (hk : ∀ b, b < w.heap.size -> w'.heap[b]? = w.heap[b]? /\ lab' b = lab b) (hg : ∀ b k, lab b = some k -> b < w.heap.size) : RootOK w' B lab' ρ r x := by
  cases h with
  | blk b off cells e cs us hρ hl hh hs hc =>
    have hb : b < w.heap.size := (Array.getElem?_eq_some_iff.1 hh).1
    exact .blk b off cells e cs us hρ ((hk b hb).2.trans hl) ((hk b hb).1.trans hh) hs (fun j x hx => ⟨(hc j x hx).1, (hc j x hx).2.keep hz hk hg⟩)
  | sl v y hρ hr => exact .sl v y hρ (hr.keep hz hk)
  | mp b c es l hρ hl hh he =>
    have hb : b < w.heap.size := (Array.getElem?_eq_some_iff.1 hh).1
    exact .mp b c es l hρ ((hk b hb).2.trans hl) ((hk b hb).1.trans hh) he
  | gh us xs hρ hx => exact .gh us xs hρ fun j x hj => (hx j x hj).keep hz hk hg
/-! A root's name is given anew: what named it before is forgotten. -/
def lastIs (d : Nat) (k : List Nat) : Bool := k.getLast? == some d
def Lf.drop (d : Nat) : Lf -> Lf
  | .own k => bif lastIs d k then .dead else .own k
  | x => x
def A.drop (d : Nat) : A -> A
  | .lf x => .lf (x.drop d)
  | .agg cs => .agg (cs.map (Lf.drop d))
  | .tup xs => .tup (xs.map fun p => (p.1, p.2.map (Lf.drop d)))
  | .ptr k => bif lastIs d k then .undef else .ptr k
  | .bptr r j => bif Nat.beq r d then .undef else .bptr r j
  | .pk r n => bif Nat.beq r d then .undef else .pk r n
  | .view k s i j => bif lastIs d k then .undef else .view k s i j
  | .fn f cap => bif cap.any (fun p => Nat.beq p.1 d) then .undef else .fn f cap
  | x => x
def Root.drop (d : Nat) : Root -> Root
  | .blk cs => .blk (cs.map (Lf.drop d))
  | .gh xs => .gh (xs.map (A.drop d))
  | x => x
theorem addrAt_rho {d : Nat} (hρ : ∀ r, r ≠ d -> ρ' r = ρ r) : ∀ (k : List Nat), lastIs d k = false -> addrAt w lab ρ' k = addrAt w lab ρ k
  | [], _ => rfl
  | [_], _ => rfl
  | [_, _], _ => rfl
  | [_, _, _], _ => rfl
  | [j, i, s, r], h => by
    have hr : r ≠ d := by rintro rfl; simp [lastIs] at h
    simp only [addrAt, hρ r hr]
  | j :: i :: s :: x :: y :: q, h => by
    have h' : lastIs d (x :: y :: q) = false := by simpa [lastIs] using h
    simp only [addrAt, addrAt_rho hρ (x :: y :: q) h']
theorem valAt_rho {d : Nat} (hρ : ∀ r, r ≠ d -> ρ' r = ρ r) (k : List Nat) (h : lastIs d k = false) : valAt w lab ρ' k = valAt w lab ρ k := by
  match k, h with
  | [], _ => rfl
  | [r], h =>
    have hr : r ≠ d := by rintro rfl; simp [lastIs] at h
    simp only [valAt, hρ r hr]
  | x :: y :: q, h => simp only [valAt, addrAt_rho hρ _ h]
theorem RLf.rho {d : Nat} (hρ : ∀ r, r ≠ d -> ρ' r = ρ r) {x : Lf} {u : Value} (h : RLf w B lab ρ x u) : RLf w B lab ρ' (x.drop d) u := by
  cases x with
  | v x => exact h
  | dead => trivial
  | own k =>
    have e : Lf.drop d (.own k) = (bif lastIs d k then .dead else .own k) := rfl
    rw [e]
    cases hl : lastIs d k with
    | true => trivial
    | false => exact ⟨h.1, (valAt_rho hρ k hl).trans h.2⟩
theorem RLs.rho {d : Nat} (hρ : ∀ r, r ≠ d -> ρ' r = ρ r) {cs : List Lf} {us : Array Value} (h : RLs w B lab ρ cs us) : RLs w B lab ρ' (cs.map (Lf.drop d)) us := by
  refine ⟨by rw [List.length_map]; exact h.1, fun j x hx => ?_⟩
  rw [List.getElem?_map] at hx
  cases hy : cs[j]? with
  | none => rw [hy] at hx; cases hx
  | some y =>
    rw [hy] at hx
    injection hx with hx
    subst hx
    obtain ⟨u, hu, r⟩ := h.2 j y hy
    exact ⟨u, hu, r.rho hρ⟩
theorem RP.rho {d : Nat} (hρ : ∀ r, r ≠ d -> ρ' r = ρ r) {p : Bool × List Lf} {u : Value} (h : RP w B lab ρ p u) : RP w B lab ρ' (p.1, p.2.map (Lf.drop d)) u := by
  obtain ⟨b, cs⟩ := p
  cases b with
  | true => obtain ⟨us, e, h⟩ := h; exact ⟨us, e, h.rho hρ⟩
  | false => exact RLs.rho hρ h
theorem RA.rho {d : Nat} (hρ : ∀ r, r ≠ d -> ρ' r = ρ r) {x : A} {u : Value} (h : RA w B lab ρ x u) : RA w B lab ρ' (x.drop d) u := by
  cases x with
  | undef => trivial
  | skip => exact h
  | lf x => exact RLf.rho hρ h
  | agg cs => exact RP.rho (p := (true, cs)) hρ h
  | tup xs =>
    obtain ⟨us, e, hs, h⟩ := h
    refine ⟨us, e, by rw [List.length_map]; exact hs, fun j p hp => ?_⟩
    rw [List.getElem?_map] at hp
    cases hy : xs[j]? with
    | none => rw [hy] at hp; cases hp
    | some y =>
      rw [hy] at hp
      injection hp with hp
      subst hp
      obtain ⟨v, hv, r⟩ := h j y hy
      exact ⟨v, hv, r.rho hρ⟩
  | ptr k =>
    have e : A.drop d (.ptr k) = (bif lastIs d k then .undef else .ptr k) := rfl
    rw [e]
    cases hl : lastIs d k with
    | true => trivial
    | false => obtain ⟨ad, e, h⟩ := h; exact ⟨ad, e, (addrAt_rho hρ k hl).trans h⟩
  | view k s i j =>
    have e : A.drop d (.view k s i j) = (bif lastIs d k then .undef else .view k s i j) := rfl
    rw [e]
    cases hl : lastIs d k with
    | true => trivial
    | false => obtain ⟨A, n, c, h, g⟩ := h; exact ⟨A, n, c, (valAt_rho hρ k hl).trans h, g⟩
  | pk r n =>
    have e : A.drop d (.pk r n) = (bif Nat.beq r d then .undef else .pk r n) := rfl
    rw [e]
    cases hl : Nat.beq r d with
    | true => trivial
    | false =>
      have hr : r ≠ d := by rintro rfl; simp at hl
      obtain ⟨b, e, h⟩ := h
      exact ⟨b, (hρ r hr).trans e, h⟩
  | bptr r j =>
    have e : A.drop d (.bptr r j) = (bif Nat.beq r d then .undef else .bptr r j) := rfl
    rw [e]
    cases hl : Nat.beq r d with
    | true => trivial
    | false =>
      have hr : r ≠ d := by rintro rfl; simp at hl
      obtain ⟨b, off, e, h⟩ := h
      exact ⟨b, off, (hρ r hr).trans e, h⟩
  | fptr cs => exact h
  | ffn f cs => exact h
  | fn f cap =>
    have e : A.drop d (.fn f cap) = (bif cap.any (fun p => Nat.beq p.1 d) then .undef else .fn f cap) := rfl
    rw [e]
    cases hl : cap.any (fun p => Nat.beq p.1 d) with
    | true => trivial
    | false =>
      obtain ⟨vs, e, hs, h⟩ := h
      refine ⟨vs, e, hs, fun j p hp => ?_⟩
      obtain ⟨b, off, e2, h2⟩ := h j p hp
      have hr : p.1 ≠ d := by
        rintro rfl
        have := List.any_eq_false.1 hl p (List.mem_of_getElem? hp)
        simp at this
      exact ⟨b, off, (hρ _ hr).trans e2, h2⟩
theorem RootOK.rho {d r : Nat} (hρ : ∀ r, r ≠ d -> ρ' r = ρ r) (hr : r ≠ d) {x : Root} (h : RootOK w B lab ρ r x) : RootOK w B lab ρ' r (x.drop d) := by
  cases h with
  | blk b off cells e cs us hρ1 hl hh hs hc =>
    refine .blk b off cells e _ us ((hρ r hr).trans hρ1) hl hh (by rw [List.length_map]; exact hs) (fun j x hx => ?_)
    rw [List.getElem?_map] at hx
    cases hy : cs[j]? with
    | none => rw [hy] at hx; cases hx
    | some y =>
      rw [hy] at hx
      injection hx with hx
      subst hx
      exact ⟨(hc j y hy).1, (hc j y hy).2.rho hρ⟩
  | sl v y hρ1 hr1 => exact .sl v y ((hρ r hr).trans hρ1) hr1
  | mp b c es l hρ1 hl hh he => exact .mp b c es l ((hρ r hr).trans hρ1) hl hh he
  | gh us xs hρ1 hx =>
    refine .gh us _ ((hρ r hr).trans hρ1) (fun j x hj => ?_)
    rw [List.getElem?_map] at hj
    cases hy : xs[j]? with
    | none => rw [hy] at hj; cases hj
    | some y =>
      rw [hy] at hj
      injection hj with hj
      subst hj
      exact (hx j y hy).rho hρ
def upd {α : Type} (f : Nat -> α) (d : Nat) (x : α) : Nat -> α := fun k => bif Nat.beq k d then x else f k
theorem upd_same {α : Type} (f : Nat -> α) (d : Nat) (x : α) : upd f d x d = x := by simp [upd]
theorem upd_ne {α : Type} (f : Nat -> α) (d : Nat) (x : α) {k : Nat} (h : k ≠ d) : upd f d x k = f k := by
  have : Nat.beq k d = false := by
    cases hb : Nat.beq k d with
    | false => rfl
    | true => exact absurd (Nat.eq_of_beq_eq_true hb) h
  simp only [upd, this, cond_false]
def S.set (σ : S) (d : Nat) (x : A) : S := { σ with t := upd σ.t d x }
def S.drop (σ : S) (d : Nat) : S := ⟨fun k => (σ.t k).drop d, fun r => bif Nat.beq r d then none else (σ.m r).map (Root.drop d)⟩
def S.root (σ : S) (d : Nat) (x : Root) : S := { σ with m := upd σ.m d (some x) }
theorem Rl.set {x : A} {v : Value} {d : Nat} (h : Rl w0 N lab ρ σ a w) (hx : RA w w0.heap.size lab ρ x v) (hd : d < N) : Rl w0 N lab ρ (σ.set d x) (a.put (some d) v) w := by
  refine ⟨h.below, h.lab_ge, h.root, fun k => ?_, ?_, h.defers, h.fix, h.lim⟩
  · show RA w w0.heap.size lab ρ (upd σ.t d x k) ((a.tmps.setIfInBounds d v).getD k undef)
    by_cases hk : k = d
    · subst hk
      rw [upd_same, Array.getD_eq_getD_getElem?, Array.getElem?_setIfInBounds_self]
      have : k < a.tmps.size := by rw [h.size]; exact hd
      simp only [this, if_true, Option.getD_some]
      exact hx
    · rw [upd_ne _ _ _ hk, Array.getD_eq_getD_getElem?, Array.getElem?_setIfInBounds_ne (Ne.symm hk), <- Array.getD_eq_getD_getElem?]
      exact h.tmp k
  · show (a.tmps.setIfInBounds d v).size = N
    rw [Array.size_setIfInBounds]
    exact h.size
theorem Rl.grow (h : Rl w0 N lab ρ σ a w) (hb : Below w.heap.size w w') (hl : ∀ b, b < w.heap.size -> lab' b = lab b) (hg : ∀ b k, w.heap.size <= b -> lab' b = some k -> b < w'.heap.size /\ k ≠ []) : Rl w0 N lab' ρ σ a w' := by
  have hk : ∀ b, b < w.heap.size -> w'.heap[b]? = w.heap[b]? /\ lab' b = lab b := fun b hb' => ⟨hb.block b hb', hl b hb'⟩
  refine ⟨h.below.trans (.of hb h.below.size), fun b k hbk => ?_, fun r x hx => (h.root r x hx).keep hb.size hk (fun b k hb => (h.lab_ge b k hb).2.1), fun k => (h.tmp k).keep hb.size hk (fun b k hb => (h.lab_ge b k hb).2.1), h.size, h.defers, h.fix, h.lim⟩
  rcases Nat.lt_or_ge b w.heap.size with hlt | hge
  · rw [hl b hlt] at hbk
    have := h.lab_ge b k hbk
    exact ⟨this.1, Nat.lt_of_lt_of_le this.2.1 hb.size, this.2.2⟩
  · have := hg b k hge hbk
    exact ⟨.inl (Nat.le_trans h.below.size hge), this.1, this.2⟩
theorem Rl.new {d : Nat} {x : Root} (h : Rl w0 N lab ρ σ a w) (l : Loc) (hx : RootOK w w0.heap.size lab (upd ρ d l) d x) (hF : w0.F d = none) : Rl w0 N lab (upd ρ d l) ((σ.drop d).root d x) a w := by
  have hρ : ∀ r, r ≠ d -> upd ρ d l r = ρ r := fun r hr => upd_ne _ _ _ hr
  refine ⟨h.below, h.lab_ge, fun r y hy => ?_, fun k => (h.tmp k).rho hρ, h.size, h.defers, fun r l' hr => (hρ r (by rintro rfl; rw [hF] at hr; cases hr)).trans (h.fix r l' hr), h.lim⟩
  by_cases hr : r = d
  · subst hr
    have e : (upd (σ.drop r).m r (some x)) r = some x := upd_same _ _ _
    have hy : (upd (σ.drop r).m r (some x)) r = some y := hy
    rw [e] at hy
    injection hy with hy
    subst hy
    exact hx
  · have hy : (upd (σ.drop d).m d (some x)) r = some y := hy
    rw [upd_ne _ _ _ hr] at hy
    have hb : Nat.beq r d = false := by
      cases hb : Nat.beq r d with
      | false => rfl
      | true => exact absurd (Nat.eq_of_beq_eq_true hb) hr
    simp only [S.drop, hb, cond_false] at hy
    cases hm : σ.m r with
    | none => rw [hm] at hy; cases hy
    | some z =>
      rw [hm] at hy
      injection hy with hy
      subst hy
      exact (h.root r z hm).rho hρ hr
end
end Go.Proofs.YtckjagaogcbedaaGreat
namespace Go.Proofs.YtckjagaogcbedaaGreat
open Go.RowKit
set_option linter.unusedVariables false
def splice {α : Type} (l : List α) (j : Nat) (xs : List α) : List α := l.take j ++ xs ++ l.drop (j + xs.length)
theorem splice_length {α : Type} (l : List α) (j : Nat) (xs : List α) (h : j + xs.length <= l.length) : (splice l j xs).length = l.length := by
  simp [splice]; omega
theorem splice_get {α : Type} (l : List α) (j : Nat) (xs : List α) (h : j + xs.length <= l.length) (n : Nat) :
    (splice l j xs)[n]? = if n < j then l[n]? else if n < j + xs.length then xs[n - j]? else l[n]? := by
  unfold splice
  have ht : (l.take j).length = j := by simp; omega
  split
  · rename_i hn
    rw [List.append_assoc, List.getElem?_append_left (by rw [ht]; exact hn), List.getElem?_take, if_pos hn]
  · split
    · rename_i h1 h2
      rw [List.append_assoc, List.getElem?_append_right (by rw [ht]; omega), ht, List.getElem?_append_left (by omega)]
    · rename_i h1 h2
      rw [List.getElem?_append_right (by simp; omega), List.getElem?_drop]
      congr 1
      simp
      omega
structure Wrote (w w' : World) (bt : Nat) : Prop where
  size : w'.heap.size = w.heap.size
  os : w'.os = w.os
  tape : w'.tape = w.tape
  output : w'.output = w.output
  block : ∀ k, k ≠ bt -> w'.heap[k]? = w.heap[k]?
theorem wrote_setCells (w : World) (b o : Nat) (l : List Value) : Wrote w (w.setCells b o l) b := by
  have g := grownBy_setCells b l o w
  have s := size_setCells b l o w
  refine ⟨s, g.os, g.tape, g.output, fun k hk => ?_⟩
  rcases Nat.lt_or_ge k w.heap.size with hlt | hge
  · exact g.block k hlt (by intro e; injection e with e; exact hk e)
  · rw [Array.getElem?_eq_none hge, Array.getElem?_eq_none (by rw [s]; exact hge)]
section
variable {w w' : World} {w0 : Wd} {B N : Nat} {lab : Lab} {ρ : Nat -> Loc} {m m' : Nat -> Option Root} {σ : S} {a : Act} {bt : Nat} {kt : List Nat}
def Still (w w' : World) (lab : Lab) (ρ : Nat -> Loc) : Prop := ∀ k ad v, addrAt w lab ρ k = some ad -> w.cell? ad = some v -> isSl v = true -> w'.cell? ad = some v
theorem addrAt_still (hC : Still w w' lab ρ) : ∀ (k : List Nat) (ad : Addr), addrAt w lab ρ k = some ad -> addrAt w' lab ρ k = some ad
  | [], _, h => h
  | [_], _, h => h
  | [_, _], _, h => h
  | [_, _, _], _, h => by simp only [addrAt] at h ⊢; exact h
  | [j, i, s, r], _, h => by simp only [addrAt] at h ⊢; exact h
  | j :: i :: s :: x :: y :: q, ad, h => by
    simp only [addrAt] at h ⊢
    cases ha : addrAt w lab ρ (x :: y :: q) with
    | none => rw [ha] at h; cases h
    | some ad' =>
      rw [addrAt_still hC _ _ ha]
      rw [ha] at h
      cases hc : w.cell? ad' with
      | none => simp [hc] at h
      | some v =>
        simp only [Option.bind_some, hc] at h
        have hv : isSl v = true := by
          split at h
          · rename_i e; injection e with e; subst e; rfl
          · cases h
        simp only [Option.bind_some, hC _ _ _ ha hc hv]
        exact h
theorem valAt_still (hC : Still w w' lab ρ) (k : List Nat) (u : Value) (hu : isSl u = true) (h : valAt w lab ρ k = some u) : valAt w' lab ρ k = some u := by
  match k, h with
  | [], h => simp [valAt, addrAt] at h
  | [r], h => exact h
  | x :: y :: q, h =>
    simp only [valAt] at h ⊢
    cases ha : addrAt w lab ρ (x :: y :: q) with
    | none => rw [ha] at h; cases h
    | some ad =>
      rw [addrAt_still hC _ _ ha]
      rw [ha] at h
      have h : w.cell? ad = some u := h
      exact hC _ _ _ ha h hu
theorem RLf.wrote {x : Lf} {u : Value} (h : RLf w B lab ρ x u) (hw : Wrote w w' bt) (hl : lab bt = some kt) (hC : Still w w' lab ρ) : RLf w' B lab ρ x u := by
  cases x with
  | v x => exact ⟨h.1, h.2.apart hl (.inr h.1) (Nat.le_of_eq hw.size.symm) hw.block⟩
  | own k => exact ⟨h.1, valAt_still hC k u h.1 h.2⟩
  | dead => trivial
theorem RLs.wrote {cs : List Lf} {us : Array Value} (h : RLs w B lab ρ cs us) (hw : Wrote w w' bt) (hl : lab bt = some kt) (hC : Still w w' lab ρ) : RLs w' B lab ρ cs us :=
  ⟨h.1, fun j x hx => let ⟨u, hu, r⟩ := h.2 j x hx; ⟨u, hu, r.wrote hw hl hC⟩⟩
theorem RP.wrote {p : Bool × List Lf} {u : Value} (h : RP w B lab ρ p u) (hw : Wrote w w' bt) (hl : lab bt = some kt) (hC : Still w w' lab ρ) : RP w' B lab ρ p u := by
  obtain ⟨b, cs⟩ := p
  cases b with
  | true => obtain ⟨us, e, h⟩ := h; exact ⟨us, e, h.wrote hw hl hC⟩
  | false => exact RLs.wrote h hw hl hC
theorem RF.wrote {cs : List V} {u : Value} (h : RF w B lab cs u) (hw : Wrote w w' bt) (hl : lab bt = some kt) : RF w' B lab cs u := by
  obtain ⟨b, off, e, hb, hl', h⟩ := h
  have hne : b ≠ bt := by rintro rfl; rw [hl] at hl'; cases hl'
  refine ⟨b, off, e, by rw [hw.size]; exact hb, hl', fun j x hx => ?_⟩
  obtain ⟨hf, v, hv, hr⟩ := h j x hx
  exact ⟨hf, v, (World.cell?_of_block (a := ⟨b, _, none⟩) (hw.block b hne)).trans hv, hr.apart hl (.inr hf) (Nat.le_of_eq hw.size.symm) hw.block⟩
theorem RA.wrote {x : A} {u : Value} (h : RA w B lab ρ x u) (hw : Wrote w w' bt) (hl : lab bt = some kt) (hC : Still w w' lab ρ) : RA w' B lab ρ x u := by
  cases x with
  | undef => trivial
  | skip => exact h
  | lf x => exact RLf.wrote h hw hl hC
  | agg cs => exact RP.wrote (p := (true, cs)) h hw hl hC
  | tup xs => obtain ⟨us, e, hs, h⟩ := h; exact ⟨us, e, hs, fun j p hp => let ⟨v, hv, r⟩ := h j p hp; ⟨v, hv, r.wrote hw hl hC⟩⟩
  | ptr k => obtain ⟨ad, e, h⟩ := h; exact ⟨ad, e, addrAt_still hC _ _ h⟩
  | view k s i j => obtain ⟨A, n, c, h, g⟩ := h; exact ⟨A, n, c, valAt_still hC k _ rfl h, g⟩
  | pk r n => exact h
  | bptr r j => exact h
  | fptr cs => exact RF.wrote h hw hl
  | ffn f cs => obtain ⟨pv, e, h⟩ := h; exact ⟨pv, e, h.wrote hw hl⟩
  | fn f cap => exact h
theorem RootOK.wrote {r : Nat} {x : Root} (h : RootOK w B lab ρ r x) (hw : Wrote w w' bt) (hl : lab bt = some kt) (hC : Still w w' lab ρ) (hr : ¬ [r] <:+ kt) : RootOK w' B lab ρ r x := by
  cases h with
  | blk b off cells e cs us hρ hl' hh hs hc =>
    have hne : b ≠ bt := by rintro rfl; rw [hl] at hl'; injection hl' with hl'; subst hl'; exact hr (List.suffix_refl _)
    exact .blk b off cells e cs us hρ hl' ((hw.block b hne).trans hh) hs (fun j x hx => ⟨(hc j x hx).1, (hc j x hx).2.wrote hw hl hC⟩)
  | sl v y hρ hr' => exact .sl v y hρ (hr'.apart hl (.inl hr) (Nat.le_of_eq hw.size.symm) hw.block)
  | mp b c es l hρ hl' hh he =>
    have hne : b ≠ bt := by rintro rfl; rw [hl] at hl'; injection hl' with hl'; subst hl'; exact hr (List.suffix_refl _)
    exact .mp b c es l hρ hl' ((hw.block b hne).trans hh) he
  | gh us xs hρ hx => exact .gh us xs hρ fun j x hj => (hx j x hj).wrote hw hl hC
theorem Rl.wrote (h : Rl w0 N lab ρ σ a w) (hw : Wrote w w' bt) (hl : lab bt = some kt) (hC : Still w w' lab ρ) (hm : ∀ r x, m' r = some x -> RootOK w' w0.heap.size lab ρ r x) : Rl w0 N lab ρ ⟨σ.t, m'⟩ a w' := by
  have hb := (h.lab_ge bt kt hl).1
  have hne : ∀ k, k < w0.heap.size -> w0.L k = none -> k ≠ bt := by
    rintro k hk hL rfl
    rcases hb with hb | hb
    · exact absurd hk (Nat.not_lt.2 hb)
    · exact hb hL
  refine ⟨⟨hw.os.trans h.below.os, hw.tape.trans h.below.tape, hw.output.trans h.below.output, by rw [hw.size]; exact h.below.size, fun k hk hL => (hw.block k (hne k hk hL)).trans (h.below.block k hk hL)⟩, fun b k hbk => ?_, hm, fun k => (h.tmp k).wrote hw hl hC, h.size, h.defers, h.fix, h.lim⟩
  rw [hw.size]
  exact h.lab_ge b k hbk
theorem not_suffix_one {r r' : Nat} (h : r' ≠ r) : ¬ [r'] <:+ [r] := by
  intro hs
  have := hs.eq_of_length rfl
  injection this with this
  exact h this
theorem Rl.storeB {r j : Nat} {cs xs : List Lf} {us : Array Value} (h : Rl w0 N lab ρ σ a w) (hm : σ.m r = some (.blk cs)) (hx : RLs w w0.heap.size lab ρ xs us) (hj : j + xs.length <= cs.length) :
    ∃ b off, ρ r = .blk b off /\ w.there b (off + j) us.size /\ Rl w0 N lab ρ ⟨σ.t, upd σ.m r (some (.blk (splice cs j xs)))⟩ a (w.setCells b (off + j) us.toList) := by
  have hr := h.root r _ hm
  generalize he : Root.blk cs = x at hr
  cases hr with
  | sl => cases he
  | mp => cases he
  | gh => cases he
  | blk b off cells e cs' u hρ hl hh hs hc =>
    injection he with he
    subst he
    have hlen : us.size = xs.length := hx.1
    have hfit : off + j + us.toList.length <= cells.size := by rw [Array.length_toList, hlen]; omega
    have hW := wrote_setCells w b (off + j) us.toList
    obtain ⟨c2, hb2, hc2⟩ := heap_setCells b e us.toList (off + j) w cells hh hfit
    have hC : Still w (w.setCells b (off + j) us.toList) lab ρ := by
      intro k ad v ha hv hsl
      obtain ⟨j', i', s', q, rfl, hq, _, _, hh'⟩ := addrAt_lab k ad ha
      have hne : ad.block ≠ b := by
        intro e
        rw [e, hl] at hq
        injection hq with hq
        obtain ⟨v', hv'⟩ := hh' r hq.symm
        rw [hρ] at hv'
        cases hv'
      exact (World.cell?_of_block (hW.block _ hne)).trans hv
    refine ⟨b, off, hρ, fun n hn => ⟨?_, frozen_of_row w b _ cells e hh⟩, h.wrote hW hl hC fun r' y hy => ?_⟩
    · rw [cell_of_row w b _ cells e _ hh]
      simp
      omega
    · by_cases hrr : r' = r
      · subst hrr
        rw [upd_same] at hy
        injection hy with hy
        subst hy
        refine .blk b off c2 e _ (fun n => if n < j then u n else if n < j + xs.length then us.getD (n - j) undef else u n) hρ hl hb2 ?_ fun n x hnx => ?_
        · rw [splice_length _ _ _ hj, <- Array.length_toList, hc2]
          have := splice_length cells.toList (off + j) us.toList (by simpa using hfit)
          simp only [splice] at this
          rw [this]
          simpa using hs
        · have e2 : c2[off + n]? = (splice cells.toList (off + j) us.toList)[off + n]? := by
            rw [show c2[off + n]? = c2.toList[off + n]? by simp, hc2]
            rfl
          rw [e2, splice_get _ _ _ (by simpa using hfit)]
          rw [splice_get _ _ _ hj] at hnx
          by_cases h1 : n < j
          · rw [if_pos (by omega)]
            simp only [h1, if_true] at hnx ⊢
            refine ⟨?_, (hc n x hnx).2.wrote hW hl hC⟩
            rw [Array.getElem?_toList]
            exact (hc n x hnx).1
          · by_cases h2 : n < j + xs.length
            · rw [if_neg (by omega), if_pos (by rw [Array.length_toList, hlen]; omega)]
              simp only [h1, h2, if_true, if_false] at hnx ⊢
              obtain ⟨v, hv, hr⟩ := hx.2 (n - j) x hnx
              have hg : us.getD (n - j) undef = v := by rw [Array.getD_eq_getD_getElem?, hv]; rfl
              rw [hg]
              refine ⟨?_, hr.wrote hW hl hC⟩
              rw [show off + n - (off + j) = n - j by omega, Array.getElem?_toList]
              exact hv
            · rw [if_neg (by omega), if_neg (by rw [Array.length_toList, hlen]; omega)]
              simp only [h1, h2, if_false] at hnx ⊢
              refine ⟨?_, (hc n x hnx).2.wrote hW hl hC⟩
              rw [Array.getElem?_toList]
              exact (hc n x hnx).1
      · rw [upd_ne _ _ _ hrr] at hy
        exact (h.root r' y hy).wrote hW hl hC (not_suffix_one hrr)
inductive Put (m : Nat -> Option Root) : List Nat -> V -> (Nat -> Option Root) -> Prop
  | root (r : Nat) (y0 y : V) (h : m r = some (.sl y0)) : Put m [r] y (upd m r (some (.sl y)))
  | elem (j i : Nat) (q : List Nat) (t : TC) (o : Nat) (qn : Bool) (l : List (T t)) (y : V) (e : T t) (m' : Nat -> Option Root) (h : Get m q (.sl t (o + 2) qn l)) (hi : i < l.length) (hj : j < csz t)
      (hd : dec t o (splice (enc t o l[i]) j [y]) = some e) (hp : Put m q (.sl t (o + 2) qn (l.set i e)) m') : Put m (j :: i :: csz t :: q) y m'
theorem suffix_len_eq {α : Type} {a b c : List α} (ha : a <:+ c) (hb : b <:+ c) (h : a.length = b.length) : a = b := by
  obtain ⟨x, hx⟩ := ha
  obtain ⟨y, hy⟩ := hb
  rw [<- hx] at hy
  exact ((List.append_inj' hy h.symm).2).symm
theorem RV.setElem {q : List Nat} {t : TC} {o : Nat} {qn : Bool} {l : List (T t)} {i j : Nat} {xs : List V} {e : T t} {b cap : Nat} {cs cs' : Array Value} {u us : Nat -> Nat -> Value}
    (hl : lab b = some q) (hh : w'.heap[b]? = some (.cells cs' (tid t) (0, 0))) (hs : cs'.size = cap * csz t) (hn : l.length <= cap) (hm : cap <= maxLen /\ (qn = true -> cap = l.length)) (hi : i < l.length) (hj : j + xs.length <= csz t)
    (hd : dec t o (splice (enc t o l[i]) j xs) = some e)
    (hc : ∀ i' (h : i' < l.length) (j' : Nat) x, (enc t o l[i'])[j']? = some x -> ¬ (i' = i /\ j <= j' /\ j' < j + xs.length) -> cs'[i' * csz t + j']? = some (u i' j') /\ RV w' B lab (j' :: i' :: csz t :: q) x (u i' j'))
    (hx : ∀ (n : Nat) x, xs[n]? = some x -> cs'[i * csz t + (j + n)]? = some (us i (j + n)) /\ RV w' B lab ((j + n) :: i :: csz t :: q) x (us i (j + n))) :
    RV w' B lab q (.sl t (o + 2) qn (l.set i e)) (.slice (some ⟨b, 0, none⟩) l.length cap) := by
  have hlen : (l.set i e).length = l.length := List.length_set
  have key : ∀ i' (h : i' < (l.set i e).length) (j' : Nat) x, (enc t o (l.set i e)[i'])[j']? = some x ->
      ∃ v, cs'[i' * csz t + j']? = some v /\ RV w' B lab (j' :: i' :: csz t :: q) x v := by
    intro i' h j' x hx'
    rw [List.getElem_set] at hx'
    by_cases hii : i = i'
    · subst hii
      rw [if_pos rfl] at hx'
      have hk := dec_ok t o _ e hd
      have hj' : j' < (enc t o e).length := (List.getElem?_eq_some_iff.1 hx').1
      rw [<- hk.1] at hj'
      have hy := List.getElem?_eq_getElem hj'
      generalize (splice (enc t o l[i]) j xs)[j'] = y at hy
      have hw := hk.2 j' y x hy hx'
      rw [splice_get _ _ _ (by rw [enc_length]; exact hj)] at hy
      by_cases h1 : j' < j
      · rw [if_pos h1] at hy
        obtain ⟨h3, h4⟩ := hc i hi j' y hy (by omega)
        exact ⟨_, h3, h4.wk hw⟩
      · by_cases h2 : j' < j + xs.length
        · rw [if_neg h1, if_pos h2] at hy
          obtain ⟨h3, h4⟩ := hx (j' - j) y hy
          rw [show j + (j' - j) = j' by omega] at h3 h4
          exact ⟨_, h3, h4.wk hw⟩
        · rw [if_neg h1, if_neg h2] at hy
          obtain ⟨h3, h4⟩ := hc i hi j' y hy (by omega)
          exact ⟨_, h3, h4.wk hw⟩
    · rw [if_neg hii] at hx'
      obtain ⟨h3, h4⟩ := hc i' (by rw [<- hlen]; exact h) j' x hx' (by omega)
      exact ⟨_, h3, h4⟩
  rw [<- hlen]
  refine .own q t o qn (l.set i e) b cap cs' (fun i' j' => (cs'[i' * csz t + j']?).getD undef) hl hh hs (by rw [hlen]; exact hn) ⟨hm.1, fun h => by rw [hlen]; exact hm.2 h⟩ (fun i' h j' x hx' => ?_) (fun i' h j' x hx' => ?_)
  · obtain ⟨v, hv, _⟩ := key i' h j' x hx'
    rw [hv]
    rfl
  · obtain ⟨v, hv, hr⟩ := key i' h j' x hx'
    rw [hv]
    exact hr
theorem last_suffix {r : Nat} {q : List Nat} (h : [r] <:+ q) {r' : Nat} (h' : [r'] <:+ q) : r' = r := by
  have := suffix_len_eq h' h rfl
  injection this
theorem Put.ok {q : List Nat} {y : V} (h : Put m q y m') (hm : ∀ r x, m r = some x -> RootOK w B lab ρ r x) (hw : Wrote w w' bt) (hl : lab bt = some kt) (hq : q <:+ kt) (hC : Still w w' lab ρ) {hv : Value} (hval : valAt w lab ρ q = some hv) (hy : RV w' B lab q y hv) :
    ∀ r x, m' r = some x -> RootOK w' B lab ρ r x := by
  induction h generalizing hv with
  | root r y0 y h =>
    intro r' x hx
    by_cases hr : r' = r
    · subst hr
      rw [upd_same] at hx
      injection hx with hx
      subst hx
      simp only [valAt] at hval
      cases hρ : ρ r' with
      | blk b off => rw [hρ] at hval; cases hval
      | vals us => rw [hρ] at hval; cases hval
      | hdr v =>
        rw [hρ] at hval
        injection hval with hval
        subst hval
        exact .sl v y hρ hy
    · rw [upd_ne _ _ _ hr] at hx
      exact (hm r' x hx).wrote hw hl hC (fun hs => hr (last_suffix hq hs))
  | elem j i q t o qn l y e m' h hi hj hd hp ih =>
    obtain ⟨hv', hval', hr'⟩ := h.ok hm
    have hqk : q <:+ kt := List.IsSuffix.trans ⟨[j, i, csz t], rfl⟩ hq
    cases hr' with
    | slNil => simp at hi
    | slEmp => simp at hi
    | slNon => simp at hi
    | fro _ _ _ _ _ _ _ _ _ ho => omega
    | own _ _ _ _ _ b cap cs us hlb hh hs hn hmx hc hr =>
      have hne : b ≠ bt := by
        rintro rfl
        rw [hl] at hlb
        injection hlb with hlb
        subst hlb
        have := hq.length_le
        simp at this
        omega
      have hz := Nat.le_of_eq hw.size.symm
      refine ih hqk hval' (RV.setElem (us := fun _ _ => hv) (u := us) (cs := cs) (xs := [y]) hlb ((hw.block b hne).trans hh) hs hn hmx hi (show j + 1 <= csz t from hj) hd (fun i' h' j' x hx hni => ⟨hc i' h' j' x hx, (hr i' h' j' x hx).apart hl (.inl fun hs' => hni ?_) hz hw.block⟩) (fun n x hx => ?_))
      · have := suffix_len_eq hs' hq rfl
        injection this with e1 e2
        injection e2 with e2 _
        subst e1 e2
        exact ⟨rfl, Nat.le_refl _, by simp⟩
      · cases n with
        | succ n => simp at hx
        | zero =>
          simp at hx
          subst hx
          refine ⟨?_, hy⟩
          rw [valAt_long, addrAt_step j i (csz t) hval' hlb] at hval
          have hval : w.cell? ⟨b, i * csz t + j, none⟩ = some hv := hval
          rw [cell_of_row w b _ cs _ _ hh] at hval
          exact hval
theorem RV.plain_not {q : List Nat} {x : V} {v : Value} (h : RV w B lab q x v) (hx : x.plain = true) : isSl v = false := by
  cases h <;> first | rfl | cases hx
theorem RV.plain_any {q q' : List Nat} {x : V} {v : Value} {B' : Nat} {lab' : Lab} (h : RV w B lab q x v) (hx : x.plain = true) : RV w' B' lab' q' x v := by
  cases h <;> first | exact .int _ _ _ | exact .bool _ _ | exact .str _ _ | cases hx
theorem Rl.storeE {j i : Nat} {q : List Nat} {t : TC} {o : Nat} {qn : Bool} {l : List (T t)} {xs : List V} {us : Array Value} {e : T t} (h : Rl w0 N lab ρ σ a w) (hg : Get σ.m q (.sl t (o + 2) qn l)) (hi : i < l.length) (hj : j + xs.length <= csz t)
    (hd : dec t o (splice (enc t o l[i]) j xs) = some e) (hold : ∀ (n : Nat) x, n < xs.length -> (enc t o l[i])[j + n]? = some x -> x.plain = true) (hxp : ∀ x ∈ xs, x.plain = true) (hus : us.size = xs.length) (hx : ∀ (n : Nat) x, xs[n]? = some x -> ∃ u, us[n]? = some u /\ RV w w0.heap.size lab [] x u)
    (hp : Put σ.m q (.sl t (o + 2) qn (l.set i e)) m') :
    ∃ b, addrAt w lab ρ (j :: i :: csz t :: q) = some ⟨b, i * csz t + j, none⟩ /\ w.there b (i * csz t + j) us.size /\ Rl w0 N lab ρ ⟨σ.t, m'⟩ a (w.setCells b (i * csz t + j) us.toList) := by
  obtain ⟨hv', hval', hr'⟩ := hg.ok h.root
  cases hr' with
  | slNil => simp at hi
  | slEmp => simp at hi
  | slNon => simp at hi
  | fro _ _ _ _ _ _ _ _ _ ho => omega
  | own _ _ _ _ _ b cap cs u hlb hh hs hn hmx hc hr =>
    have hin : i * csz t + csz t <= cap * csz t := by
      have : (i + 1) * csz t <= cap * csz t := Nat.mul_le_mul_right _ (by omega)
      rw [Nat.succ_mul] at this
      exact this
    have hfit : i * csz t + j + us.toList.length <= cs.size := by rw [Array.length_toList, hus, hs]; omega
    have hW := wrote_setCells w b (i * csz t + j) us.toList
    obtain ⟨c2, hb2, hc2⟩ := heap_setCells b (tid t) us.toList (i * csz t + j) w cs hh hfit
    have c2get : ∀ n, c2[n]? = if n < i * csz t + j then cs[n]? else if n < i * csz t + j + xs.length then us[n - (i * csz t + j)]? else cs[n]? := by
      intro n
      have e2 : c2[n]? = (splice cs.toList (i * csz t + j) us.toList)[n]? := by
        rw [show c2[n]? = c2.toList[n]? by simp, hc2]
        rfl
      rw [e2, splice_get _ _ _ (by simpa using hfit), Array.length_toList, hus]
      simp
    have c2size : c2.size = cs.size := by
      rw [<- Array.length_toList, hc2]
      have := splice_length cs.toList (i * csz t + j) us.toList (by simpa using hfit)
      simp only [splice] at this
      rw [this]
      simp
    have hC : Still w (w.setCells b (i * csz t + j) us.toList) lab ρ := by
      intro k ad v ha hv hsl
      by_cases hne : ad.block = b
      · obtain ⟨j', i', s', q', rfl, hq', hoff, hsp, _⟩ := addrAt_lab k ad ha
        have had : ad = ⟨b, ad.off, none⟩ := by cases ad; simp_all
        rw [had, cell_of_row w b _ cs _ _ hh] at hv
        rw [had, cell_of_row _ b _ c2 _ _ hb2, c2get]
        by_cases h1 : ad.off < i * csz t + j
        · rw [if_pos h1]; exact hv
        · by_cases h2 : ad.off < i * csz t + j + xs.length
          · exfalso
            have hjs : ad.off - (i * csz t + j) < xs.length := by omega
            have hjl : j + (ad.off - (i * csz t + j)) < (enc t o l[i]).length := by rw [enc_length]; omega
            have hy := List.getElem?_eq_getElem hjl
            generalize (enc t o l[i])[j + (ad.off - (i * csz t + j))] = y at hy
            have hpl := hold _ y hjs hy
            have h3 := hc i hi _ y hy
            rw [show i * csz t + (j + (ad.off - (i * csz t + j))) = ad.off by omega] at h3
            rw [hv] at h3
            injection h3 with h3
            have := (hr i hi _ y hy).plain_not hpl
            rw [<- h3, hsl] at this
            cases this
          · rw [if_neg h1, if_neg h2]; exact hv
      · exact (World.cell?_of_block (hW.block _ hne)).trans hv
    refine ⟨b, addrAt_step j i (csz t) hval' hlb, fun n hn' => ⟨?_, frozen_of_row w b _ cs _ hh⟩, h.wrote hW hlb hC (hp.ok h.root hW hlb (List.suffix_refl _) hC hval' ?_)⟩
    · rw [cell_of_row w b _ cs _ _ hh]
      simp
      omega
    · refine RV.setElem (u := u) (us := fun _ n => us.getD (n - j) undef) (cs := cs) (xs := xs) hlb hb2 (c2size.trans hs) hn hmx hi hj hd (fun i' h' j' x hx' hni => ?_) (fun n x hx' => ?_)
      · have hj' : j' < csz t := by have := (List.getElem?_eq_some_iff.1 hx').1; rwa [enc_length] at this
        refine ⟨?_, (hr i' h' j' x hx').apart hlb (.inl fun hs' => ?_) (Nat.le_of_eq hW.size.symm) hW.block⟩
        · rw [c2get]
          have hns : ¬ (¬ i' * csz t + j' < i * csz t + j /\ i' * csz t + j' < i * csz t + j + xs.length) := by
            rintro ⟨h1, h2⟩
            rcases Nat.lt_trichotomy i' i with hlt | heq | hgt
            · have : (i' + 1) * csz t <= i * csz t := Nat.mul_le_mul_right _ hlt
              rw [Nat.succ_mul] at this
              omega
            · subst heq
              exact hni ⟨rfl, by omega, by omega⟩
            · have : (i + 1) * csz t <= i' * csz t := Nat.mul_le_mul_right _ hgt
              rw [Nat.succ_mul] at this
              omega
          split
          · exact hc i' h' j' x hx'
          · rw [if_neg (by omega)]
            exact hc i' h' j' x hx'
        · have := hs'.length_le
          simp at this
          omega
      · obtain ⟨v, hv, hr2⟩ := hx n x hx'
        have hn' : n < xs.length := (List.getElem?_eq_some_iff.1 hx').1
        have hg' : us.getD (j + n - j) undef = v := by rw [show j + n - j = n by omega, Array.getD_eq_getD_getElem?, hv]; rfl
        show c2[_]? = some (us.getD (j + n - j) undef) /\ RV _ _ _ _ _ (us.getD (j + n - j) undef)
        rw [hg', c2get, if_neg (by omega), if_pos (by omega)]
        refine ⟨?_, hr2.plain_any (hxp x (List.mem_of_getElem? hx'))⟩
        rw [show i * csz t + (j + n) - (i * csz t + j) = n by omega]
        exact hv
end
end Go.Proofs.YtckjagaogcbedaaGreat
namespace Go.Proofs.YtckjagaogcbedaaGreat
open Go.RowKit
set_option linter.unusedVariables false
def constA : Value -> A
  | .bool b => .lf (.v (.bool b))
  | .int k n => .lf (.v (.int k n))
  | .string s => .lf (.v (.str s))
  | .slice none 0 0 => .lf (.v .nil)
  | _ => .undef
def opd (σ : S) : Operand -> A
  | .tmp t => σ.t t
  | .const v => constA v
  | .func f => .fn f []
  | .global _ => .undef
def putK {X : Type} (N : Nat) (σ : S) (dst : Option Tmp) (x : A) (k : S -> Option X) : Option X :=
  match dst with
  | none => k σ
  | some d => bif Nat.blt d N then k (σ.set d x) else none
def OpS (P : Program) (w0 : Wd) (N : Nat) (o : Oper) (σ σ' : S) : Prop :=
  ∀ a w K Q, R w0 N σ a w -> (∀ a' w', R w0 N σ' a' w' -> K a' w') -> o.wp P a w K Q
section
variable {P : Program} {w : World} {w0 : Wd} {B N : Nat} {lab : Lab} {ρ : Nat -> Loc} {σ : S} {a : Act} {X : Type} {r : X} {k : S -> Option X} {o : Oper}
theorem constA_ok (v : Value) : RA w B lab ρ (constA v) v := by
  unfold constA
  split
  · exact ⟨rfl, .bool _ _⟩
  · exact ⟨rfl, .int _ _ _⟩
  · exact ⟨rfl, .str _ _⟩
  · exact ⟨rfl, .nil _⟩
  · trivial
theorem Rl.opd (h : Rl w0 N lab ρ σ a w) (x : Operand) : RA w w0.heap.size lab ρ (opd σ x) (a.eval x) := by
  cases x with
  | tmp t => exact h.tmp t
  | const v => exact constA_ok v
  | func f => exact ⟨#[], rfl, rfl, by simp⟩
  | global g => trivial
theorem OpS.val {x : A} (hk : putK N σ o.dst x k = some r) (h : ∀ lab ρ a w, Rl w0 N lab ρ σ a w -> ∃ v, (execOp a.eval o).run P w = .ok (.value v) w /\ RA w w0.heap.size lab ρ x v) : ∃ σ', k σ' = some r /\ OpS P w0 N o σ σ' := by
  unfold putK at hk
  split at hk
  · rename_i hd
    refine ⟨σ, hk, fun a w K Q hR hK => ?_⟩
    obtain ⟨lab, ρ, hl⟩ := hR
    obtain ⟨v, hv, hx⟩ := h lab ρ a w hl
    unfold Oper.wp
    rw [hv, Oper.upon_value, hd]
    exact hK _ _ ⟨lab, ρ, hl⟩
  · rename_i d hd
    cases hN : Nat.blt d N with
    | false => rw [hN] at hk; cases hk
    | true =>
      rw [hN] at hk
      refine ⟨_, hk, fun a w K Q hR hK => ?_⟩
      obtain ⟨lab, ρ, hl⟩ := hR
      obtain ⟨v, hv, hx⟩ := h lab ρ a w hl
      unfold Oper.wp
      rw [hv, Oper.upon_value, hd]
      exact hK _ _ ⟨lab, ρ, hl.set hx (by have := Nat.le_of_ble_eq_true hN; omega)⟩
/-! Contents of leaves. -/
def getK {X : Type} (m : Nat -> Option Root) : List Nat -> (V -> Option X) -> Option X
  | [r], k => match m r with
    | some (.sl y) => k y
    | _ => none
  | j :: i :: s :: q, k => getK m q fun y => match y with
    | .sl t (o + 2) _ l => if s = csz t then (if h : i < l.length then (match (enc t o l[i])[j]? with | some z => k z | none => none) else none) else none
    | _ => none
  | _, _ => none
theorem getK_ok {m : Nat -> Option Root} : ∀ (q : List Nat) (k : V -> Option X), getK m q k = some r -> ∃ y, Get m q y /\ k y = some r
  | [], _, h => by simp [getK] at h
  | [x], k, h => by
    simp only [getK] at h
    split at h
    · rename_i y hy; exact ⟨y, .root x y hy, h⟩
    · cases h
  | [_, _], _, h => by simp [getK] at h
  | j :: i :: s :: q, k, h => by
    simp only [getK] at h
    obtain ⟨y, hy, h2⟩ := getK_ok q _ h
    clear h
    split at h2
    · split at h2
      · rename_i hs
        subst hs
        split at h2
        · rename_i hi
          split at h2
          · rename_i z hz; exact ⟨z, .elem j i q _ _ _ _ z hy hi hz, h2⟩
          · cases h2
        · cases h2
      · cases h2
    · cases h2
def lfK {X : Type} (σ : S) (x : Lf) (k : V -> Option X) : Option X :=
  match x with
  | .v y => k y
  | .own q => getK σ.m q k
  | .dead => none
theorem lfK_ok {x : Lf} {k : V -> Option X} (h : lfK σ x k = some r) {u : Value} (hR : Rl w0 N lab ρ σ a w) (hu : RLf w w0.heap.size lab ρ x u) : ∃ y q, k y = some r /\ RV w w0.heap.size lab q y u := by
  cases x with
  | v y => exact ⟨y, [], h, hu.2⟩
  | dead => cases h
  | own q =>
    obtain ⟨y, hy, h'⟩ := getK_ok q k h
    obtain ⟨v, hv, hr⟩ := hy.ok hR.root
    have : v = u := by
      have h2 := hu.2
      rw [hv] at h2
      injection h2
    subst this
    exact ⟨y, q, h', hr⟩
theorem RV.part {q : List Nat} {tc : TC} {g : Nat} {qn : Bool} {xs : List (T tc)} {A : Option Addr} {n c a h : Nat} (hr : RV w B lab q (.sl tc g qn xs) (.slice A n c)) (hg : g < 2) (h1 : a <= h) (h2 : h <= xs.length) : RV w B lab q (.sl tc g false ((xs.take h).drop a)) (sliced A a h c (csz tc)) /\ n = xs.length /\ xs.length <= c := by
  have hlen : ((xs.take h).drop a).length = h - a := by simp; omega
  cases hr with
  | slNil =>
    have : a = 0 := by simp at h2; omega
    have : h = 0 := by simpa using h2
    subst_vars
    exact ⟨.slNil _ _ _, rfl, Nat.le_refl _⟩
  | slEmp =>
    have : h = 0 := by simpa using h2
    subst this
    have : a = 0 := by omega
    subst this
    exact ⟨by unfold sliced; split <;> exact .slEmp _ _ _ _ _ hg, rfl, Nat.zero_le _⟩
  | slNon =>
    have : h = 0 := by simpa using h2
    subst this
    have : a = 0 := by omega
    subst this
    exact ⟨by unfold sliced; split <;> exact .slEmp _ _ _ _ _ hg, rfl, Nat.zero_le _⟩
  | own => omega
  | fro _ _ _ _ _ b off cap u ho hl hb hB hcap hc hr =>
    refine ⟨?_, rfl, hcap⟩
    by_cases he : a = h
    · subst he
      have e0 : (xs.take a).drop a = [] := List.eq_nil_of_length_eq_zero (by rw [hlen]; omega)
      rw [e0]
      unfold sliced
      rw [Nat.sub_self]
      split <;> exact .slEmp _ _ _ _ _ hg
    · unfold sliced
      rw [if_neg (by omega), <- hlen]
      have hadd : (some (⟨b, off, none⟩ : Addr)).map (·.add (a * csz tc)) = some ⟨b, off + a * csz tc, none⟩ := by
        simp only [Option.map_some]
        unfold Addr.add
        split <;> simp_all
      rw [hadd]
      have hget : ∀ i (hi : i < ((xs.take h).drop a).length), ((xs.take h).drop a)[i] = xs[a + i]'(by omega) := by
        intro i hi
        rw [List.getElem_drop, List.getElem_take]
      refine .fro _ _ _ _ _ b (off + a * csz tc) (c - a) (fun i j => u (a + i) j) ho hl hb hB (by omega) (fun i hi j x hx => ?_) (fun i hi j x hx => ?_)
      · rw [hget i hi] at hx
        have := hc (a + i) (by omega) j x hx
        rw [<- this]
        congr 2
        rw [Nat.add_mul]
        omega
      · rw [hget i hi] at hx
        exact hr (a + i) (by omega) j x hx
def subV (s i j : Nat) : V -> Option V
  | .sl t _ _ l => bif Nat.beq s (csz t) then some (.sl t 0 false ((l.take j).drop i)) else none
  | _ => none
def viewV {X : Type} (σ : S) (q : List Nat) (s i j : Nat) (k : V -> Option X) : Option X :=
  getK σ.m q fun y => match subV s i j y with
    | some z => k z
    | none => none
def yvK {X : Type} (σ : S) (y : A) (k : V -> Option X) : Option X :=
  match y with
  | .lf l => lfK σ l k
  | .view q s i j => viewV σ q s i j k
  | _ => none
theorem viewV_ok {q : List Nat} {s i j : Nat} {k : V -> Option X} (h : viewV σ q s i j k = some r) : ∃ z, k z = some r /\ z.fro = true /\ ∀ w0 N lab ρ a w, Rl w0 N lab ρ σ a w -> ∀ u, RA w w0.heap.size lab ρ (.view q s i j) u -> ∀ B', RV w B' (fun _ => none) [] z u := by
  obtain ⟨y, hy, h2⟩ := getK_ok q _ h
  clear h
  split at h2
  · rename_i z hz
    unfold subV at hz
    split at hz
    · rename_i t g qn l
      cases hs : Nat.beq s (csz t) with
      | false => rw [hs] at hz; cases hz
      | true =>
        rw [hs, cond_true] at hz
        obtain rfl := Nat.eq_of_beq_eq_true hs
        injection hz with hz
        subst hz
        refine ⟨_, h2, rfl, fun w0 N lab ρ a w hR u hu B' => ?_⟩
        obtain ⟨A, n, c, hv, h1, h3, rfl⟩ := hu
        obtain ⟨v, hv', hr⟩ := hy.ok hR.root
        rw [hv] at hv'
        injection hv' with hv'
        subst hv'
        have hf : RV w B' (fun _ => none) [] (.sl t 0 qn l) (.slice A n c) := hr.frz
        have hn : n = l.length := by cases hf <;> rfl
        exact (hf.part (by omega) h1 (by omega)).1
    · cases hz
  · cases h2
def vK {X : Type} (x : A) (k : V -> Option X) : Option X :=
  match x with
  | .lf (.v y) => k y
  | _ => none
theorem vK_ok {x : A} {k : V -> Option X} (h : vK x k = some r) : ∃ y, x = .lf (.v y) /\ k y = some r := by
  unfold vK at h
  split at h
  · exact ⟨_, rfl, h⟩
  · cases h
theorem RV.int_inv {q : List Nat} {k : IntKind} {n : Int} {u : Value} (h : RV w B lab q (.int k n) u) : u = .int k n := by cases h; rfl
theorem RV.bool_inv {q : List Nat} {n : Bool} {u : Value} (h : RV w B lab q (.bool n) u) : u = .bool n := by cases h; rfl
theorem RV.str_inv {q : List Nat} {n : ByteArray} {u : Value} (h : RV w B lab q (.str n) u) : u = .string n := by cases h; rfl
/-! Arithmetic and comparison. -/
def okLen (n : Nat) : Bool := decide (n < 1073741824)
def binK {X : Type} (P : Program) (ty : TypeId) (op : BinOp) (x y : V) (k : V -> Option X) : Option X :=
  match x, y with
  | .int kx a, .int ky b => match op with
    | .shl => if b < 0 then none else k (.int kx (kx.wrap (a * 2 ^ (min b.toNat kx.bits))))
    | .shr => if b < 0 then none else k (.int kx (a.fdiv (2 ^ (min b.toNat kx.bits))))
    | op => if kx = ky then (match op with
      | .add => k (.int kx (kx.wrap (a + b)))
      | .sub => k (.int kx (kx.wrap (a - b)))
      | .mul => k (.int kx (kx.wrap (a * b)))
      | .quo => if b = 0 then none else k (.int kx (kx.wrap (a.tdiv b)))
      | .rem => if b = 0 then none else k (.int kx (a.tmod b))
      | .and => k (.int kx (bits .and kx a b))
      | .or => k (.int kx (bits .or kx a b))
      | .xor => k (.int kx (bits .xor kx a b))
      | .andNot => k (.int kx (bits .andNot kx a b))
      | .eql => k (.bool (a == b))
      | .neq => k (.bool (a != b))
      | .lss => k (.bool (decide (a < b)))
      | .leq => k (.bool (decide (a <= b)))
      | .gtr => k (.bool (decide (a > b)))
      | .geq => k (.bool (decide (a >= b)))
      | _ => none) else none
  | .bool a, .bool b => match P.underlying ty with
    | some .bool => (match op with
      | .eql => k (.bool (a == b))
      | .neq => k (.bool (!(a == b)))
      | _ => none)
    | _ => none
  | .str a, .str b => match op with
    | .add => bif okLen (a.size + b.size) then k (.str (a ++ b)) else none
    | .eql => k (.bool (a.toList == b.toList))
    | .neq => k (.bool (!(a.toList == b.toList)))
    | _ => none
  | _, _ => none
theorem binK_ok {ty : TypeId} {op : BinOp} {x y : V} {k : V -> Option X} (h : binK P ty op x y k = some r) : ∃ z, k z = some r /\ z.plain = true /\ ∀ (w : World) (B : Nat) (lab : Lab) (xo yo : Operand) (q q' : List Nat) (u v : Value), RV w B lab q x u -> RV w B lab q' y v ->
    ∃ t, (do eqGuard op ty xo yo u v; binOp op ty u v : Sem Value).run P w = .ok t w /\ RV w B lab [] z t := by
  unfold binK at h
  split at h
  · rename_i kx a ky b
    split at h
    · split at h
      · cases h
      · rename_i hb
        refine ⟨_, h, rfl, fun w B lab xo yo q q' u v hu hv => ?_⟩
        obtain rfl := hu.int_inv
        obtain rfl := hv.int_inv
        exact ⟨_, by simp [eqGuard, binOp, Op.shift, hb], .int _ _ _⟩
    · split at h
      · cases h
      · rename_i hb
        refine ⟨_, h, rfl, fun w B lab xo yo q q' u v hu hv => ?_⟩
        obtain rfl := hu.int_inv
        obtain rfl := hv.int_inv
        exact ⟨_, by simp [eqGuard, binOp, Op.shift, hb], .int _ _ _⟩
    · rename_i h1 h2
      split at h
      · rename_i hk
        subst hk
        cases op
        case shl => exact absurd rfl h1
        case shr => exact absurd rfl h2
        case quo =>
          by_cases hb : b = 0
          · simp only [hb, if_true] at h; cases h
          · simp only [hb, if_false] at h
            refine ⟨_, h, rfl, fun w B lab xo yo q q' u v hu hv => ?_⟩
            obtain rfl := hu.int_inv
            obtain rfl := hv.int_inv
            exact ⟨_, by simp [eqGuard, binOp, Op.intDiv, hb], .int _ _ _⟩
        case rem =>
          by_cases hb : b = 0
          · simp only [hb, if_true] at h; cases h
          · simp only [hb, if_false] at h
            refine ⟨_, h, rfl, fun w B lab xo yo q q' u v hu hv => ?_⟩
            obtain rfl := hu.int_inv
            obtain rfl := hv.int_inv
            exact ⟨_, by simp [eqGuard, binOp, Op.intDiv, hb], .int _ _ _⟩
        all_goals first
          | (refine ⟨_, h, rfl, fun w B lab xo yo q q' u v hu hv => ?_⟩
             obtain rfl := hu.int_inv
             obtain rfl := hv.int_inv
             first
               | (refine ⟨_, ?_, .int _ _ _⟩; simp [eqGuard, binOp, Op.intArith]; done)
               | (refine ⟨_, ?_, .int _ _ _⟩; simp [eqGuard, binOp, intBits_and, intBits_or, intBits_xor, intBits_andNot]; done)
               | (refine ⟨_, ?_, .bool _ _⟩; simp [eqGuard, binOp, Op.intCmp]; done))
          | cases h
      · cases h
  · rename_i a b
    split at h
    · rename_i hty
      split at h
      · refine ⟨_, h, rfl, fun w B lab xo yo q q' u v hu hv => ?_⟩
        obtain rfl := hu.bool_inv
        obtain rfl := hv.bool_inv
        have e : binOp .eql ty (.bool a) (.bool b) = (do pure (.bool (<- Op.equal ty (.bool a) (.bool b)))) := rfl
        have g : eqGuard .eql ty xo yo (.bool a) (.bool b) = pure () := rfl
        exact ⟨_, by rw [e, g, Sem.run_bind, Sem.run_pure, Result.andThen_ok, Sem.run_bind, run_equal_bool _ _ _ _ hty]; rfl, .bool _ _⟩
      · refine ⟨_, h, rfl, fun w B lab xo yo q q' u v hu hv => ?_⟩
        obtain rfl := hu.bool_inv
        obtain rfl := hv.bool_inv
        have e : binOp .neq ty (.bool a) (.bool b) = (do pure (.bool (!(<- Op.equal ty (.bool a) (.bool b))))) := rfl
        have g : eqGuard .neq ty xo yo (.bool a) (.bool b) = pure () := rfl
        exact ⟨_, by rw [e, g, Sem.run_bind, Sem.run_pure, Result.andThen_ok, Sem.run_bind, run_equal_bool _ _ _ _ hty]; rfl, .bool _ _⟩
      · cases h
    · cases h
  · rename_i a b
    split at h
    · cases hL : okLen (a.size + b.size) with
      | false => rw [hL] at h; cases h
      | true =>
        rw [hL] at h
        refine ⟨_, h, rfl, fun w B lab xo yo q q' u v hu hv => ?_⟩
        obtain rfl := hu.str_inv
        obtain rfl := hv.str_inv
        have hL' : a.size + b.size < 1073741824 := by simpa [okLen] using hL
        refine ⟨_, ?_, .str _ _⟩
        have h9 : IntKind.i64.max = 9223372036854775807 := rfl
        simp only [eqGuard, binOp, Op.stringOp, h9]
        simp
        omega
    · refine ⟨_, h, rfl, fun w B lab xo yo q q' u v hu hv => ?_⟩
      obtain rfl := hu.str_inv
      obtain rfl := hv.str_inv
      exact ⟨_, by simp [eqGuard, binOp, Op.stringOp], .bool _ _⟩
    · refine ⟨_, h, rfl, fun w B lab xo yo q q' u v hu hv => ?_⟩
      obtain rfl := hu.str_inv
      obtain rfl := hv.str_inv
      exact ⟨_, by simp [eqGuard, binOp, Op.stringOp], .bool _ _⟩
    · cases h
  · cases h
def unK {X : Type} (op : UnOp) (x : V) (k : V -> Option X) : Option X :=
  match op, x with
  | .not, .bool b => k (.bool (!b))
  | .neg, .int kx n => k (.int kx (kx.wrap (0 - n)))
  | _, _ => none
theorem unK_ok {op : UnOp} {x : V} {k : V -> Option X} (h : unK op x k = some r) : ∃ z, k z = some r /\ z.plain = true /\ ∀ (w : World) (B : Nat) (lab : Lab) (q : List Nat) (u : Value), RV w B lab q x u -> ∃ t, (Op.unary op u).run P w = .ok t w /\ RV w B lab [] z t := by
  unfold unK at h
  split at h
  · refine ⟨_, h, rfl, fun w B lab q u hu => ?_⟩
    obtain rfl := hu.bool_inv
    exact ⟨_, by simp [Op.unary], .bool _ _⟩
  · refine ⟨_, h, rfl, fun w B lab q u hu => ?_⟩
    obtain rfl := hu.int_inv
    exact ⟨_, by simp [Op.unary, Op.intArith], .int _ _ _⟩
  · cases h
theorem V.plain_fro {x : V} (h : x.plain = true) : x.fro = true := by cases x <;> first | rfl | cases h
end
end Go.Proofs.YtckjagaogcbedaaGreat
namespace Go.Proofs.YtckjagaogcbedaaGreat
open Go.RowKit
set_option linter.unusedVariables false
def szOf (P : Program) (t : TypeId) : Option Nat := (P.info? t).map (·.size)
def rowT (P : Program) (t : TypeId) : Option Bool :=
  match P.underlying t with
  | some (.struct _) | some (.array _ _) => some true
  | some _ => some false
  | none => none
def elemT (P : Program) (t : TypeId) : Option TypeId :=
  match P.underlying t with
  | some (.slice e) => some e
  | _ => none
def fieldT (P : Program) (s : TypeId) (f : Nat) : Option Field :=
  match P.underlying s with
  | some (.struct fs) => fs[f]?
  | _ => none
def finK {X : Type} (P : Program) (t : TypeId) (cs : List Lf) (k : A -> Option X) : Option X :=
  match szOf P t with
  | some n => if cs.length = n then (match rowT P t with
    | some true => k (.agg cs)
    | some false => (match cs with
      | [y] => k (.lf y)
      | _ => none)
    | none => none) else none
  | none => none
def leaves (key : Nat -> List Nat) : Nat -> List V -> List Lf
  | _, [] => []
  | j, z :: zs => (bif z.fro then .v z else .own (key j)) :: leaves key (j + 1) zs
def loadK {X : Type} (P : Program) (σ : S) (t : TypeId) (x : A) (k : A -> Option X) : Option X :=
  match szOf P t with
  | none => none
  | some n => match x with
    | .bptr r j => (match σ.m r with
      | some (.blk cs) => finK P t ((cs.drop j).take n) k
      | _ => none)
    | .fptr cs => finK P t ((cs.take n).map .v) k
    | .ptr (j :: i :: s :: q) => getK σ.m q fun y => (match y with
      | .sl t' (o + 2) _ l => if s = csz t' then (if h : i < l.length then finK P t (leaves (fun j' => j' :: i :: s :: q) j (((enc t' o l[i]).drop j).take n)) k else none) else none
      | _ => none)
    | _ => none
section
variable {P : Program} {w : World} {w0 : Wd} {B N : Nat} {lab : Lab} {ρ : Nat -> Loc} {σ : S} {a : Act} {X : Type} {r : X} {o : Oper}
theorem leaves_length (key : Nat -> List Nat) : ∀ (j : Nat) (zs : List V), (leaves key j zs).length = zs.length
  | _, [] => rfl
  | j, z :: zs => by simp [leaves, leaves_length key (j + 1) zs]
theorem leaves_get (key : Nat -> List Nat) : ∀ (j : Nat) (zs : List V) (n : Nat), (leaves key j zs)[n]? = (zs[n]?).map fun z => bif z.fro then .v z else .own (key (j + n))
  | _, [], n => by simp [leaves]
  | j, z :: zs, 0 => by simp [leaves]
  | j, z :: zs, n + 1 => by
    simp only [leaves, List.getElem?_cons_succ, leaves_get key (j + 1) zs n]
    rw [show j + 1 + n = j + (n + 1) by omega]
theorem finK_ok {t : TypeId} {cs : List Lf} {k : A -> Option X} (h : finK P t cs k = some r) : ∃ x, k x = some r /\ ∀ (w : World) (B : Nat) (lab : Lab) (ρ : Nat -> Loc) (b o : Nat) (vs : List Value), RLs w B lab ρ cs vs.toArray -> w.rangeAt b o vs ->
    ∃ v, (Instr.loadAt t (.pointer (some ⟨b, o, none⟩))).run P w = .ok v w /\ RA w B lab ρ x v := by
  unfold finK at h
  split at h
  · rename_i n hn
    split at h
    · rename_i hlen
      split at h
      · rename_i hrow
        refine ⟨_, h, fun w B lab ρ b o vs hl hr => ?_⟩
        have hvl : vs.length = n := by have := hl.1; simpa [hlen] using this
        unfold rowT at hrow
        split at hrow
        · rename_i fs hu
          exact ⟨_, run_loadAt_mid w b o t vs _ hr hu rfl (by rw [hvl]; exact hn), _, rfl, hl⟩
        · rename_i c e hu
          exact ⟨_, run_loadAt_mid w b o t vs _ hr hu rfl (by rw [hvl]; exact hn), _, rfl, hl⟩
        · cases hrow
        · cases hrow
      · rename_i hrow
        split at h
        · rename_i y
          refine ⟨_, h, fun w B lab ρ b o vs hl hr => ?_⟩
          have hvl : vs.length = 1 := by have := hl.1; simpa using this
          obtain ⟨v, rfl⟩ := List.length_eq_one_iff.1 hvl
          have hv : w.cell? ⟨b, o, none⟩ = some v := hr 0 v rfl
          obtain ⟨u, hu, hR⟩ := hl.2 0 y rfl
          have : v = u := by simpa using hu
          subst this
          refine ⟨v, ?_, hR⟩
          unfold rowT at hrow
          split at hrow
          · cases hrow
          · cases hrow
          · rename_i d hs ha hu
            have hagg : (isAgg t).run P w = .ok false w := by
              unfold isAgg
              rw [Sem.run_bind, run_underlying hu w]
              cases d <;> first | rfl | (rename_i x; exact absurd rfl (hs x)) | (rename_i x y; exact absurd rfl (ha x y)) | simp_all
            simp [Instr.loadAt, Instr.sureAddr, loadVar, Sem.run_bind, hagg, load, Sem.run, hv]
          · cases hrow
        · cases h
      · cases h
    · cases h
  · cases h
theorem take_drop_get {α : Type} (l : List α) (j n i : Nat) (x : α) (h : ((l.drop j).take n)[i]? = some x) : i < n /\ l[j + i]? = some x := by
  rw [List.getElem?_take] at h
  split at h
  · rename_i hi; rw [List.getElem?_drop] at h; exact ⟨hi, h⟩
  · cases h
theorem loadK_ok {t : TypeId} {x : A} {k : A -> Option X} (h : loadK P σ t x k = some r) : ∃ y, k y = some r /\ ∀ lab ρ a w, Rl w0 N lab ρ σ a w -> ∀ u, RA w w0.heap.size lab ρ x u ->
    ∃ v, (Instr.loadAt t u).run P w = .ok v w /\ RA w w0.heap.size lab ρ y v := by
  unfold loadK at h
  split at h
  · cases h
  · rename_i n hn
    split at h
    · rename_i r' j
      split at h
      · rename_i cs hcs
        obtain ⟨y, hy, hf⟩ := finK_ok h
        refine ⟨y, hy, fun lab ρ a w hR u hu => ?_⟩
        obtain ⟨b, off, hρ, rfl⟩ := hu
        have hr := hR.root r' _ hcs
        generalize he : Root.blk cs = x at hr
        cases hr with
        | sl => cases he
        | mp => cases he
        | gh => cases he
        | blk b' off' cells e cs' us hρ' hl hh hs hc =>
          injection he with he
          subst he
          rw [hρ] at hρ'
          injection hρ' with e1 e2
          subst e1 e2
          refine hf w _ lab ρ b (off + j) (((cs.drop j).take n).mapIdx fun i _ => us (j + i)) ⟨by simp, fun i x hx => ?_⟩ (fun i v hv => ?_)
          · obtain ⟨hi, hx'⟩ := take_drop_get _ _ _ _ _ hx
            refine ⟨us (j + i), ?_, (hc _ x hx').2⟩
            simp only [List.getElem?_toArray, List.getElem?_mapIdx, hx, Option.map_some]
          · rw [List.getElem?_mapIdx] at hv
            cases hx : ((cs.drop j).take n)[i]? with
            | none => rw [hx] at hv; cases hv
            | some x =>
              rw [hx] at hv
              injection hv with hv
              subst hv
              obtain ⟨hi, hx'⟩ := take_drop_get _ _ _ _ _ hx
              rw [cell_of_row w b _ cells _ _ hh, Nat.add_assoc]
              exact (hc _ x hx').1
      · cases h
    · rename_i cs
      obtain ⟨y, hy, hf⟩ := finK_ok h
      refine ⟨y, hy, fun lab ρ a w hR u hu => ?_⟩
      obtain ⟨b, off, rfl, hb, hl, hc⟩ := hu
      have hget : ∀ (i : Nat) (x : Lf), ((cs.take n).map Lf.v)[i]? = some x -> ∃ z v, x = .v z /\ z.fro = true /\ w.cell? ⟨b, off + i, none⟩ = some v /\ RV w w0.heap.size lab [] z v := by
        intro i x hx
        rw [List.getElem?_map] at hx
        cases hz : (cs.take n)[i]? with
        | none => rw [hz] at hx; cases hx
        | some z =>
          rw [hz] at hx
          injection hx with hx
          rw [List.getElem?_take] at hz
          split at hz
          · obtain ⟨hf', v, hv, hr⟩ := hc i z hz
            exact ⟨z, v, hx.symm, hf', hv, hr⟩
          · cases hz
      refine hf w _ lab ρ b off (((cs.take n).map Lf.v).mapIdx fun i _ => (w.cell? ⟨b, off + i, none⟩).getD undef) ⟨by simp, fun i x hx => ?_⟩ (fun i v hv => ?_)
      · obtain ⟨z, v, rfl, hf', hv, hr⟩ := hget i x hx
        refine ⟨v, ?_, hf', hr⟩
        simp only [List.getElem?_toArray, List.getElem?_mapIdx, hx, Option.map_some, hv, Option.getD_some]
      · rw [List.getElem?_mapIdx] at hv
        cases hx : ((cs.take n).map Lf.v)[i]? with
        | none => rw [hx] at hv; cases hv
        | some x =>
          rw [hx] at hv
          obtain ⟨z, v', rfl, hf', hv', hr⟩ := hget i x hx
          rw [hv'] at hv
          injection hv with hv
          rw [hv']
          exact congrArg some hv
    · rename_i j i s q
      obtain ⟨y0, hg, h2⟩ := getK_ok _ _ h
      clear h
      split at h2
      · rename_i t' o' qn l
        split at h2
        · rename_i hs
          subst hs
          split at h2
          · rename_i hi
            obtain ⟨y, hy, hf⟩ := finK_ok h2
            refine ⟨y, hy, fun lab ρ a w hR u hu => ?_⟩
            obtain ⟨ad, rfl, had⟩ := hu
            obtain ⟨hv, hval, hrv⟩ := hg.ok hR.root
            cases hrv with
            | slNil => simp at hi
            | slEmp => simp at hi
            | slNon => simp at hi
            | fro _ _ _ _ _ _ _ _ _ ho => omega
            | own _ _ _ _ _ b cap cs us hlb hh hs hn hmx hc hr =>
              rw [addrAt_step j i (csz t') hval hlb] at had
              injection had with had
              subst had
              have hget : ∀ (m : Nat) (x : Lf), (leaves (fun j' => j' :: i :: csz t' :: q) j (((enc t' o' l[i]).drop j).take n))[m]? = some x -> cs[i * csz t' + (j + m)]? = some (us i (j + m)) /\ RLf w w0.heap.size lab ρ x (us i (j + m)) := by
                intro m x hx
                rw [leaves_get] at hx
                cases hz : (((enc t' o' l[i]).drop j).take n)[m]? with
                | none => rw [hz] at hx; cases hx
                | some z =>
                  rw [hz] at hx
                  injection hx with hx
                  have hx : (bif z.fro then Lf.v z else Lf.own ((j + m) :: i :: csz t' :: q)) = x := hx
                  obtain ⟨_, hz'⟩ := take_drop_get _ _ _ _ _ hz
                  have h3 := hc i hi _ z hz'
                  have h4 := hr i hi _ z hz'
                  refine ⟨h3, ?_⟩
                  cases hfz : z.fro with
                  | true =>
                    rw [hfz] at hx
                    have hx : Lf.v z = x := hx
                    subst hx
                    exact ⟨hfz, h4.key hfz⟩
                  | false =>
                    rw [hfz] at hx
                    have hx : Lf.own ((j + m) :: i :: csz t' :: q) = x := hx
                    subst hx
                    refine ⟨?_, ?_⟩
                    · exact h4.notfro hfz
                    · rw [valAt_long, addrAt_step (j + m) i (csz t') hval hlb]
                      show w.cell? _ = _
                      rw [cell_of_row w b _ cs _ _ hh]
                      exact h3
              refine hf w _ lab ρ b (i * csz t' + j) ((leaves (fun j' => j' :: i :: csz t' :: q) j (((enc t' o' l[i]).drop j).take n)).mapIdx fun m _ => us i (j + m)) ⟨by simp, fun m x hx => ?_⟩ (fun m v hv => ?_)
              · refine ⟨us i (j + m), ?_, (hget m x hx).2⟩
                simp only [List.getElem?_toArray, List.getElem?_mapIdx, hx, Option.map_some]
              · rw [List.getElem?_mapIdx] at hv
                cases hx : (leaves (fun j' => j' :: i :: csz t' :: q) j (((enc t' o' l[i]).drop j).take n))[m]? with
                | none => rw [hx] at hv; cases hv
                | some x =>
                  rw [hx] at hv
                  injection hv with hv
                  subst hv
                  rw [cell_of_row w b _ cs _ _ hh, Nat.add_assoc]
                  exact (hget m x hx).1
          · cases h2
        · cases h2
      · cases h2
    · cases h
end
end Go.Proofs.YtckjagaogcbedaaGreat
namespace Go.Proofs.YtckjagaogcbedaaGreat
open Go.RowKit
set_option linter.unusedVariables false
def A.lfs : A -> Option (List Lf)
  | .lf x => some [x]
  | .agg xs => some xs
  | _ => none
def Lf.live : Lf -> Bool
  | .dead => false
  | _ => true
def Lf.pl : Lf -> Option V
  | .v x => bif x.plain then some x else none
  | _ => none
def plains : List Lf -> Option (List V)
  | [] => some []
  | x :: xs => match x.pl, plains xs with
    | some y, some ys => some (y :: ys)
    | _, _ => none
def putM {X : Type} (m : Nat -> Option Root) : List Nat -> V -> ((Nat -> Option Root) -> Option X) -> Option X
  | [r], y, k => match m r with
    | some (.sl _) => k (upd m r (some (.sl y)))
    | _ => none
  | j :: i :: s :: q, y, k => getK m q fun z => match z with
    | .sl t (o + 2) qn l => if s = csz t then (if h : i < l.length then (if j < csz t then (match dec t o (splice (enc t o l[i]) j [y]) with
      | some e => putM m q (.sl t (o + 2) qn (l.set i e)) k
      | none => none) else none) else none) else none
    | _ => none
  | _, _, _ => none
def storeK {X : Type} (P : Program) (σ : S) (t : TypeId) (x y : A) (k : S -> Option X) : Option X :=
  match szOf P t, y.lfs with
  | some n, some xs => if xs.length = n then (match x with
    | .bptr r j => (match σ.m r with
      | some (.blk cs) => if j + n <= cs.length then (bif xs.all Lf.live then k ⟨σ.t, upd σ.m r (some (.blk (splice cs j xs)))⟩ else none) else none
      | _ => none)
    | .ptr (j :: i :: s :: q) => (match plains xs with
      | none => none
      | some vs => getK σ.m q fun y => (match y with
        | .sl t' (o + 2) qn l => if s = csz t' then (if h : i < l.length then (if j + vs.length <= csz t' then (bif (((enc t' o l[i]).drop j).take vs.length).all V.plain then (match dec t' o (splice (enc t' o l[i]) j vs) with
          | some e => putM σ.m q (.sl t' (o + 2) qn (l.set i e)) fun m => k ⟨σ.t, m⟩
          | none => none) else none) else none) else none) else none
        | _ => none))
    | _ => none) else none
  | _, _ => none
section
variable {P : Program} {w : World} {w0 : Wd} {B N : Nat} {lab : Lab} {ρ : Nat -> Loc} {σ : S} {a : Act} {X : Type} {r : X} {o : Oper}
theorem putM_ok {m : Nat -> Option Root} : ∀ (q : List Nat) (y : V) (k : (Nat -> Option Root) -> Option X), putM m q y k = some r -> ∃ m', Put m q y m' /\ k m' = some r
  | [], _, _, h => by simp [putM] at h
  | [x], y, k, h => by
    simp only [putM] at h
    split at h
    · rename_i y0 hy; exact ⟨_, .root x y0 y hy, h⟩
    · cases h
  | [_, _], _, _, h => by simp [putM] at h
  | j :: i :: s :: q, y, k, h => by
    simp only [putM] at h
    obtain ⟨z, hz, h2⟩ := getK_ok q _ h
    clear h
    split at h2
    · split at h2
      · rename_i hs
        subst hs
        split at h2
        · rename_i hi
          split at h2
          · rename_i hj
            split at h2
            · rename_i e he
              obtain ⟨m', hm', h3⟩ := putM_ok q _ k h2
              exact ⟨m', .elem j i q _ _ _ _ y e m' hz hi hj he hm', h3⟩
            · cases h2
          · cases h2
        · cases h2
      · cases h2
    · cases h2
theorem plains_ok : ∀ (xs : List Lf) (vs : List V), plains xs = some vs -> xs = vs.map .v /\ ∀ v ∈ vs, v.plain = true
  | [], vs, h => by
    simp [plains] at h
    subst h
    exact ⟨rfl, by simp⟩
  | x :: xs, vs, h => by
    unfold plains at h
    split at h
    · rename_i y ys hy hys
      injection h with h
      subst h
      obtain ⟨h1, h2⟩ := plains_ok xs ys hys
      have : x = .v y /\ y.plain = true := by
        cases x with
        | v z =>
          unfold Lf.pl at hy
          cases hz : z.plain with
          | true =>
            simp only [hz, cond_true] at hy
            injection hy with hy
            subst hy
            exact ⟨rfl, hz⟩
          | false => simp [hz] at hy
        | own q => cases hy
        | dead => cases hy
      refine ⟨by rw [this.1, h1]; rfl, fun v hv => ?_⟩
      rcases List.mem_cons.1 hv with rfl | hv
      · exact this.2
      · exact h2 v hv
    · cases h
theorem one_cells {u : Value} (h : u.oneCell' = true) : u.cells = #[u] := by cases u <;> first | rfl | cases h
theorem RLf.one {x : Lf} {u : Value} (h : RLf w B lab ρ x u) (hd : x.live = true) : u.oneCell' = true := by
  cases x with
  | v z => exact h.2.one
  | own k =>
    have := h.1
    cases u <;> first | rfl | cases this
  | dead => cases hd
theorem lfs_ok {y : A} {xs : List Lf} (h : y.lfs = some xs) (hd : xs.all Lf.live = true) {u : Value} (hu : RA w B lab ρ y u) : RLs w B lab ρ xs u.cells /\ u.cells.all (·.oneCell') = true := by
  have key : ∀ us : Array Value, RLs w B lab ρ xs us -> us.all (·.oneCell') = true := by
    intro us hs
    rw [Array.all_eq_true]
    intro i hi
    have hx := List.getElem?_eq_getElem (l := xs) (i := i) (by rw [<- hs.1]; exact hi)
    obtain ⟨v, hv, hr⟩ := hs.2 i _ hx
    have : us[i] = v := by rw [Array.getElem?_eq_getElem hi] at hv; injection hv
    rw [this]
    exact hr.one (List.all_eq_true.1 hd _ (List.getElem_mem _))
  cases y with
  | lf x =>
    injection h with h
    subst h
    have hu : RLf w B lab ρ x u := hu
    have h1 := hu.one (by simpa using hd)
    have : RLs w B lab ρ [x] u.cells := by
      rw [one_cells h1]
      refine ⟨rfl, fun j y hy => ?_⟩
      cases j with
      | zero => simp at hy; subst hy; exact ⟨u, rfl, hu⟩
      | succ j => simp at hy
    exact ⟨this, key _ this⟩
  | agg xs' =>
    injection h with h
    subst h
    obtain ⟨us, rfl, h⟩ := hu
    exact ⟨h, key _ h⟩
  | _ => cases h
theorem run_storeAt_any (w : World) (b o : Nat) (ty : TypeId) (v : Value) (ht : w.there b o v.cells.size) (hi : (P.info? ty).map (·.size) = some v.cells.size) (h1 : v.cells.all (·.oneCell') = true) :
    (Instr.storeAt ty (.pointer (some ⟨b, o, none⟩)) v).run P w = .ok () (w.setCells b o v.cells.toList) := by
  have := run_storeCells_cells (P := P) b o v.cells.toList 0 w (fun j hj => by simpa using (ht j (by simpa using hj)).1) (fun j hj => by simpa using (ht j (by simpa using hj)).2)
    (fun v hv => (Array.all_eq_true_iff_forall_mem.1 h1) v (by simpa using hv))
  cases hq : P.info? ty with
  | none => simp [hq] at hi
  | some i =>
    have hs : v.cells.size = i.size := by simp [hq] at hi; omega
    simp only [Nat.add_zero] at this
    simp [Instr.storeAt, Instr.sureAddr, storeVar, sizeOf, typeInfo, hq, hs, this]
theorem storeK_ok {t : TypeId} {x y : A} {k : S -> Option X} (h : storeK P σ t x y k = some r) : ∃ σ', k σ' = some r /\ ∀ lab ρ a w, Rl w0 N lab ρ σ a w -> ∀ u v, RA w w0.heap.size lab ρ x u -> RA w w0.heap.size lab ρ y v ->
    ∃ w', (Instr.storeAt t u v).run P w = .ok () w' /\ Rl w0 N lab ρ σ' a w' := by
  unfold storeK at h
  split at h
  · rename_i n xs hn hxs
    split at h
    · rename_i hlen
      split at h
      · rename_i r' j
        split at h
        · rename_i cs hcs
          split at h
          · rename_i hj
            cases hlive : xs.all Lf.live with
            | false => rw [hlive] at h; cases h
            | true =>
              rw [hlive] at h
              refine ⟨_, h, fun lab ρ a w hR u v hu hv => ?_⟩
              obtain ⟨b, off, hρ, rfl⟩ := hu
              obtain ⟨hl, hone⟩ := lfs_ok hxs hlive hv
              obtain ⟨b', off', hρ', hth, hR'⟩ := hR.storeB hcs hl (by rw [hlen]; exact hj)
              rw [hρ] at hρ'
              injection hρ' with e1 e2
              subst e1 e2
              exact ⟨_, run_storeAt_any w b (off + j) t v hth (by rw [hl.1, hlen]; exact hn) hone, hR'⟩
          · cases h
        · cases h
      · rename_i j i s q
        split at h
        · cases h
        · rename_i vs hvs
          obtain ⟨y0, hg, h2⟩ := getK_ok _ _ h
          clear h
          split at h2
          · rename_i t' o' qn l
            split at h2
            · rename_i hs
              subst hs
              split at h2
              · rename_i hi
                split at h2
                · rename_i hj
                  cases hold : (((enc t' o' l[i]).drop j).take vs.length).all V.plain with
                  | false => rw [hold] at h2; cases h2
                  | true =>
                    rw [hold, cond_true] at h2
                    split at h2
                    · rename_i e he
                      obtain ⟨m', hm', h3⟩ := putM_ok q _ _ h2
                      refine ⟨_, h3, fun lab ρ a w hR u v hu hv => ?_⟩
                      obtain ⟨ad, rfl, had⟩ := hu
                      obtain ⟨hx1, hx2⟩ := plains_ok xs vs hvs
                      have hlive : xs.all Lf.live = true := by rw [hx1]; simp [Lf.live]
                      obtain ⟨hl, hone⟩ := lfs_ok hxs hlive hv
                      have hvl : vs.length = n := by rw [<- hlen, hx1, List.length_map]
                      have q1 : ∀ (n' : Nat) x, n' < vs.length -> (enc t' o' l[i])[j + n']? = some x -> x.plain = true := by
                        intro n' x hn' hx
                        refine List.all_eq_true.1 hold x (List.mem_of_getElem? (i := n') ?_)
                        rw [List.getElem?_take, if_pos hn', List.getElem?_drop]
                        exact hx
                      have q2 : ∀ (n' : Nat) x, vs[n']? = some x -> ∃ u', v.cells[n']? = some u' /\ RV w w0.heap.size lab [] x u' := by
                        intro n' x hx
                        obtain ⟨u', hu', hr'⟩ := hl.2 n' (.v x) (by rw [hx1, List.getElem?_map, hx]; rfl)
                        exact ⟨u', hu', hr'.2⟩
                      obtain ⟨b, hb, hth, hR'⟩ := hR.storeE (xs := vs) (us := v.cells) hg hi hj he q1 hx2 (by rw [hl.1, hx1, List.length_map]) q2 hm'
                      rw [had] at hb
                      injection hb with hb
                      subst hb
                      exact ⟨_, run_storeAt_any w b _ t v hth (by rw [hl.1, hlen]; exact hn) hone, hR'⟩
                    · cases h2
                · cases h2
              · cases h2
            · cases h2
          · cases h2
      · cases h
    · cases h
  · cases h
end
end Go.Proofs.YtckjagaogcbedaaGreat
namespace Go.Proofs.YtckjagaogcbedaaGreat
open Go.RowKit
set_option linter.unusedVariables false
def fieldK {X : Type} (P : Program) (s : TypeId) (x : A) (f : Nat) (k : A -> Option X) : Option X :=
  match fieldT P s f with
  | none => none
  | some fd => match szOf P fd.type with
    | some (_ + 1) => (match x with
      | .bptr r j => k (.bptr r (j + fd.offset))
      | .fptr cs => k (.fptr (cs.drop fd.offset))
      | .ptr (j :: i :: s :: q) => k (.ptr ((j + fd.offset) :: i :: s :: q))
      | _ => none)
    | _ => none
def idxK {X : Type} (P : Program) (σ : S) (t : TypeId) (x i : A) (k : A -> Option X) : Option X :=
  match elemT P t with
  | none => none
  | some e => match szOf P e, i with
    | some n, .lf (.v (.int _ iv)) => (match x with
      | .lf (.v (.sl t' g _ l)) => if n = csz t' then (bif Nat.blt g 2 then (if h : 0 <= iv /\ iv.toNat < l.length then k (.fptr (enc t' g (l[iv.toNat]'h.2))) else none) else none) else none
      | .lf (.own q) => getK σ.m q fun y => (match y with
        | .sl t' g _ l => if n = csz t' then (if h : 0 <= iv /\ iv.toNat < l.length then (bif Nat.blt g 2 then k (.fptr (enc t' g (l[iv.toNat]'h.2))) else k (.ptr (0 :: iv.toNat :: csz t' :: q))) else none) else none
        | _ => none)
      | _ => none)
    | _, _ => none
def lenK {X : Type} (P : Program) (σ : S) (t : TypeId) (x : A) (k : A -> Option X) : Option X :=
  match x with
  | .lf y => lfK σ y fun z => (match z with
    | .sl _ _ _ l => (match P.underlying t with | some (.slice _) => k (.lf (.v (.int .i64 (l.length : Int)))) | _ => none)
    | .nil => (match P.underlying t with | some (.slice _) => k (.lf (.v (.int .i64 0))) | _ => none)
    | .str s => (match P.underlying t with | some .string => k (.lf (.v (.int .i64 (s.size : Int)))) | _ => none)
    | _ => none)
  | _ => none
def partA : Bool × List Lf -> Option A
  | (true, cs) => some (.agg cs)
  | (false, [y]) => some (.lf y)
  | _ => none
def extK {X : Type} (x : A) (i : Nat) (k : A -> Option X) : Option X :=
  match x with
  | .tup xs => match (xs[i]?).bind partA with
    | some y => k y
    | none => none
  | _ => none
section
variable {P : Program} {w : World} {w0 : Wd} {B N : Nat} {lab : Lab} {ρ : Nat -> Loc} {σ : S} {a : Act} {X : Type} {r : X} {o : Oper}
theorem addrAt_add (n : Nat) {j i s : Nat} {q : List Nat} {ad : Addr} (h : addrAt w lab ρ (j :: i :: s :: q) = some ad) : addrAt w lab ρ ((j + n) :: i :: s :: q) = some ⟨ad.block, ad.off + n, none⟩ := by
  match q, h with
  | [], h => simp [addrAt] at h
  | [r], h =>
    simp only [addrAt] at h ⊢
    split at h
    · split at h
      · rename_i hl
        injection h with h
        subst h
        rw [if_pos hl, Nat.add_assoc]
      · cases h
    · cases h
  | x :: y :: q, h =>
    simp only [addrAt] at h ⊢
    split at h
    · split at h
      · rename_i hl
        injection h with h
        subst h
        rw [if_pos hl, Nat.add_assoc]
      · cases h
    · cases h
theorem run_fieldAt_mid (w : World) (s : TypeId) (f : Nat) (fd : Field) (n : Nat) (b off : Nat) (hf : fieldT P s f = some fd) (hs : szOf P fd.type = some (n + 1)) :
    (Instr.fieldAt s (.pointer (some ⟨b, off, none⟩)) f).run P w = .ok (.pointer (some ⟨b, off + fd.offset, none⟩)) w := by
  unfold fieldT at hf
  split at hf
  · rename_i fs hu
    unfold szOf at hs
    cases hq : P.info? fd.type with
    | none => simp [hq] at hs
    | some i =>
      have hi : i.size = n + 1 := by simpa [hq] using hs
      simp [Instr.fieldAt, run_underlying hu, hf, Instr.sureAddr, fieldPlace, sizeOf, typeInfo, hq, hi, Addr.add_mid]
  · cases hf
theorem fieldK_ok {s : TypeId} {x : A} {f : Nat} {k : A -> Option X} (h : fieldK P s x f k = some r) : ∃ y, k y = some r /\ ∀ (w : World) (B : Nat) (lab : Lab) (ρ : Nat -> Loc) (u : Value), RA w B lab ρ x u ->
    ∃ v, (Instr.fieldAt s u f).run P w = .ok v w /\ RA w B lab ρ y v := by
  unfold fieldK at h
  split at h
  · cases h
  · rename_i fd hfd
    split at h
    · rename_i n hn
      split at h
      · rename_i r' j
        refine ⟨_, h, fun w B lab ρ u hu => ?_⟩
        obtain ⟨b, off, hρ, rfl⟩ := hu
        exact ⟨_, run_fieldAt_mid w s f fd n b _ hfd hn, b, off, hρ, by rw [Nat.add_assoc]⟩
      · rename_i cs
        refine ⟨_, h, fun w B lab ρ u hu => ?_⟩
        obtain ⟨b, off, rfl, hb, hl, hc⟩ := hu
        refine ⟨_, run_fieldAt_mid w s f fd n b _ hfd hn, b, _, rfl, hb, hl, fun j x hx => ?_⟩
        rw [List.getElem?_drop] at hx
        have := hc _ x hx
        rw [<- Nat.add_assoc] at this
        exact this
      · rename_i j i s' q
        refine ⟨_, h, fun w B lab ρ u hu => ?_⟩
        obtain ⟨ad, rfl, had⟩ := hu
        have h2 := addrAt_add fd.offset had
        obtain ⟨_, _, _, _, _, _, _, hsp, _⟩ := addrAt_lab _ _ had
        obtain ⟨b, off, sp⟩ := ad
        simp only at hsp
        subst hsp
        exact ⟨_, run_fieldAt_mid w s f fd n b off hfd hn, _, rfl, h2⟩
      · cases h
    · cases h
theorem run_indexAt_mid (w : World) (t e : TypeId) (n b off len cap : Nat) (kk : IntKind) (iv : Int) (hu : elemT P t = some e) (hs : szOf P e = some n) (h0 : 0 <= iv) (h1 : iv.toNat < len) :
    (Instr.indexAt t (.slice (some ⟨b, off, none⟩) len cap) (.int kk iv)).run P w = .ok (.pointer (some ⟨b, off + iv.toNat * n, none⟩)) w := by
  unfold elemT at hu
  split at hu
  · rename_i e' hu'
    injection hu with hu
    subst hu
    unfold szOf at hs
    cases hq : P.info? e' with
    | none => simp [hq] at hs
    | some i =>
      have hi : i.size = n := by simpa [hq] using hs
      have h2 : iv < (len : Int) := by omega
      simp [Instr.indexAt, run_underlying hu', asIntOf, h0, h2, sizeOf, typeInfo, hq, hi, Addr.add_mid]
  · cases hu
theorem idxK_ok {t : TypeId} {x i : A} {k : A -> Option X} (h : idxK P σ t x i k = some r) : ∃ y, k y = some r /\ ∀ lab ρ a w, Rl w0 N lab ρ σ a w -> ∀ u v, RA w w0.heap.size lab ρ x u -> RA w w0.heap.size lab ρ i v ->
    ∃ p, (Instr.indexAt t u v).run P w = .ok p w /\ RA w w0.heap.size lab ρ y p := by
  unfold idxK at h
  split at h
  · cases h
  · rename_i e he
    split at h
    · rename_i n kk iv hn
      split at h
      · rename_i t' g qn l
        split at h
        · rename_i hnc
          subst hnc
          cases hg : Nat.blt g 2 with
          | false => rw [hg] at h; cases h
          | true =>
            rw [hg, cond_true] at h
            split at h
            · rename_i hb
              refine ⟨_, h, fun lab ρ a w hR u v hu hv => ?_⟩
              obtain rfl := hv.2.int_inv
              have hg2 : g < 2 := by have := Nat.le_of_ble_eq_true hg; omega
              cases hu.2 with
              | slNil => simp at hb
              | slEmp => simp at hb
              | slNon => simp at hb
              | own => exact absurd hg2 (by omega)
              | fro _ _ _ _ _ b off cap us ho hl hbb h1 hcap hc hr =>
                refine ⟨_, run_indexAt_mid w t e _ b off _ cap kk iv he hn hb.1 hb.2, b, _, rfl, hbb, hl, fun j x hx => ⟨enc_fro t' g _ hg2 j x hx, us iv.toNat j, ?_, hr _ hb.2 j x hx⟩⟩
                rw [Nat.add_assoc]
                exact hc _ hb.2 j x hx
            · cases h
        · cases h
      · rename_i q
        obtain ⟨y0, hg, h2⟩ := getK_ok _ _ h
        clear h
        split at h2
        · rename_i t' o' qn l
          split at h2
          · rename_i hnc
            subst hnc
            split at h2
            · rename_i hb
              cases hgb : Nat.blt o' 2 with
              | true =>
                rw [hgb, cond_true] at h2
                have ho2 : o' < 2 := Nat.le_of_ble_eq_true hgb
                refine ⟨_, h2, fun lab ρ a w hR u v hu hv => ?_⟩
                obtain rfl := hv.2.int_inv
                obtain ⟨hv', hval, hrv⟩ := hg.ok hR.root
                have : hv' = u := by
                  have h3 := hu.2
                  rw [hval] at h3
                  injection h3
                subst this
                cases hrv with
                | slNil => simp at hb
                | slEmp => simp at hb
                | slNon => simp at hb
                | own => exact absurd ho2 (by omega)
                | fro _ _ _ _ _ b off cap us ho hl hbb h1 hcap hc hr =>
                  refine ⟨_, run_indexAt_mid w t e _ b off _ cap kk iv he hn hb.1 hb.2, b, _, rfl, hbb, hl, fun j x hx => ⟨enc_fro t' o' _ ho2 j x hx, us iv.toNat j, ?_, hr _ hb.2 j x hx⟩⟩
                  rw [Nat.add_assoc]
                  exact hc _ hb.2 j x hx
              | false =>
                rw [hgb, cond_false] at h2
                have ho2 : ¬ o' < 2 := fun hlt => by have h9 : Nat.blt o' 2 = true := Nat.ble_eq_true_of_le hlt; rw [h9] at hgb; cases hgb
                refine ⟨_, h2, fun lab ρ a w hR u v hu hv => ?_⟩
                obtain rfl := hv.2.int_inv
                obtain ⟨hv', hval, hrv⟩ := hg.ok hR.root
                have : hv' = u := by
                  have h3 := hu.2
                  rw [hval] at h3
                  injection h3
                subst this
                cases hrv with
                | slNil => simp at hb
                | slEmp => simp at hb
                | slNon => simp at hb
                | fro _ _ _ _ _ _ _ _ _ ho => omega
                | own _ _ _ _ _ b cap cs us hlb hh hs hn' hmx hc hr =>
                  refine ⟨_, run_indexAt_mid w t e _ b 0 _ cap kk iv he hn hb.1 hb.2, _, rfl, ?_⟩
                  rw [addrAt_step 0 iv.toNat (csz t') hval hlb]
                  simp
            · cases h2
          · cases h2
        · cases h2
      · cases h
    · cases h
theorem lenK_ok {t ty : TypeId} {x : A} {k : A -> Option X} (h : lenK P σ t x k = some r) : ∃ y, k y = some r /\ ∀ lab ρ a w, Rl w0 N lab ρ σ a w -> ∀ u, RA w w0.heap.size lab ρ x u ->
    ∃ v, (Builtin.len_ #[t] ty #[u]).run P w = .ok v w /\ RA w w0.heap.size lab ρ y v := by
  unfold lenK at h
  split at h
  · rename_i y
    have key : ∃ z, (∀ lab ρ a w, Rl w0 N lab ρ σ a w -> ∀ u, RLf w w0.heap.size lab ρ y u -> ∃ q, RV w w0.heap.size lab q z u) /\ (match z with
        | .sl _ _ _ l => (match P.underlying t with | some (.slice _) => k (.lf (.v (.int .i64 (l.length : Int)))) | _ => none)
        | .nil => (match P.underlying t with | some (.slice _) => k (.lf (.v (.int .i64 0))) | _ => none)
        | .str s => (match P.underlying t with | some .string => k (.lf (.v (.int .i64 (s.size : Int)))) | _ => none)
        | _ => none) = some r := by
      cases y with
      | v z => exact ⟨z, fun lab ρ a w _ u hu => ⟨[], hu.2⟩, h⟩
      | dead => cases h
      | own q =>
        obtain ⟨z, hz, h⟩ := getK_ok q _ h
        refine ⟨z, fun lab ρ a w hR u hu => ?_, h⟩
        obtain ⟨v, hv, hr⟩ := hz.ok hR.root
        have h3 := hu.2
        rw [hv] at h3
        injection h3 with h3
        subst h3
        exact ⟨q, hr⟩
    obtain ⟨z, hz, h2⟩ := key
    clear h
    split at h2
    · rename_i t' g qn l
      split at h2
      · rename_i e he
        refine ⟨_, h2, fun lab ρ a w hR u hu => ?_⟩
        obtain ⟨q, hr⟩ := hz lab ρ a w hR u hu
        cases hr with
        | slNil => exact ⟨_, by simp [Builtin.len_, run_underlying he, goInt], rfl, .int _ _ _⟩
        | slEmp => exact ⟨_, by simp [Builtin.len_, run_underlying he, goInt], rfl, .int _ _ _⟩
        | slNon => exact ⟨_, by simp [Builtin.len_, run_underlying he, goInt], rfl, .int _ _ _⟩
        | fro => exact ⟨_, by simp [Builtin.len_, run_underlying he, goInt], rfl, .int _ _ _⟩
        | own => exact ⟨_, by simp [Builtin.len_, run_underlying he, goInt], rfl, .int _ _ _⟩
      · cases h2
    · split at h2
      · rename_i e he
        refine ⟨_, h2, fun lab ρ a w hR u hu => ?_⟩
        obtain ⟨q, hr⟩ := hz lab ρ a w hR u hu
        cases hr
        exact ⟨_, by simp [Builtin.len_, run_underlying he, goInt], rfl, .int _ _ _⟩
      · cases h2
    · split at h2
      · rename_i he
        refine ⟨_, h2, fun lab ρ a w hR u hu => ?_⟩
        obtain ⟨q, hr⟩ := hz lab ρ a w hR u hu
        obtain rfl := hr.str_inv
        exact ⟨_, by simp [Builtin.len_, run_underlying he, goInt], rfl, .int _ _ _⟩
      · cases h2
    · cases h2
  · cases h
theorem partA_ok {p : Bool × List Lf} {y : A} (h : partA p = some y) {u : Value} (hu : RP w B lab ρ p u) : RA w B lab ρ y u := by
  unfold partA at h
  split at h
  · injection h with h
    subst h
    exact hu
  · rename_i z
    injection h with h
    subst h
    obtain ⟨u', hu', hr⟩ := hu.2 0 z rfl
    have : u = u' := by simpa using hu'
    subst this
    exact hr
  · cases h
theorem extK_ok {x : A} {i : Nat} {k : A -> Option X} (h : extK x i k = some r) : ∃ y, k y = some r /\ ∀ (w : World) (B : Nat) (lab : Lab) (ρ : Nat -> Loc) (u : Value), RA w B lab ρ x u ->
    ∃ v, (Instr.extract u i).run P w = .ok v w /\ RA w B lab ρ y v := by
  unfold extK at h
  split at h
  · rename_i xs
    split at h
    · rename_i y hy
      refine ⟨y, h, fun w B lab ρ u hu => ?_⟩
      obtain ⟨us, rfl, hs, hp⟩ := hu
      cases hx : xs[i]? with
      | none => rw [hx] at hy; cases hy
      | some p =>
        rw [hx] at hy
        obtain ⟨v, hv, hr⟩ := hp i p hx
        exact ⟨v, by simp [Instr.extract, hv], partA_ok hy hr⟩
    · cases h
  · cases h
end
end Go.Proofs.YtckjagaogcbedaaGreat
namespace Go.Proofs.YtckjagaogcbedaaGreat
open Go.RowKit
set_option linter.unusedVariables false
section
variable {P : Program} {w w' : World} {w0 : Wd} {B N : Nat} {lab lab' : Lab} {ρ ρ' : Nat -> Loc} {σ : S} {a : Act} {X : Type} {d : Nat}
theorem lastIs_of_suffix {k : List Nat} (h : [d] <:+ k) : lastIs d k = true := by
  obtain ⟨y, rfl⟩ := h
  simp [lastIs]
theorem suffix_of_lastIs {k : List Nat} (h : lastIs d k = true) : [d] <:+ k := by
  have h : k.getLast? = some d := by simpa [lastIs] using h
  obtain ⟨y, hy⟩ := List.getLast?_eq_some_iff.1 h
  exact ⟨y, hy.symm⟩
theorem lastIs_cons {j i s : Nat} {q : List Nat} (hq : q ≠ []) : lastIs d (j :: i :: s :: q) = lastIs d q := by
  cases q with
  | nil => exact absurd rfl hq
  | cons x q => simp [lastIs]
structure Remade (w w' : World) (lab lab' : Lab) (d : Nat) : Prop where
  size : w.heap.size <= w'.heap.size
  block : ∀ b, b < w.heap.size -> lab b ≠ some [d] -> w'.heap[b]? = w.heap[b]?
  labs : ∀ b, b < w.heap.size -> lab' b = lab b
  ne : ∀ b, lab b ≠ some []
theorem RV.remade {q : List Nat} {x : V} {v : Value} (h : RV w B lab q x v) (hw : Remade w w' lab lab' d) (hq : ¬ [d] <:+ q \/ x.fro = true) : RV w' B lab' q x v := by
  induction h with
  | int => exact .int _ _ _
  | bool => exact .bool _ _
  | str => exact .str _ _
  | nil => exact .nil _
  | slNil => exact .slNil _ _ _
  | slEmp => exact .slEmp _ _ _ _ _ (by first | assumption | omega)
  | slNon => exact .slNon _ _ _ _ _ (by first | assumption | omega)
  | fro q t o qn l b off cap u ho hl hb h1 hcap hc hr ih =>
    have hne : lab b ≠ some [d] := by rw [hl]; simp
    exact .fro _ _ _ _ _ _ _ _ u ho ((hw.labs b hb).trans hl) (Nat.lt_of_lt_of_le hb hw.size) h1 hcap (fun i h j x hx => (World.cell?_of_block (a := ⟨b, _, none⟩) (hw.block b hb hne)).trans (hc i h j x hx)) (fun i h j x hx => ih i h j x hx (.inr (enc_fro t o l[i] ho j x hx)))
  | own q t o qn l b cap cs u hl hh hs hn hm hc hr ih =>
    have hb : b < w.heap.size := (Array.getElem?_eq_some_iff.1 hh).1
    have hq' : ¬ [d] <:+ q := by
      rcases hq with hq | hq
      · exact hq
      · simp [V.fro] at hq; omega
    have hne : lab b ≠ some [d] := by
      rw [hl]
      intro e
      injection e with e
      exact hq' (by rw [e]; exact List.suffix_refl _)
    refine .own _ _ _ _ _ _ _ cs u ((hw.labs b hb).trans hl) ((hw.block b hb hne).trans hh) hs hn hm hc (fun i h j x hx => ih i h j x hx (.inl fun hs' => hq' ?_))
    have hq0 : q ≠ [] := by rintro rfl; exact hw.ne b hl
    exact suffix_of_lastIs ((lastIs_cons hq0).symm.trans (lastIs_of_suffix hs'))
theorem lastIs_suffix {k : List Nat} (h : lastIs d k = false) : ¬ [d] <:+ k := by
  rintro ⟨y, rfl⟩
  simp [lastIs] at h
theorem lastIs_tail {j i s : Nat} {q : List Nat} (hq : q ≠ []) (h : lastIs d (j :: i :: s :: q) = false) : lastIs d q = false := by
  cases q with
  | nil => exact absurd rfl hq
  | cons x q => simpa [lastIs] using h
theorem addrAt_remade (hw : Remade w w' lab lab' d) (hg : ∀ b k, lab b = some k -> b < w.heap.size) (hρ : ∀ r, r ≠ d -> ρ' r = ρ r) : ∀ (k : List Nat) (ad : Addr), lastIs d k = false -> addrAt w lab ρ k = some ad -> addrAt w' lab' ρ' k = some ad
  | [], _, _, h => h
  | [_], _, _, h => h
  | [_, _], _, _, h => h
  | [_, _, _], _, _, h => by simp only [addrAt] at h ⊢; exact h
  | [j, i, s, r], _, hd, h => by
    have hr : r ≠ d := by rintro rfl; simp [lastIs] at hd
    simp only [addrAt, hρ r hr] at h ⊢
    split at h
    · rename_i v b n c hr
      split at h
      · rename_i hl
        rw [if_pos ((hw.labs _ (hg _ _ hl)).trans hl)]
        exact h
      · cases h
    · cases h
  | j :: i :: s :: x :: y :: q, ad, hd, h => by
    have hd' := lastIs_tail (by simp) hd
    simp only [addrAt] at h ⊢
    cases ha : addrAt w lab ρ (x :: y :: q) with
    | none => rw [ha] at h; cases h
    | some ad' =>
      rw [addrAt_remade hw hg hρ _ _ hd' ha]
      rw [ha] at h
      cases hc : w.cell? ad' with
      | none => simp [hc] at h
      | some v =>
        have hne : lab ad'.block ≠ some [d] := by
          obtain ⟨j', i', s', q', e, hl, _⟩ := addrAt_lab _ _ ha
          rw [hl]
          intro e'
          injection e' with e'
          subst e'
          rw [e] at hd'
          simp [lastIs] at hd'
        have e : w'.cell? ad' = some v := (World.cell?_of_block (hw.block _ (block_lt_of_cell hc) hne)).trans hc
        simp only [Option.bind_some, hc] at h
        simp only [Option.bind_some, e]
        split at h
        · split at h
          · rename_i hl
            rw [if_pos ((hw.labs _ (hg _ _ hl)).trans hl)]
            exact h
          · cases h
        · cases h
theorem valAt_remade (hw : Remade w w' lab lab' d) (hg : ∀ b k, lab b = some k -> b < w.heap.size) (hρ : ∀ r, r ≠ d -> ρ' r = ρ r) (k : List Nat) (u : Value) (hd : lastIs d k = false) (h : valAt w lab ρ k = some u) : valAt w' lab' ρ' k = some u := by
  match k, hd, h with
  | [], _, h => simp [valAt, addrAt] at h
  | [r], hd, h =>
    have hr : r ≠ d := by rintro rfl; simp [lastIs] at hd
    simp only [valAt, hρ r hr] at h ⊢
    exact h
  | x :: y :: q, hd, h =>
    simp only [valAt] at h ⊢
    cases ha : addrAt w lab ρ (x :: y :: q) with
    | none => rw [ha] at h; cases h
    | some ad =>
      rw [addrAt_remade hw hg hρ _ _ hd ha]
      rw [ha] at h
      have h : w.cell? ad = some u := h
      have hne : lab ad.block ≠ some [d] := by
        obtain ⟨j', i', s', q', e, hl, _⟩ := addrAt_lab _ _ ha
        rw [hl]
        intro e'
        injection e' with e'
        subst e'
        rw [e] at hd
        simp [lastIs] at hd
      exact (World.cell?_of_block (hw.block _ (block_lt_of_cell h) hne)).trans h
theorem RLf.remade {x : Lf} {u : Value} (h : RLf w B lab ρ x u) (hw : Remade w w' lab lab' d) (hg : ∀ b k, lab b = some k -> b < w.heap.size) (hρ : ∀ r, r ≠ d -> ρ' r = ρ r) : RLf w' B lab' ρ' (x.drop d) u := by
  cases x with
  | v x => exact ⟨h.1, h.2.remade hw (.inr h.1)⟩
  | dead => trivial
  | own k =>
    have e : Lf.drop d (.own k) = (bif lastIs d k then .dead else .own k) := rfl
    rw [e]
    cases hl : lastIs d k with
    | true => trivial
    | false => exact ⟨h.1, valAt_remade hw hg hρ k u hl h.2⟩
theorem RLs.remade {cs : List Lf} {us : Array Value} (h : RLs w B lab ρ cs us) (hw : Remade w w' lab lab' d) (hg : ∀ b k, lab b = some k -> b < w.heap.size) (hρ : ∀ r, r ≠ d -> ρ' r = ρ r) : RLs w' B lab' ρ' (cs.map (Lf.drop d)) us := by
  refine ⟨by rw [List.length_map]; exact h.1, fun j x hx => ?_⟩
  rw [List.getElem?_map] at hx
  cases hy : cs[j]? with
  | none => rw [hy] at hx; cases hx
  | some y =>
    rw [hy] at hx
    injection hx with hx
    subst hx
    obtain ⟨u, hu, r⟩ := h.2 j y hy
    exact ⟨u, hu, r.remade hw hg hρ⟩
theorem RP.remade {p : Bool × List Lf} {u : Value} (h : RP w B lab ρ p u) (hw : Remade w w' lab lab' d) (hg : ∀ b k, lab b = some k -> b < w.heap.size) (hρ : ∀ r, r ≠ d -> ρ' r = ρ r) : RP w' B lab' ρ' (p.1, p.2.map (Lf.drop d)) u := by
  obtain ⟨b, cs⟩ := p
  cases b with
  | true => obtain ⟨us, e, h⟩ := h; exact ⟨us, e, h.remade hw hg hρ⟩
  | false => exact RLs.remade h hw hg hρ
theorem RA.remade {x : A} {u : Value} (h : RA w B lab ρ x u) (hw : Remade w w' lab lab' d) (hg : ∀ b k, lab b = some k -> b < w.heap.size) (hρ : ∀ r, r ≠ d -> ρ' r = ρ r) : RA w' B lab' ρ' (x.drop d) u := by
  cases x with
  | undef => trivial
  | skip => exact h
  | lf x => exact RLf.remade h hw hg hρ
  | agg cs => exact RP.remade (p := (true, cs)) h hw hg hρ
  | tup xs =>
    obtain ⟨us, e, hs, h⟩ := h
    refine ⟨us, e, by rw [List.length_map]; exact hs, fun j p hp => ?_⟩
    rw [List.getElem?_map] at hp
    cases hy : xs[j]? with
    | none => rw [hy] at hp; cases hp
    | some y =>
      rw [hy] at hp
      injection hp with hp
      subst hp
      obtain ⟨v, hv, r⟩ := h j y hy
      exact ⟨v, hv, r.remade hw hg hρ⟩
  | ptr k =>
    have e : A.drop d (.ptr k) = (bif lastIs d k then .undef else .ptr k) := rfl
    rw [e]
    cases hl : lastIs d k with
    | true => trivial
    | false => obtain ⟨ad, e, h⟩ := h; exact ⟨ad, e, addrAt_remade hw hg hρ k _ hl h⟩
  | view k s i j =>
    have e : A.drop d (.view k s i j) = (bif lastIs d k then .undef else .view k s i j) := rfl
    rw [e]
    cases hl : lastIs d k with
    | true => trivial
    | false => obtain ⟨A, n, c, h, g⟩ := h; exact ⟨A, n, c, valAt_remade hw hg hρ k _ hl h, g⟩
  | pk r n =>
    have e : A.drop d (.pk r n) = (bif Nat.beq r d then .undef else .pk r n) := rfl
    rw [e]
    cases hl : Nat.beq r d with
    | true => trivial
    | false =>
      have hr : r ≠ d := by rintro rfl; simp at hl
      obtain ⟨b, e, h⟩ := h
      exact ⟨b, (hρ r hr).trans e, h⟩
  | bptr r j =>
    have e : A.drop d (.bptr r j) = (bif Nat.beq r d then .undef else .bptr r j) := rfl
    rw [e]
    cases hl : Nat.beq r d with
    | true => trivial
    | false =>
      have hr : r ≠ d := by rintro rfl; simp at hl
      obtain ⟨b, off, e, h⟩ := h
      exact ⟨b, off, (hρ r hr).trans e, h⟩
  | fptr cs =>
    obtain ⟨b, off, e, hb, hl, h⟩ := h
    have hne : lab b ≠ some [d] := by rw [hl]; simp
    refine ⟨b, off, e, Nat.lt_of_lt_of_le hb hw.size, (hw.labs b hb).trans hl, fun j x hx => ?_⟩
    obtain ⟨hf, v, hv, hr⟩ := h j x hx
    exact ⟨hf, v, (World.cell?_of_block (a := ⟨b, _, none⟩) (hw.block b hb hne)).trans hv, hr.remade hw (.inr hf)⟩
  | ffn f cs =>
    obtain ⟨pv, e0, h⟩ := h
    refine ⟨pv, e0, ?_⟩
    obtain ⟨b, off, e, hb, hl, h⟩ := h
    have hne : lab b ≠ some [d] := by rw [hl]; simp
    refine ⟨b, off, e, Nat.lt_of_lt_of_le hb hw.size, (hw.labs b hb).trans hl, fun j x hx => ?_⟩
    obtain ⟨hf, v, hv, hr⟩ := h j x hx
    exact ⟨hf, v, (World.cell?_of_block (a := ⟨b, _, none⟩) (hw.block b hb hne)).trans hv, hr.remade hw (.inr hf)⟩
  | fn f cap =>
    have e : A.drop d (.fn f cap) = (bif cap.any (fun p => Nat.beq p.1 d) then .undef else .fn f cap) := rfl
    rw [e]
    cases hl : cap.any (fun p => Nat.beq p.1 d) with
    | true => trivial
    | false =>
      obtain ⟨vs, e, hs, h⟩ := h
      refine ⟨vs, e, hs, fun j p hp => ?_⟩
      obtain ⟨b, off, e2, h2⟩ := h j p hp
      have hr : p.1 ≠ d := by
        rintro rfl
        have := List.any_eq_false.1 hl p (List.mem_of_getElem? hp)
        simp at this
      exact ⟨b, off, (hρ _ hr).trans e2, h2⟩
theorem RootOK.remade {r : Nat} (hr : r ≠ d) {x : Root} (h : RootOK w B lab ρ r x) (hw : Remade w w' lab lab' d) (hg : ∀ b k, lab b = some k -> b < w.heap.size) (hρ : ∀ r, r ≠ d -> ρ' r = ρ r) : RootOK w' B lab' ρ' r (x.drop d) := by
  have hs1 : ¬ [d] <:+ [r] := not_suffix_one (fun e => hr e.symm)
  cases h with
  | blk b off cells e cs us hρ1 hl hh hs hc =>
    have hb : b < w.heap.size := (Array.getElem?_eq_some_iff.1 hh).1
    have hne : lab b ≠ some [d] := by
      rw [hl]
      intro e
      injection e with e
      injection e with e
      exact hr e
    refine .blk b off cells e _ us ((hρ r hr).trans hρ1) ((hw.labs b hb).trans hl) ((hw.block b hb hne).trans hh) (by rw [List.length_map]; exact hs) (fun j x hx => ?_)
    rw [List.getElem?_map] at hx
    cases hy : cs[j]? with
    | none => rw [hy] at hx; cases hx
    | some y =>
      rw [hy] at hx
      injection hx with hx
      subst hx
      exact ⟨(hc j y hy).1, (hc j y hy).2.remade hw hg hρ⟩
  | sl v y hρ1 hr1 => exact .sl v y ((hρ r hr).trans hρ1) (hr1.remade hw (.inl hs1))
  | mp b c es l hρ1 hl hh he =>
    have hb : b < w.heap.size := (Array.getElem?_eq_some_iff.1 hh).1
    have hne : lab b ≠ some [d] := by
      rw [hl]
      intro e
      injection e with e
      injection e with e
      exact hr e
    exact .mp b c es l ((hρ r hr).trans hρ1) ((hw.labs b hb).trans hl) ((hw.block b hb hne).trans hh) he
  | gh us xs hρ1 hx =>
    refine .gh us _ ((hρ r hr).trans hρ1) (fun j x hj => ?_)
    rw [List.getElem?_map] at hj
    cases hy : xs[j]? with
    | none => rw [hy] at hj; cases hj
    | some y =>
      rw [hy] at hj
      injection hj with hj
      subst hj
      exact (hx j y hy).remade hw hg hρ
theorem Rl.remake {x : Root} (h : Rl w0 N lab ρ σ a w) (hF : w0.F d = none) (hb : BelowS w0 w w') (hw : Remade w w' lab lab' d) (hg : ∀ b k, w.heap.size <= b -> lab' b = some k -> b < w'.heap.size /\ k ≠ []) (hρ : ∀ r, r ≠ d -> ρ' r = ρ r) (hx : RootOK w' w0.heap.size lab' ρ' d x) :
    Rl w0 N lab' ρ' ((σ.drop d).root d x) a w' := by
  have hg' : ∀ b k, lab b = some k -> b < w.heap.size := fun b k hb => (h.lab_ge b k hb).2.1
  refine ⟨h.below.trans hb, fun b k hbk => ?_, fun r y hy => ?_, fun k => (h.tmp k).remade hw hg' hρ, h.size, h.defers, fun r l' hr => (hρ r (by rintro rfl; rw [hF] at hr; cases hr)).trans (h.fix r l' hr), h.lim⟩
  · rcases Nat.lt_or_ge b w.heap.size with hlt | hge
    · rw [hw.labs b hlt] at hbk
      have := h.lab_ge b k hbk
      exact ⟨this.1, Nat.lt_of_lt_of_le this.2.1 hw.size, this.2.2⟩
    · have := hg b k hge hbk
      exact ⟨.inl (Nat.le_trans h.below.size hge), this.1, this.2⟩
  · by_cases hr : r = d
    · subst hr
      have hy : (upd (σ.drop r).m r (some x)) r = some y := hy
      rw [upd_same] at hy
      injection hy with hy
      subst hy
      exact hx
    · have hy : (upd (σ.drop d).m d (some x)) r = some y := hy
      rw [upd_ne _ _ _ hr] at hy
      have hb : Nat.beq r d = false := by
        cases hb : Nat.beq r d with
        | false => rfl
        | true => exact absurd (Nat.eq_of_beq_eq_true hb) hr
      simp only [S.drop, hb, cond_false] at hy
      cases hm : σ.m r with
      | none => rw [hm] at hy; cases hy
      | some z =>
        rw [hm] at hy
        injection hy with hy
        subst hy
        exact (h.root r z hm).remade hr hw hg' hρ
end
end Go.Proofs.YtckjagaogcbedaaGreat
namespace Go.Proofs.YtckjagaogcbedaaGreat
open Go.RowKit
set_option linter.unusedVariables false
def rek (q : Nat) (nk k : List Nat) : List Nat := bif lastIs q k then k.dropLast ++ nk else k
def Lab.rek (lab : Lab) (q : Nat) (nk : List Nat) : Lab := fun b => (lab b).map (Proofs.YtckjagaogcbedaaGreat.rek q nk)
section
variable {P : Program} {w w' : World} {w0 : Wd} {B N : Nat} {lab lab' : Lab} {ρ ρ' : Nat -> Loc} {σ : S} {a : Act} {X : Type} {d q : Nat} {nk : List Nat}
theorem rek_self : rek q nk [q] = nk := by simp [rek, lastIs]
theorem rek_other {k : List Nat} (h : lastIs q k = false) : rek q nk k = k := by simp [rek, h]
theorem rek_cons {j i s : Nat} {k : List Nat} (hk : k ≠ []) : rek q nk (j :: i :: s :: k) = j :: i :: s :: rek q nk k := by
  unfold rek
  rw [lastIs_cons hk]
  cases lastIs q k with
  | false => rfl
  | true =>
    cases k with
    | nil => exact absurd rfl hk
    | cons x k => simp
theorem rek_ne {k : List Nat} (hn : nk ≠ []) (hk : k ≠ []) : rek q nk k ≠ [] := by
  unfold rek
  cases lastIs q k with
  | false => simpa using hk
  | true => simp [hn]
theorem Lab.rek_none {b : Nat} (h : lab b = none) : lab.rek q nk b = none := by simp [Lab.rek, h]
theorem Lab.rek_some {b : Nat} {k : List Nat} (h : lab b = some k) : lab.rek q nk b = some (Proofs.YtckjagaogcbedaaGreat.rek q nk k) := by simp [Lab.rek, h]
theorem Lab.rek_keep {b : Nat} {k : List Nat} (h : lab b = some k) (hk : lastIs q k = false) : lab.rek q nk b = some k := by rw [Lab.rek_some h, rek_other hk]
theorem RV.rek {k : List Nat} {x : V} {v : Value} (h : RV w B lab k x v) (hne : ∀ b, lab b ≠ some []) : RV w B (lab.rek q nk) (Proofs.YtckjagaogcbedaaGreat.rek q nk k) x v := by
  induction h with
  | int => exact .int _ _ _
  | bool => exact .bool _ _
  | str => exact .str _ _
  | nil => exact .nil _
  | slNil => exact .slNil _ _ _
  | slEmp => exact .slEmp _ _ _ _ _ (by first | assumption | omega)
  | slNon => exact .slNon _ _ _ _ _ (by first | assumption | omega)
  | fro k t o qn l b off cap u ho hl hb h1 hcap hc hr ih =>
    exact .fro _ _ _ _ _ _ _ _ u ho (Lab.rek_none hl) hb h1 hcap hc (fun i h j x hx => ih i h j x hx)
  | own k t o qn l b cap cs u hl hh hs hn hm hc hr ih =>
    have hk : k ≠ [] := by rintro rfl; exact hne b hl
    refine .own _ _ _ _ _ _ _ cs u (Lab.rek_some hl) hh hs hn hm hc (fun i h j x hx => ?_)
    have := ih i h j x hx
    rw [rek_cons hk] at this
    exact this
structure Rel (q : Nat) (lab lab' : Lab) : Prop where
  ne : ∀ b, lab b ≠ some []
  none : ∀ b, lab b = none -> lab' b = Option.none
  keep : ∀ b k, lab b = some k -> lastIs q k = false -> lab' b = some k
theorem rel_rek (hne : ∀ b, lab b ≠ some []) : Rel q lab (lab.rek q nk) := ⟨hne, fun _ h => Lab.rek_none h, fun _ _ h hk => Lab.rek_keep h hk⟩
theorem RV.rel (hr0 : Rel q lab lab') {k : List Nat} {x : V} {v : Value} (h : RV w B lab k x v) (hk : lastIs q k = false \/ x.fro = true) : RV w B lab' k x v := by
  induction h with
  | int => exact .int _ _ _
  | bool => exact .bool _ _
  | str => exact .str _ _
  | nil => exact .nil _
  | slNil => exact .slNil _ _ _
  | slEmp => exact .slEmp _ _ _ _ _ (by first | assumption | omega)
  | slNon => exact .slNon _ _ _ _ _ (by first | assumption | omega)
  | fro k t o qn l b off cap u ho hl hb h1 hcap hc hr ih =>
    exact .fro _ _ _ _ _ _ _ _ u ho (hr0.none _ hl) hb h1 hcap hc (fun i h j x hx => ih i h j x hx (.inr (enc_fro t o l[i] ho j x hx)))
  | own k t o qn l b cap cs u hl hh hs hn hm hc hr ih =>
    have hk' : lastIs q k = false := by
      rcases hk with hk | hk
      · exact hk
      · simp [V.fro] at hk; omega
    refine .own _ _ _ _ _ _ _ cs u (hr0.keep _ _ hl hk') hh hs hn hm hc (fun i h j x hx => ih i h j x hx ?_)
    cases k with
    | nil => exact absurd hl (hr0.ne b)
    | cons z k => exact .inl (by rw [lastIs_cons (by simp)]; exact hk')
theorem addrAt_rel (hr0 : Rel q lab lab') : ∀ (k : List Nat) (ad : Addr), lastIs q k = false -> addrAt w lab ρ k = some ad -> addrAt w lab' ρ k = some ad
  | [], _, _, h => h
  | [_], _, _, h => h
  | [_, _], _, _, h => h
  | [_, _, _], _, _, h => by simp only [addrAt] at h ⊢; exact h
  | [j, i, s, r], _, hd, h => by
    have hr : lastIs q [r] = false := by simpa [lastIs] using hd
    simp only [addrAt] at h ⊢
    split at h
    · rename_i v b n c e
      split at h
      · rename_i hl
        rw [if_pos (hr0.keep _ _ hl hr)]
        exact h
      · cases h
    · cases h
  | j :: i :: s :: x :: y :: k, ad, hd, h => by
    have hd' : lastIs q (x :: y :: k) = false := by simpa [lastIs] using hd
    simp only [addrAt] at h ⊢
    cases ha : addrAt w lab ρ (x :: y :: k) with
    | none => rw [ha] at h; cases h
    | some ad' =>
      rw [addrAt_rel hr0 _ _ hd' ha]
      rw [ha] at h
      split at h
      · rename_i v b n c e
        split at h
        · rename_i hl
          rw [if_pos (hr0.keep _ _ hl hd')]
          exact h
        · cases h
      · cases h
theorem valAt_rel (hr0 : Rel q lab lab') (k : List Nat) (u : Value) (hd : lastIs q k = false) (h : valAt w lab ρ k = some u) : valAt w lab' ρ k = some u := by
  match k, hd, h with
  | [], _, h => simp [valAt, addrAt] at h
  | [r], _, h => exact h
  | x :: y :: k, hd, h =>
    simp only [valAt] at h ⊢
    cases ha : addrAt w lab ρ (x :: y :: k) with
    | none => rw [ha] at h; cases h
    | some ad =>
      rw [addrAt_rel hr0 _ _ hd ha]
      rw [ha] at h
      exact h
theorem RLf.rel (hr0 : Rel q lab lab') {x : Lf} {u : Value} (h : RLf w B lab ρ x u) : RLf w B lab' ρ (x.drop q) u := by
  cases x with
  | v x => exact ⟨h.1, h.2.rel hr0 (.inr h.1)⟩
  | dead => trivial
  | own k =>
    have e : Lf.drop q (.own k) = (bif lastIs q k then .dead else .own k) := rfl
    rw [e]
    cases hl : lastIs q k with
    | true => trivial
    | false => exact ⟨h.1, valAt_rel hr0 k u hl h.2⟩
theorem RLs.rel (hr0 : Rel q lab lab') {cs : List Lf} {us : Array Value} (h : RLs w B lab ρ cs us) : RLs w B lab' ρ (cs.map (Lf.drop q)) us := by
  refine ⟨by rw [List.length_map]; exact h.1, fun j x hx => ?_⟩
  rw [List.getElem?_map] at hx
  cases hy : cs[j]? with
  | none => rw [hy] at hx; cases hx
  | some y =>
    rw [hy] at hx
    injection hx with hx
    subst hx
    obtain ⟨u, hu, r⟩ := h.2 j y hy
    exact ⟨u, hu, r.rel hr0⟩
theorem RP.rel (hr0 : Rel q lab lab') {p : Bool × List Lf} {u : Value} (h : RP w B lab ρ p u) : RP w B lab' ρ (p.1, p.2.map (Lf.drop q)) u := by
  obtain ⟨b, cs⟩ := p
  cases b with
  | true => obtain ⟨us, e, h⟩ := h; exact ⟨us, e, h.rel hr0⟩
  | false => exact RLs.rel hr0 h
theorem RA.rel (hr0 : Rel q lab lab') {x : A} {u : Value} (h : RA w B lab ρ x u) : RA w B lab' ρ (x.drop q) u := by
  cases x with
  | undef => trivial
  | skip => exact h
  | lf x => exact RLf.rel hr0 h
  | agg cs => exact RP.rel hr0 (p := (true, cs)) h
  | tup xs =>
    obtain ⟨us, e, hs, h⟩ := h
    refine ⟨us, e, by rw [List.length_map]; exact hs, fun j p hp => ?_⟩
    rw [List.getElem?_map] at hp
    cases hy : xs[j]? with
    | none => rw [hy] at hp; cases hp
    | some y =>
      rw [hy] at hp
      injection hp with hp
      subst hp
      obtain ⟨v, hv, r⟩ := h j y hy
      exact ⟨v, hv, r.rel hr0⟩
  | ptr k =>
    have e : A.drop q (.ptr k) = (bif lastIs q k then .undef else .ptr k) := rfl
    rw [e]
    cases hl : lastIs q k with
    | true => trivial
    | false => obtain ⟨ad, e, h⟩ := h; exact ⟨ad, e, addrAt_rel hr0 k ad hl h⟩
  | view k s i j =>
    have e : A.drop q (.view k s i j) = (bif lastIs q k then .undef else .view k s i j) := rfl
    rw [e]
    cases hl : lastIs q k with
    | true => trivial
    | false => obtain ⟨A, n, c, h, r⟩ := h; exact ⟨A, n, c, valAt_rel hr0 k _ hl h, r⟩
  | bptr r j =>
    have e : A.drop q (.bptr r j) = (bif Nat.beq r q then .undef else .bptr r j) := rfl
    rw [e]
    cases hl : Nat.beq r q with
    | true => trivial
    | false => exact h
  | pk r n =>
    have e : A.drop q (.pk r n) = (bif Nat.beq r q then .undef else .pk r n) := rfl
    rw [e]
    cases hl : Nat.beq r q with
    | true => trivial
    | false => exact h
  | fptr cs =>
    obtain ⟨b, off, e, hb, hl, h⟩ := h
    refine ⟨b, off, e, hb, hr0.none _ hl, fun j x hx => ?_⟩
    obtain ⟨hf, v, hv, hr⟩ := h j x hx
    exact ⟨hf, v, hv, hr.rel hr0 (.inr hf)⟩
  | ffn f cs =>
    obtain ⟨pv, e0, h⟩ := h
    refine ⟨pv, e0, ?_⟩
    obtain ⟨b, off, e, hb, hl, h⟩ := h
    refine ⟨b, off, e, hb, hr0.none _ hl, fun j x hx => ?_⟩
    obtain ⟨hf, v, hv, hr⟩ := h j x hx
    exact ⟨hf, v, hv, hr.rel hr0 (.inr hf)⟩
  | fn f cap =>
    have e : A.drop q (.fn f cap) = (bif cap.any (fun p => Nat.beq p.1 q) then .undef else .fn f cap) := rfl
    rw [e]
    cases hl : cap.any (fun p => Nat.beq p.1 q) with
    | true => trivial
    | false => exact h
theorem RootOK.rel (hr0 : Rel q lab lab') {r : Nat} (hr : r ≠ q) {x : Root} (h : RootOK w B lab ρ r x) : RootOK w B lab' ρ r (x.drop q) := by
  have hs1 : lastIs q [r] = false := by simpa [lastIs] using fun e => hr e
  cases h with
  | blk b off cells e cs us hρ1 hl hh hs hc =>
    refine .blk b off cells e _ us hρ1 (hr0.keep _ _ hl hs1) hh (by rw [List.length_map]; exact hs) (fun j x hx => ?_)
    rw [List.getElem?_map] at hx
    cases hy : cs[j]? with
    | none => rw [hy] at hx; cases hx
    | some y =>
      rw [hy] at hx
      injection hx with hx
      subst hx
      exact ⟨(hc j y hy).1, (hc j y hy).2.rel hr0⟩
  | sl v y hρ1 hr1 => exact .sl v y hρ1 (hr1.rel hr0 (.inl hs1))
  | mp b c es l hρ1 hl hh he => exact .mp b c es l hρ1 (hr0.keep _ _ hl hs1) hh he
  | gh us xs hρ1 hx =>
    refine .gh us _ hρ1 (fun j x hj => ?_)
    rw [List.getElem?_map] at hj
    cases hy : xs[j]? with
    | none => rw [hy] at hj; cases hj
    | some y =>
      rw [hy] at hj
      injection hj with hj
      subst hj
      exact (hx j y hy).rel hr0
theorem Rl.lab_ne (h : Rl w0 N lab ρ σ a w) : ∀ b, lab b ≠ some [] := fun b hb => (h.lab_ge b [] hb).2.2 rfl
theorem Rl.rel (h : Rl w0 N lab ρ σ a w) (hr0 : Rel q lab lab') (hg : ∀ b k, lab' b = some k -> (∃ k', lab b = some k') /\ k ≠ []) : Rl w0 N lab' ρ (σ.drop q) a w := by
  refine ⟨h.below, fun b k hbk => ?_, fun r x hx => ?_, fun k => (h.tmp k).rel hr0, h.size, h.defers, h.fix, h.lim⟩
  · obtain ⟨⟨k', hl⟩, hk⟩ := hg b k hbk
    have := h.lab_ge b k' hl
    exact ⟨this.1, this.2.1, hk⟩
  · have hx : (bif Nat.beq r q then none else (σ.m r).map (Root.drop q)) = some x := hx
    cases hb : Nat.beq r q with
    | true => rw [hb] at hx; cases hx
    | false =>
      rw [hb, cond_false] at hx
      have hr' : r ≠ q := by rintro rfl; simp at hb
      cases hm' : σ.m r with
      | none => rw [hm'] at hx; cases hx
      | some y =>
        rw [hm'] at hx
        injection hx with hx
        subst hx
        exact (h.root r y hm').rel hr0 hr'
theorem Rl.graft {z : V} (h : Rl w0 N lab ρ σ a w) (hm : σ.m q = some (.sl z)) (hn : nk ≠ []) : ∃ u, ρ q = .hdr u /\ Rl w0 N (lab.rek q nk) ρ (σ.drop q) a w /\ RV w w0.heap.size (lab.rek q nk) nk z u := by
  have hne := h.lab_ne
  have hq := h.root q _ hm
  generalize he : Root.sl z = x at hq
  cases hq with
  | blk => cases he
  | mp => cases he
  | gh => cases he
  | sl u y hρ hr =>
    injection he with he
    subst he
    refine ⟨u, hρ, h.rel (rel_rek hne) fun b k hbk => ?_, ?_⟩
    · unfold Lab.rek at hbk
      cases hl : lab b with
      | none => rw [hl] at hbk; cases hbk
      | some k' =>
        rw [hl] at hbk
        injection hbk with hbk
        subst hbk
        exact ⟨⟨k', rfl⟩, rek_ne hn (fun e => hne b (by rw [hl, e]))⟩
    · have := hr.rek (q := q) (nk := nk) hne
      rwa [rek_self] at this
def absorb (r : Nat) (key : Nat -> List Nat) : Nat -> Nat -> List Lf -> S -> Option (List V × S)
  | _, _, [], σ => some ([], σ)
  | f + 1, j, .v x :: xs, σ => (absorb r key f (j + 1) xs σ).map fun p => (x :: p.1, p.2)
  | f + 1, j, .own [q] :: xs, σ => match σ.m q with
    | some (.sl z) => bif Nat.beq q r then none else (absorb r key f (j + 1) (xs.map (Lf.drop q)) (σ.drop q)).map fun p => (z :: p.1, p.2)
    | _ => none
  | _, _, _, _ => none
theorem absorb_ok {r : Nat} {key : Nat -> List Nat} (hkey : ∀ j, lastIs r (key j) = true) : ∀ (f j : Nat) (xs : List Lf) (σ τ : S) (vs : List V), absorb r key f j xs σ = some (vs, τ) -> ∀ lab ρ a w, Rl w0 N lab ρ σ a w -> ∀ us : List Value, RLs w w0.heap.size lab ρ xs us.toArray ->
    ∃ lab', Rl w0 N lab' ρ τ a w /\ vs.length = xs.length /\ (∀ (n : Nat) x, vs[n]? = some x -> ∃ u, us[n]? = some u /\ RV w w0.heap.size lab' (key (j + n)) x u) /\ (∀ k x v, lastIs r k = true -> RV w w0.heap.size lab k x v -> RV w w0.heap.size lab' k x v) /\
      (∀ x, σ.m r = some (.sl x) -> τ.m r = some (.sl x)) /\ (∀ k u, lastIs r k = true -> valAt w lab ρ k = some u -> valAt w lab' ρ k = some u) /\ (∀ b, lab b = some [r] -> lab' b = some [r]) /\ (∀ b, lab b = none -> lab' b = none)
  | 0, j, [], σ, τ, vs, h, lab, ρ, a, w, hR, us, hu => by
    simp only [absorb, Option.some.injEq, Prod.mk.injEq] at h
    obtain ⟨rfl, rfl⟩ := h
    exact ⟨lab, hR, rfl, by simp, fun _ _ _ _ h => h, fun _ h => h, fun _ _ _ h => h, fun _ h => h, fun _ h => h⟩
  | f + 1, j, [], σ, τ, vs, h, lab, ρ, a, w, hR, us, hu => by
    simp only [absorb, Option.some.injEq, Prod.mk.injEq] at h
    obtain ⟨rfl, rfl⟩ := h
    exact ⟨lab, hR, rfl, by simp, fun _ _ _ _ h => h, fun _ h => h, fun _ _ _ h => h, fun _ h => h, fun _ h => h⟩
  | 0, j, x :: xs, σ, τ, vs, h, lab, ρ, a, w, hR, us, hu => by simp [absorb] at h
  | f + 1, j, x :: xs, σ, τ, vs, h, lab, ρ, a, w, hR, us, hu => by
    obtain ⟨u0, us, rfl⟩ : ∃ u0 us', us = u0 :: us' := by
      cases us with
      | nil => have := hu.1; simp at this
      | cons u0 us => exact ⟨_, _, rfl⟩
    have hu0 : RLf w w0.heap.size lab ρ x u0 := by
      obtain ⟨u, e, h⟩ := hu.2 0 x rfl
      simp at e
      subst e
      exact h
    have hus : RLs w w0.heap.size lab ρ xs us.toArray := ⟨by have := hu.1; simpa using this, fun n y hy => by
      obtain ⟨u, e, h⟩ := hu.2 (n + 1) y hy
      exact ⟨u, by simpa using e, h⟩⟩
    cases x with
    | v x =>
      simp only [absorb, Option.map_eq_some_iff] at h
      obtain ⟨⟨vs', τ'⟩, h, e⟩ := h
      simp only [Prod.mk.injEq] at e
      obtain ⟨rfl, rfl⟩ := e
      obtain ⟨lab', h1, h2, h3, h4, h5⟩ := absorb_ok hkey f (j + 1) xs σ τ' vs' h lab ρ a w hR us hus
      refine ⟨lab', h1, by simp [h2], fun n y hy => ?_, h4, h5⟩
      cases n with
      | zero =>
        simp at hy
        subst hy
        refine ⟨u0, rfl, h4 _ _ _ (hkey _) (hu0.2.key hu0.1)⟩
      | succ n =>
        obtain ⟨u, e, h⟩ := h3 n y (by simpa using hy)
        exact ⟨u, by simpa using e, by rw [show j + (n + 1) = j + 1 + n by omega]; exact h⟩
    | dead => simp [absorb] at h
    | own k =>
      match k, hu0, h with
      | [], _, h => simp [absorb] at h
      | _ :: _ :: _, _, h => simp [absorb] at h
      | [q], hu0, h =>
        simp only [absorb] at h
        split at h
        · rename_i z hz
          cases hqr : Nat.beq q r with
          | true => rw [hqr] at h; cases h
          | false =>
            rw [hqr, cond_false, Option.map_eq_some_iff] at h
            obtain ⟨⟨vs', τ'⟩, hrec, e⟩ := h
            simp only [Prod.mk.injEq] at e
            obtain ⟨rfl, rfl⟩ := e
            have hne : q ≠ r := by rintro rfl; simp at hqr
            have hkj : key j ≠ [] := by intro e; have := hkey j; rw [e] at this; simp [lastIs] at this
            obtain ⟨u, hρ, hR', hrv⟩ := hR.graft hz hkj
            have huu : u = u0 := by
              have h4 := hu0.2
              simp only [valAt, hρ] at h4
              injection h4
            subst huu
            have hl0 : ∀ k, lastIs r k = true -> lastIs q k = false := by
              intro k hk
              cases hq : lastIs q k with
              | false => rfl
              | true =>
                exfalso
                have h1 := suffix_of_lastIs hk
                have h2 := suffix_of_lastIs hq
                exact hne (last_suffix h1 h2)
            obtain ⟨lab', h1, h2, h3, h4, h5, h6, h7, h8⟩ := absorb_ok hkey f (j + 1) (xs.map (Lf.drop q)) (σ.drop q) τ' vs' hrec _ ρ a w hR' us (hus.rel (rel_rek hR.lab_ne))
            refine ⟨lab', h1, by simp [h2], fun n y hy => ?_, fun k x v hk hv => h4 _ _ _ hk (hv.rel (rel_rek hR.lab_ne) (.inl (hl0 k hk))), fun x hx => h5 x ?_, fun k v hk hv => h6 k v hk (valAt_rel (rel_rek hR.lab_ne) k v (hl0 k hk) hv), fun b hb => h7 b (Lab.rek_keep hb (by simpa [lastIs] using fun e => hne e.symm)), fun b hb => h8 b (Lab.rek_none hb)⟩
            · cases n with
              | zero =>
                simp at hy
                subst hy
                exact ⟨u, rfl, h4 _ _ _ (hkey _) hrv⟩
              | succ n =>
                obtain ⟨u, e, h⟩ := h3 n y (by simpa using hy)
                exact ⟨u, by simpa using e, by rw [show j + (n + 1) = j + 1 + n by omega]; exact h⟩
            · have hb : Nat.beq r q = false := by
                cases hb : Nat.beq r q with
                | false => rfl
                | true => exact absurd (Nat.eq_of_beq_eq_true hb).symm hne
              simp only [S.drop, hb, cond_false, hx, Option.map_some, Root.drop]
        · cases h
end
end Go.Proofs.YtckjagaogcbedaaGreat
namespace Go.Proofs.YtckjagaogcbedaaGreat
open Go.RowKit
set_option linter.unusedVariables false
def zeroLf : Value -> Lf
  | .int k n => .v (.int k n)
  | .bool b => .v (.bool b)
  | .string s => .v (.str s)
  | .slice none 0 0 => .v .nil
  | _ => .dead
def zeroV : Value -> Option V
  | .int k n => some (.int k n)
  | .bool b => some (.bool b)
  | .string s => some (.str s)
  | .slice none 0 0 => some .nil
  | _ => none
def zerosV : List Value -> Option (List V)
  | [] => some []
  | v :: vs => match zeroV v, zerosV vs with
    | some x, some xs => some (x :: xs)
    | _, _ => none
def zeroOf (P : Program) (e : TypeId) : Option Value := (P.info? e).bind (·.zero)
def bytesOf (P : Program) (e : TypeId) : Option Nat := (P.info? e).map (·.bytes)
def newK {X : Type} (N : Nat) (σ : S) (d : Nat) (x : Root) (y : A) (k : S -> Option X) : Option X :=
  bif Nat.blt d N then k (((σ.drop d).root d x).set d y) else none
def allocK {X : Type} (P : Program) (N : Nat) (σ : S) (d : Nat) (e : TypeId) (k : S -> Option X) : Option X :=
  match zeroOf P e with
  | some z => newK N σ d (.blk (z.cells.toList.map zeroLf)) (.bptr d 0) k
  | none => none
def elemInfo (P : Program) (t : TypeId) : Option (TypeId × TC) :=
  match elemT P t with
  | none => none
  | some e => match tcOf e, szOf P e, bytesOf P e with
    | some tc, some n, some b => bif Nat.beq n (csz tc) && Nat.ble b 65536 then some (e, tc) else none
    | _, _, _ => none
def zeroT (P : Program) (e : TypeId) (tc : TC) : Option (T tc) :=
  match zeroOf P e with
  | none => none
  | some z => match zerosV z.cells.toList with
    | none => none
    | some vs => dec tc (full tc) vs
def makeK {X : Type} (P : Program) (N : Nat) (σ : S) (d : Nat) (t : TypeId) (l c : A) (k : S -> Option X) : Option X :=
  match elemInfo P t, l, c with
  | some (e, tc), .lf (.v (.int _ n)), .lf (.v (.int _ c)) => match zeroT P e tc with
    | none => none
    | some z => if 0 <= n /\ n <= c /\ c < 1073741824 then newK N σ d (.sl (.sl tc (full tc + 2) false (List.replicate n.toNat z))) (.lf (.own [d])) k else none
  | _, _, _ => none
def V.els (t : TC) : V -> Option (List (T t))
  | .sl t' _ _ l => if h : t' = t then some (h ▸ l) else none
  | .nil => some []
  | _ => none
def appK {X : Type} (P : Program) (N : Nat) (σ : S) (d : Nat) (t : TypeId) (x y : A) (k : S -> Option X) : Option X :=
  match elemInfo P t with
  | some (e, tc) => bif Nat.beq (full tc) 0 && (zeroOf P e).any (fun z => Nat.beq z.cells.size (csz tc)) then yvK σ y fun yv => (match yv.els tc with
    | none => none
    | some l2 => match x with
      | .lf (.v .nil) => bif okLen l2.length then newK N σ d (.sl (.sl tc 2 false l2)) (.lf (.own [d])) k else none
      | .lf (.own [r]) => (match σ.m r with
        | some (.sl (.sl t' (o + 2) q l)) => if h : t' = tc then (bif Nat.blt d N && (Nat.blt r N || Nat.ble 60000 r) && okLen (l.length + l2.length) then k (((σ.drop r).root r (.sl (.sl tc (o + 2) false ((h ▸ l) ++ l2)))).set d (.lf (.own [r]))) else none) else none
        | _ => none)
      | _ => none) else none
  | none => none
section
variable {P : Program} {w w' : World} {w0 : Wd} {B N : Nat} {lab lab' : Lab} {ρ ρ' : Nat -> Loc} {σ : S} {a : Act} {X : Type} {d : Nat} {r : X}
theorem zeroLf_ok (v : Value) : RLf w B lab ρ (zeroLf v) v := by
  unfold zeroLf
  split
  · exact ⟨rfl, .int _ _ _⟩
  · exact ⟨rfl, .bool _ _⟩
  · exact ⟨rfl, .str _ _⟩
  · exact ⟨rfl, .nil _⟩
  · trivial
theorem zeroV_ok {v : Value} {x : V} (h : zeroV v = some x) (q : List Nat) : RV w B lab q x v := by
  unfold zeroV at h
  split at h <;> first | (injection h with h; subst h; first | exact .int _ _ _ | exact .bool _ _ | exact .str _ _ | exact .nil _) | cases h
theorem zerosV_ok : ∀ (vs : List Value) (xs : List V), zerosV vs = some xs -> xs.length = vs.length /\ ∀ (j : Nat) x, xs[j]? = some x -> ∃ v, vs[j]? = some v /\ zeroV v = some x
  | [], xs, h => by
    simp [zerosV] at h
    subst h
    simp
  | v :: vs, xs, h => by
    unfold zerosV at h
    split at h
    · rename_i y ys hy hys
      injection h with h
      subst h
      obtain ⟨h1, h2⟩ := zerosV_ok vs ys hys
      refine ⟨by simp [h1], fun j x hx => ?_⟩
      cases j with
      | zero => simp at hx; subst hx; exact ⟨v, rfl, hy⟩
      | succ j => simp at hx; simpa using h2 j x hx
    · cases h
theorem BelowS.allocd (w0 : Wd) (w : World) (o : Obj) (h : w0.heap.size <= w.heap.size) : BelowS w0 w (w.alloc o) := .of ((Below.refl w0.heap.size w).alloc h o) (Nat.le_refl _)
theorem Rl.newBlk {c : Array Value} {e : TypeId} {x : Root} {ρ' : Nat -> Loc} (h : Rl w0 N lab ρ σ a w) (hF : w0.F d = none) (hρ : ∀ r, r ≠ d -> ρ' r = ρ r)
    (hx : RootOK (w.alloc (.cells c e)) w0.heap.size (upd lab w.heap.size (some [d])) ρ' d x) : Rl w0 N (upd lab w.heap.size (some [d])) ρ' ((σ.drop d).root d x) a (w.alloc (.cells c e)) := by
  refine h.remake hF (BelowS.allocd w0 w _ h.below.size) ⟨by simp, fun b hb _ => Below.heap_alloc w _ b hb, fun b hb => upd_ne _ _ _ (by omega), fun b hb => (h.lab_ge b [] hb).2.2 rfl⟩ (fun b k hb hk => ?_) hρ hx
  by_cases e : b = w.heap.size
  · subst e
    rw [upd_same] at hk
    injection hk with hk
    subst hk
    exact ⟨by simp, by simp⟩
  · rw [upd_ne _ _ _ e] at hk
    have := (h.lab_ge b k hk).2.1
    omega
theorem newK_ok {x : Root} {y : A} {k : S -> Option X} (h : newK N σ d x y k = some r) : d < N /\ k (((σ.drop d).root d x).set d y) = some r := by
  unfold newK at h
  cases hN : Nat.blt d N with
  | false => rw [hN] at h; cases h
  | true => rw [hN] at h; exact ⟨by have := Nat.le_of_ble_eq_true hN; omega, h⟩
theorem allocK_ok {e : TypeId} {k : S -> Option X} (h : allocK P N σ d e k = some r) : ∃ σ', k σ' = some r /\ ∀ lab ρ a w, Rl w0 N lab ρ σ a w -> ∃ w' lab' ρ' v, (Instr.alloc e true (.tuple #[])).run P w = .ok v w' /\ Rl w0 N lab' ρ' σ' (a.put (some d) v) w' := by
  unfold allocK at h
  split at h
  · rename_i z hz
    obtain ⟨hd, h⟩ := newK_ok h
    refine ⟨_, h, fun lab ρ a w hR => ?_⟩
    have hrun : (Instr.alloc e true (.tuple #[])).run P w = .ok (.pointer (some ⟨w.heap.size, 0, none⟩)) (w.alloc (.cells z.cells e)) := by
      unfold zeroOf at hz
      cases hi : P.info? e with
      | none => simp [hi] at hz
      | some i =>
        have hz : i.zero = some z := by simpa [hi] using hz
        simp [Instr.alloc, zeroValue, typeInfo, hi, hz, newVar, newRow]
    refine ⟨_, upd lab w.heap.size (some [d]), upd ρ d (.blk w.heap.size 0), _, hrun, (hR.newBlk (hR.lim d (.inl hd)) (fun r hr => upd_ne _ _ _ hr) ?_).set ⟨w.heap.size, 0, upd_same _ _ _, rfl⟩ hd⟩
    refine .blk w.heap.size 0 z.cells e _ (fun j => z.cells.getD j undef) (upd_same _ _ _) (upd_same _ _ _) (heap_alloc_new w _) (by simp) fun j x hx => ?_
    rw [List.getElem?_map] at hx
    cases hv : z.cells.toList[j]? with
    | none => rw [hv] at hx; cases hx
    | some v =>
      rw [hv] at hx
      injection hx with hx
      subst hx
      have hv' : z.cells[j]? = some v := by simpa using hv
      have hg : z.cells.getD j undef = v := by rw [Array.getD_eq_getD_getElem?, hv']; rfl
      rw [hg, Nat.zero_add]
      exact ⟨hv', zeroLf_ok v⟩
  · cases h
theorem elemInfo_ok {t e : TypeId} {tc : TC} (h : elemInfo P t = some (e, tc)) : P.underlying t = some (.slice e) /\ tid tc = e /\ ∃ i, P.info? e = some i /\ i.size = csz tc /\ i.bytes <= 65536 := by
  unfold elemInfo at h
  split at h
  · cases h
  · rename_i e' he
    split at h
    · rename_i tc' n b htc hn hb
      cases hc : (Nat.beq n (csz tc') && Nat.ble b 65536) with
      | false => rw [hc] at h; cases h
      | true =>
        rw [hc, cond_true] at h
        injection h with h
        injection h with h1 h2
        subst h1 h2
        rw [Bool.and_eq_true] at hc
        refine ⟨?_, tcOf_ok htc, ?_⟩
        · unfold elemT at he
          split at he
          · rename_i e'' hu; injection he with he; subst he; exact hu
          · cases he
        · unfold szOf at hn
          unfold bytesOf at hb
          cases hi : P.info? e' with
          | none => simp [hi] at hn
          | some i =>
            simp only [hi, Option.map_some, Option.some.injEq] at hn hb
            refine ⟨i, rfl, hn.trans (Nat.eq_of_beq_eq_true hc.1), by rw [hb]; exact Nat.le_of_ble_eq_true hc.2⟩
    · cases h
theorem get_madeCells (z : Array Value) (n i j : Nat) (hz : j < z.size) (h : i * z.size + j < n) : (madeCells z n)[i * z.size + j]? = some z[j] := by
  have hm : (i * z.size + j) % z.size = j := by rw [Nat.add_comm, Nat.add_mul_mod_self_right, Nat.mod_eq_of_lt hz]
  simp only [madeCells, Array.getElem?_map, Array.getElem?_range, h, if_true, Option.map_some, hm]
  simp [hz]
theorem makeK_ok {t : TypeId} {l c : A} {k : S -> Option X} (h : makeK P N σ d t l c k = some r) : ∃ σ', k σ' = some r /\ ∀ lab ρ a w, Rl w0 N lab ρ σ a w -> ∀ u v, RA w w0.heap.size lab ρ l u -> RA w w0.heap.size lab ρ c v ->
    ∃ w' lab' ρ' x, (Instr.makeSlice t u v).run P w = .ok x w' /\ Rl w0 N lab' ρ' σ' (a.put (some d) x) w' := by
  unfold makeK at h
  split at h
  · rename_i e tc kl n kc c hei
    split at h
    · cases h
    · rename_i z hz
      split at h
      · rename_i hb
        obtain ⟨hd, h⟩ := newK_ok h
        refine ⟨_, h, fun lab ρ a w hR u v hu hv => ?_⟩
        obtain rfl := hu.2.int_inv
        obtain rfl := hv.2.int_inv
        obtain ⟨hut, ht, i, hi, hsz, hby⟩ := elemInfo_ok hei
        unfold zeroT at hz
        split at hz
        · cases hz
        · rename_i zv hzv
          split at hz
          · cases hz
          · rename_i vs hvs
            have hzi : i.zero = some zv := by unfold zeroOf at hzv; simpa [hi] using hzv
            obtain ⟨hl1, hl2⟩ := zerosV_ok _ _ hvs
            have hk := dec_ok tc (full tc) vs z hz
            have hzs : zv.cells.size = csz tc := by rw [<- enc_length tc (full tc) z, <- hk.1, hl1]; simp
            have hbytes : (i.bytes : Int) * c <= 281474976710656 := by
              have h1 : (i.bytes : Int) <= 65536 := by omega
              have h2 : (i.bytes : Int) * c <= 65536 * c := Int.mul_le_mul_of_nonneg_right h1 (by omega)
              omega
            have hrun := run_make (P := P) w t e i zv hut hi hzi kl kc n c hb.1 hb.2.1 hbytes (by omega)
            rw [hsz, <- hzs] at hrun
            refine ⟨_, upd lab w.heap.size (some [d]), upd ρ d (.hdr (.slice (some ⟨w.heap.size, 0, none⟩) n.toNat c.toNat)), _, hrun, (hR.newBlk (hR.lim d (.inl hd)) (fun r hr => upd_ne _ _ _ hr) ?_).set ⟨rfl, ?_⟩ hd⟩
            · refine .sl _ _ (upd_same _ _ _) ?_
              have hlen : (List.replicate n.toNat z).length = n.toNat := by simp
              have := RV.own (w := w.alloc (.cells (madeCells zv.cells (c.toNat * zv.cells.size)) e)) (B := w0.heap.size) (lab := upd lab w.heap.size (some [d])) [d] tc (full tc) false (List.replicate n.toNat z) w.heap.size c.toNat (madeCells zv.cells (c.toNat * zv.cells.size)) (fun _ j => zv.cells.getD j undef)
                (upd_same _ _ _) (by rw [ht]; exact heap_alloc_new w _) (by rw [size_madeCells, hzs]) (by rw [hlen]; omega) ⟨by unfold maxLen; omega, fun h => by cases h⟩ (fun i' h' j x hx => ?_) (fun i' h' j x hx => ?_)
              · rw [hlen] at this
                exact this
              · rw [List.getElem_replicate] at hx
                have hj : j < csz tc := by have := (List.getElem?_eq_some_iff.1 hx).1; rwa [enc_length] at this
                rw [hlen] at h'
                rw [<- hzs] at hj
                rw [<- hzs, get_madeCells zv.cells _ i' j hj (by
                  have : (i' + 1) * zv.cells.size <= c.toNat * zv.cells.size := Nat.mul_le_mul_right _ (by omega)
                  rw [Nat.succ_mul] at this
                  omega)]
                simp [Array.getD_eq_getD_getElem?, hj]
              · rw [List.getElem_replicate] at hx
                have hj : j < (enc tc (full tc) z).length := (List.getElem?_eq_some_iff.1 hx).1
                rw [<- hk.1] at hj
                have hy := List.getElem?_eq_getElem hj
                generalize vs[j] = y at hy
                obtain ⟨v, hv, hzv2⟩ := hl2 j y hy
                have hv' : zv.cells[j]? = some v := by simpa using hv
                have hg : zv.cells.getD j undef = v := by rw [Array.getD_eq_getD_getElem?, hv']; rfl
                rw [hg]
                exact (zeroV_ok hzv2 _).wk (hk.2 j y x hy hx)
            · simp [valAt, upd_same]
      · cases h
  · cases h
end
end Go.Proofs.YtckjagaogcbedaaGreat
namespace Go.Proofs.YtckjagaogcbedaaGreat
open Go.RowKit
set_option linter.unusedVariables false
section
variable {P : Program} {w w' : World} {w0 : Wd} {B N : Nat} {lab lab' : Lab} {ρ ρ' : Nat -> Loc} {σ : S} {a : Act} {X : Type} {d : Nat} {r : X}
theorem enc_flat (t : TC) (h : full t = 0) (o o' : Nat) (x : T t) : enc t o x = enc t o' x := by
  have key : ∀ o, enc t o x = enc t 0 x := by
    intro o
    rw [enc_frz_eq t o x]
    have := enc_plain t o x h
    conv => lhs; rw [<- List.map_id (enc t o x)]
    apply List.map_congr_left
    intro y hy
    have hp := this y hy
    cases y <;> first | rfl | cases hp
  rw [key o, key o']
def flatU (u : Nat -> Nat -> Value) (n s : Nat) : List Value := (List.range (n * s)).map fun k => u (k / s) (k % s)
theorem flatU_get (u : Nat -> Nat -> Value) (n s i j : Nat) (hi : i < n) (hj : j < s) : (flatU u n s)[i * s + j]? = some (u i j) := by
  have hlt : i * s + j < n * s := by
    have : (i + 1) * s <= n * s := Nat.mul_le_mul_right _ hi
    rw [Nat.succ_mul] at this
    omega
  have hd : (i * s + j) / s = i := by rw [Nat.add_comm, Nat.add_mul_div_right _ _ (by omega), Nat.div_eq_of_lt hj, Nat.zero_add]
  have hm : (i * s + j) % s = j := by rw [Nat.add_comm, Nat.add_mul_mod_self_right, Nat.mod_eq_of_lt hj]
  simp [flatU, hlt, hd, hm]
theorem flatU_inv (u : Nat -> Nat -> Value) (n s k : Nat) (v : Value) (hs : 0 < s) (h : (flatU u n s)[k]? = some v) : ∃ i j, k = i * s + j /\ i < n /\ j < s /\ v = u i j := by
  have hk : k < n * s := by
    have := (List.getElem?_eq_some_iff.1 h).1
    simpa [flatU] using this
  refine ⟨k / s, k % s, by rw [Nat.mul_comm]; exact (Nat.div_add_mod k s).symm, Nat.div_lt_of_lt_mul (by rw [Nat.mul_comm]; exact hk), Nat.mod_lt _ hs, ?_⟩
  simp only [flatU, List.getElem?_map, List.getElem?_range hk, Option.map_some, Option.some.injEq] at h
  exact h.symm
theorem enc_some (t : TC) (o : Nat) (x : T t) (j : Nat) (hj : j < csz t) : ∃ y, (enc t o x)[j]? = some y := ⟨_, List.getElem?_eq_getElem (by rw [enc_length]; exact hj)⟩
def Elems (t : TC) (l : List (T t)) (vs : List Value) : Prop :=
  ∀ i (hi : i < l.length) (o j : Nat) x, (enc t o l[i])[j]? = some x -> ∃ v, vs[i * csz t + j]? = some v /\ v.oneCell' = true /\ ∀ (w' : World) (B' : Nat) (lab' : Lab) (q' : List Nat), RV w' B' lab' q' x v
theorem RV.reads {q : List Nat} {t : TC} {g : Nat} {qn : Bool} {l : List (T t)} {u : Value} (h : RV w B lab q (.sl t g qn l) u) (hf : full t = 0) :
    ∃ A c news, u = .slice A l.length c /\ Reads w w.heap.size (csz t) A l.length news /\ (∀ v ∈ news, v.oneCell' = true) /\ Elems t l news := by
  cases h with
  | slNil => exact ⟨none, 0, [], rfl, Reads.none_, by simp, fun i hi => by simp at hi⟩
  | slEmp => exact ⟨_, _, [], rfl, ⟨by simp, fun h => by simp at h⟩, by simp, fun i hi => by simp at hi⟩
  | slNon => exact ⟨_, _, [], rfl, ⟨by simp, fun h => by simp at h⟩, by simp, fun i hi => by simp at hi⟩
  | fro _ _ _ _ _ b off cap us ho hl hb h1 hcap hc hr =>
    have hone : ∀ i (hi : i < l.length) j, j < csz t -> (us i j).oneCell' = true := by
      intro i hi j hj
      obtain ⟨y, hy⟩ := enc_some t g l[i] j hj
      exact (hr i hi j y hy).one
    refine ⟨_, cap, flatU us l.length (csz t), rfl, ⟨by simp [flatU], fun hn => ⟨b, off, rfl, hb, fun k v hv => ?_⟩⟩, fun v hv => ?_, fun i hi o j x hx => ?_⟩
    · obtain ⟨i, j, rfl, hi, hj, rfl⟩ := flatU_inv us _ _ k v (csz_pos t) hv
      obtain ⟨y, hy⟩ := enc_some t g l[i] j hj
      exact hc i hi j y hy
    · obtain ⟨k, hk⟩ := List.mem_iff_getElem?.1 hv
      obtain ⟨i, j, rfl, hi, hj, rfl⟩ := flatU_inv us _ _ k v (csz_pos t) hk
      exact hone i hi j hj
    · have hj : j < csz t := by have := (List.getElem?_eq_some_iff.1 hx).1; rwa [enc_length] at this
      rw [enc_flat t hf o g] at hx
      refine ⟨us i j, flatU_get us _ _ i j hi hj, hone i hi j hj, fun w' B' lab' q' => (hr i hi j x hx).plain_any (enc_plain t g l[i] hf x (List.mem_of_getElem? hx))⟩
  | own _ _ o _ _ b cap cs us hl hh hs hn hm hc hr =>
    have hone : ∀ i (hi : i < l.length) j, j < csz t -> (us i j).oneCell' = true := by
      intro i hi j hj
      obtain ⟨y, hy⟩ := enc_some t o l[i] j hj
      exact (hr i hi j y hy).one
    refine ⟨_, cap, flatU us l.length (csz t), rfl, ⟨by simp [flatU], fun hn => ⟨b, 0, rfl, (Array.getElem?_eq_some_iff.1 hh).1, fun k v hv => ?_⟩⟩, fun v hv => ?_, fun i hi o' j x hx => ?_⟩
    · obtain ⟨i, j, rfl, hi, hj, rfl⟩ := flatU_inv us _ _ k v (csz_pos t) hv
      obtain ⟨y, hy⟩ := enc_some t o l[i] j hj
      rw [Nat.zero_add, cell_of_row w b _ cs _ _ hh]
      exact hc i hi j y hy
    · obtain ⟨k, hk⟩ := List.mem_iff_getElem?.1 hv
      obtain ⟨i, j, rfl, hi, hj, rfl⟩ := flatU_inv us _ _ k v (csz_pos t) hk
      exact hone i hi j hj
    · have hj : j < csz t := by have := (List.getElem?_eq_some_iff.1 hx).1; rwa [enc_length] at this
      rw [enc_flat t hf o' o] at hx
      refine ⟨us i j, flatU_get us _ _ i j hi hj, hone i hi j hj, fun w' B' lab' q' => (hr i hi j x hx).plain_any (enc_plain t o l[i] hf x (List.mem_of_getElem? hx))⟩
theorem RV.owns {q : List Nat} {t : TC} {o : Nat} {qn : Bool} {l : List (T t)} {u : Value} (h : RV w B lab q (.sl t (o + 2) qn l) u) (hf : full t = 0) {B' : Nat} (hB : ∀ b, lab b = some q -> B' <= b) :
    ∃ xs, w.ownsRow B' (tid t) (csz t) u l.length xs /\ (∀ b, u.ownBlock = some b -> lab b = some q) /\ (qn = true -> u.ownBlock ≠ none) /\ Elems t l xs := by
  cases h with
  | slEmp => omega
  | slNon => omega
  | slNil => exact ⟨[], ⟨by simp, .inl ⟨rfl, rfl⟩⟩, by simp [Value.ownBlock], by simp, fun i hi => by simp at hi⟩
  | fro _ _ _ _ _ _ _ _ _ ho => omega
  | own _ _ _ _ _ b cap cs us hl hh hs hn hm hc hr =>
    refine ⟨cs.toList.take (l.length * csz t), ⟨?_, .inr ⟨b, cap, cs, rfl, hB b hl, hh, hn, hm.1, hs, rfl⟩⟩, fun b' hb' => ?_, fun _ => by simp [Value.ownBlock], fun i hi o' j x hx => ?_⟩
    · have hcl : cs.toList.length = cap * csz t := by rw [<- hs]; simp
      rw [List.length_take, hcl]
      have := Nat.mul_le_mul_right (csz t) hn
      omega
    · have : b = b' := by simpa [Value.ownBlock] using hb'
      subst this
      exact hl
    · have hj : j < csz t := by have := (List.getElem?_eq_some_iff.1 hx).1; rwa [enc_length] at this
      have hlt : i * csz t + j < l.length * csz t := by
        have : (i + 1) * csz t <= l.length * csz t := Nat.mul_le_mul_right _ hi
        rw [Nat.succ_mul] at this
        omega
      rw [enc_flat t hf o' o] at hx
      refine ⟨us i j, ?_, (hr i hi j x hx).one, fun w' B' lab' q' => (hr i hi j x hx).plain_any (enc_plain t o l[i] hf x (List.mem_of_getElem? hx))⟩
      rw [List.getElem?_take, if_pos hlt, Array.getElem?_toList]
      exact hc i hi j x hx
theorem Elems.append {t : TC} {l l2 : List (T t)} {xs ys : List Value} (h : Elems t l xs) (h2 : Elems t l2 ys) (hl : xs.length = l.length * csz t) : Elems t (l ++ l2) (xs ++ ys) := by
  intro i hi o j x hx
  have hj : j < csz t := by have := (List.getElem?_eq_some_iff.1 hx).1; rwa [enc_length] at this
  by_cases hlt : i < l.length
  · rw [List.getElem_append_left hlt] at hx
    obtain ⟨v, hv, r⟩ := h i hlt o j x hx
    refine ⟨v, ?_, r⟩
    rw [List.getElem?_append_left (List.getElem?_eq_some_iff.1 hv).1]
    exact hv
  · rw [List.getElem_append_right (by omega)] at hx
    have hi2 : i - l.length < l2.length := by rw [List.length_append] at hi; omega
    obtain ⟨v, hv, r⟩ := h2 (i - l.length) hi2 o j x hx
    refine ⟨v, ?_, r⟩
    have e : i * csz t + j = xs.length + ((i - l.length) * csz t + j) := by
      rw [hl, Nat.sub_mul]
      have : l.length * csz t <= i * csz t := Nat.mul_le_mul_right _ (by omega)
      omega
    rw [e, List.getElem?_append_right (by omega), Nat.add_sub_cancel_left]
    exact hv
theorem owns_RV {q : List Nat} {t : TC} {o : Nat} {l : List (T t)} {u : Value} {xs : List Value} {B' : Nat} (h : w.ownsRow B' (tid t) (csz t) u l.length xs) (he : Elems t l xs) (hl : ∀ b, u.ownBlock = some b -> lab b = some q) :
    RV w B lab q (.sl t (o + 2) false l) u := by
  rcases h.2 with ⟨rfl, h0⟩ | ⟨b, cap, cs, rfl, hB, hh, hn, hm, hs, ht⟩
  · have : l = [] := List.eq_nil_of_length_eq_zero h0
    subst this
    exact .slNil _ _ _
  · have hget : ∀ i (hi : i < l.length) j x, (enc t o l[i])[j]? = some x -> ∃ v, cs[i * csz t + j]? = some v /\ ∀ (w' : World) (B' : Nat) (lab' : Lab) (q' : List Nat), RV w' B' lab' q' x v := by
      intro i hi j x hx
      obtain ⟨v, hv, _, r⟩ := he i hi o j x hx
      refine ⟨v, ?_, r⟩
      rw [<- ht, List.getElem?_take] at hv
      split at hv
      · rw [Array.getElem?_toList] at hv; exact hv
      · cases hv
    refine .own q t o false l b cap cs (fun i j => (cs[i * csz t + j]?).getD undef) (hl b rfl) hh hs hn ⟨hm, fun h => by cases h⟩ (fun i hi j x hx => ?_) (fun i hi j x hx => ?_)
    · obtain ⟨v, hv, _⟩ := hget i hi j x hx
      rw [hv]; rfl
    · obtain ⟨v, hv, r⟩ := hget i hi j x hx
      rw [hv]; exact r _ _ _ _
theorem Rl.append {t e ty : TypeId} {tc : TC} {i : TypeInfo} {z : Value} {rr o g : Nat} {q qn : Bool} {l l2 : List (T tc)} {u v : Value} {q' : List Nat} {Bx : Nat} {labx : Lab} (h : Rl w0 N lab ρ σ a w) (hF : w0.F rr = none) (hut : P.underlying t = some (.slice e)) (ht : tid tc = e) (hi : P.info? e = some i) (hz : i.zero = some z)
    (hsz : i.size = csz tc) (hby : i.bytes <= 65536) (hzs : z.cells.size = csz tc) (hf : full tc = 0) (hd : RV w w0.heap.size lab [rr] (.sl tc (o + 2) q l) u) (hs : RV w Bx labx q' (.sl tc g qn l2) v) (hlen : l.length + l2.length < 1073741824) :
    ∃ v' w' lab', (Builtin.append_ #[t, t] ty #[u, v]).run P w = .ok v' w' /\ Rl w0 N lab' (upd ρ rr (.hdr v')) ((σ.drop rr).root rr (.sl (.sl tc (o + 2) false (l ++ l2)))) a w' /\ isSl v' = true := by
  subst ht
  obtain ⟨xs, hown, hblk, hqn, hel⟩ := hd.owns hf (B' := 0) (fun b _ => Nat.zero_le b)
  obtain ⟨A, c, news, rfl, hrd, hone, hel2⟩ := hs.reads hf
  have hb2 : (l.length + l2.length) * i.bytes <= 140737488355328 := by
    have h1 : (l.length + l2.length) * i.bytes <= 1073741824 * 65536 := Nat.mul_le_mul (by omega) hby
    omega
  obtain ⟨v', w', hrun, hown', hgr, hbl⟩ := run_append_any (P := P) w 0 t ty (tid tc) i z (csz tc) i.bytes hut hi hz hsz rfl hzs (csz_pos tc) u l.length xs hown _ A l2.length c news hrd hone (by unfold maxLen; omega) hb2 (Nat.zero_le _)
  have hlen' : (l ++ l2).length = l.length + l2.length := List.length_append
  rw [<- hlen'] at hown'
  have hel' := hel.append hel2 hown.1
  have hsl : isSl v' = true := by rcases hown'.2 with ⟨rfl, _⟩ | ⟨_, _, _, rfl, _⟩ <;> rfl
  have hbel0 : Below 0 w w' := (Below.refl 0 w).grown hgr (Nat.zero_le _) (fun _ _ => Nat.zero_le _)
  have hbel : BelowS w0 w w' := ⟨hbel0.os, hbel0.tape, hbel0.output, hbel0.size, fun k hk hL => hgr.block k (Nat.lt_of_lt_of_le hk h.below.size) (fun e' => by
    rcases (h.lab_ge k _ (hblk k e'.symm)).1 with h1 | h1
    · exact absurd hk (Nat.not_lt.2 h1)
    · exact h1 hL)⟩
  by_cases hnew : v'.ownBlock = some w.heap.size
  · have hlt : w.heap.size < w'.heap.size := by
      rcases hown'.2 with ⟨rfl, _⟩ | ⟨b, cap, cs, rfl, _, hh, _⟩
      · cases hnew
      · have : b = w.heap.size := by simpa [Value.ownBlock] using hnew
        subst this
        exact (Array.getElem?_eq_some_iff.1 hh).1
    refine ⟨v', w', upd lab w.heap.size (some [rr]), hrun, h.remake hF hbel ⟨hgr.size, fun b hb hne => hgr.block b hb (fun e' => hne (hblk b e'.symm)), fun b hb => upd_ne _ _ _ (by omega), fun b hb => (h.lab_ge b [] hb).2.2 rfl⟩ (fun b k hb hk => ?_) (fun r hr => upd_ne _ _ _ hr) (.sl v' _ (upd_same _ _ _) (owns_RV hown' hel' (fun b hb => ?_))), hsl⟩
    · by_cases e : b = w.heap.size
      · subst e
        rw [upd_same] at hk
        injection hk with hk
        subst hk
        exact ⟨hlt, by simp⟩
      · rw [upd_ne _ _ _ e] at hk
        have := (h.lab_ge b k hk).2.1
        omega
    · rw [hnew] at hb
      injection hb with hb
      subst hb
      exact upd_same _ _ _
  · have hsame : v'.ownBlock = u.ownBlock := by
      rcases hbl with hbl | hbl
      · exact hbl
      · exact absurd hbl hnew
    refine ⟨v', w', lab, hrun, h.remake hF hbel ⟨hgr.size, fun b hb hne => hgr.block b hb (fun e' => hne (hblk b e'.symm)), fun _ _ => rfl, fun b hb => (h.lab_ge b [] hb).2.2 rfl⟩ (fun b k hb hk => ?_) (fun r hr => upd_ne _ _ _ hr) (.sl v' _ (upd_same _ _ _) (owns_RV hown' hel' (fun b hb => hblk b (by rw [<- hsame]; exact hb)))), hsl⟩
    have := (h.lab_ge b k hk).2.1
    omega
theorem els_RV {t : TC} {x : V} {l : List (T t)} (h : x.els t = some l) {q : List Nat} {u : Value} (hu : RV w B lab q x u) : ∃ g qn, RV w B lab q (.sl t g qn l) u := by
  unfold V.els at h
  split at h
  · rename_i t' g qn l'
    split at h
    · rename_i ht
      subst ht
      injection h with h
      subst h
      exact ⟨g, qn, hu⟩
    · cases h
  · injection h with h
    subst h
    cases hu
    exact ⟨0, false, .slNil _ _ _⟩
  · cases h
theorem lfK_inv {x : Lf} {k : V -> Option X} (h : lfK σ x k = some r) : ∃ y, (∀ lab ρ a w, Rl w0 N lab ρ σ a w -> ∀ u, RLf w w0.heap.size lab ρ x u -> ∃ q, RV w w0.heap.size lab q y u) /\ k y = some r := by
  cases x with
  | v z => exact ⟨z, fun lab ρ a w _ u hu => ⟨[], hu.2⟩, h⟩
  | dead => cases h
  | own q =>
    obtain ⟨z, hz, h⟩ := getK_ok q _ h
    refine ⟨z, fun lab ρ a w hR u hu => ?_, h⟩
    obtain ⟨v, hv, hr⟩ := hz.ok hR.root
    have h3 := hu.2
    rw [hv] at h3
    injection h3 with h3
    subst h3
    exact ⟨q, hr⟩
theorem yvK_inv {y : A} {k : V -> Option X} (h : yvK σ y k = some r) : ∃ z, (∀ lab ρ a w, Rl w0 N lab ρ σ a w -> ∀ u, RA w w0.heap.size lab ρ y u -> ∃ q B' lab', RV w B' lab' q z u) /\ k z = some r := by
  unfold yvK at h
  split at h
  · obtain ⟨z, hz, h2⟩ := lfK_inv (w0 := w0) (N := N) h
    exact ⟨z, fun lab ρ a w hR u hu => let ⟨q, hq⟩ := hz lab ρ a w hR u hu; ⟨q, _, _, hq⟩, h2⟩
  · obtain ⟨z, h2, _, hz⟩ := viewV_ok h
    exact ⟨z, fun lab ρ a w hR u hu => ⟨[], 0, _, hz _ _ _ _ _ _ hR u hu 0⟩, h2⟩
  · cases h
theorem appK_ok {t ty : TypeId} {x y : A} {k : S -> Option X} (h : appK P N σ d t x y k = some r) : ∃ σ', k σ' = some r /\ ∀ lab ρ a w, Rl w0 N lab ρ σ a w -> ∀ u v, RA w w0.heap.size lab ρ x u -> RA w w0.heap.size lab ρ y v ->
    ∃ w' lab' ρ' z, (Builtin.append_ #[t, t] ty #[u, v]).run P w = .ok z w' /\ Rl w0 N lab' ρ' σ' (a.put (some d) z) w' := by
  unfold appK at h
  split at h
  · rename_i e tc hei
    obtain ⟨hut, ht, i, hi, hsz, hby⟩ := elemInfo_ok hei
    cases hc : (Nat.beq (full tc) 0 && (zeroOf P e).any (fun z => Nat.beq z.cells.size (csz tc))) with
    | false => rw [hc] at h; cases h
    | true =>
      rw [hc, cond_true] at h
      rw [Bool.and_eq_true] at hc
      have hf := Nat.eq_of_beq_eq_true hc.1
      obtain ⟨z, hz, hzs⟩ := (Option.any_eq_true _ _).1 hc.2
      have hzs := Nat.eq_of_beq_eq_true hzs
      have hzi : i.zero = some z := by unfold zeroOf at hz; simpa [hi] using hz
      obtain ⟨yv, hyv, h2⟩ := yvK_inv (w0 := w0) (N := N) h
      clear h
      split at h2
      · cases h2
      · rename_i l2 hl2
        split at h2
        · cases hL : okLen l2.length with
          | false => rw [hL] at h2; cases h2
          | true =>
            rw [hL, cond_true] at h2
            have hL : l2.length < 1073741824 := by simpa [okLen] using hL
            obtain ⟨hd, h3⟩ := newK_ok h2
            refine ⟨_, h3, fun lab ρ a w hR u v hu hv => ?_⟩
            have hu : u = .slice none 0 0 := by cases hu.2; rfl
            subst hu
            obtain ⟨q', _, _, hv'⟩ := hyv lab ρ a w hR v hv
            obtain ⟨g, qn, hv'⟩ := els_RV hl2 hv'
            obtain ⟨v', w', lab', hrun, hR', hsl⟩ := hR.append (ty := ty) (rr := d) (o := 0) (q := false) (l := []) (hR.lim d (.inl hd)) hut ht hi hzi hsz hby hzs hf (.slNil _ _ _) hv' (by simpa using hL)
            exact ⟨w', lab', _, v', hrun, hR'.set ⟨hsl, by simp [valAt, upd_same]⟩ hd⟩
        · rename_i rr
          split at h2
          · rename_i t' o q l hm
            split at h2
            · rename_i htt
              subst htt
              cases hL : (Nat.blt d N && (Nat.blt rr N || Nat.ble 60000 rr) && okLen (l.length + l2.length)) with
              | false => rw [hL] at h2; cases h2
              | true =>
                rw [hL, cond_true] at h2
                rw [Bool.and_eq_true, Bool.and_eq_true, Bool.or_eq_true] at hL
                have hL1 : l.length + l2.length < 1073741824 := by simpa [okLen] using hL.2
                have hd : d < N := by have := Nat.le_of_ble_eq_true hL.1.1; omega
                have hrr : rr < N \/ 60000 <= rr := hL.1.2.imp (fun h => by have := Nat.le_of_ble_eq_true h; omega) (fun h => Nat.le_of_ble_eq_true h)
                refine ⟨_, h2, fun lab ρ a w hR u v hu hv => ?_⟩
                obtain ⟨q', _, _, hv'⟩ := hyv lab ρ a w hR v hv
                obtain ⟨g, qn, hv'⟩ := els_RV hl2 hv'
                have hro := hR.root rr _ hm
                generalize he : Root.sl (.sl t' (o + 2) q l) = x at hro
                cases hro with
                | blk => cases he
                | mp => cases he
                | gh => cases he
                | sl uu y hρ hr =>
                  injection he with he
                  subst he
                  have huu : uu = u := by
                    have h4 := hu.2
                    simp only [valAt, hρ] at h4
                    injection h4
                  subst huu
                  obtain ⟨v', w', lab', hrun, hR', hsl⟩ := hR.append (ty := ty) (hR.lim rr hrr) hut ht hi hzi hsz hby hzs hf hr hv' hL1
                  exact ⟨w', lab', _, v', hrun, hR'.set ⟨hsl, by simp [valAt, upd_same]⟩ hd⟩
            · cases h2
          · cases h2
        · cases h2
  · cases h
end
end Go.Proofs.YtckjagaogcbedaaGreat
namespace Go.Proofs.YtckjagaogcbedaaGreat
open Go.RowKit
set_option linter.unusedVariables false
def fillA (place : Nat -> Option (Nat × Nat)) (cells : List Lf) : List (Nat × A) -> Option (List Lf)
  | [] => some cells
  | (i, x) :: rest => match place i, x.lfs with
    | some (off, n), some xs => if xs.length = n /\ off + n <= cells.length then (bif xs.all Lf.live then fillA place (splice cells off xs) rest else none) else none
    | _, _ => none
def places (P : Program) (t : TypeId) : Option (Nat -> Option (Nat × Nat)) :=
  match P.underlying t with
  | some (.array _ e) => (P.info? e).map fun ie => fun i => some (i * ie.size, ie.size)
  | some (.struct fields) => (fields.toList.mapM (fun f => (P.info? f.type).map fun i => (f.offset, i.size))).map fun ps => (ps.toArray[·]?)
  | _ => none
def buildK {X : Type} (P : Program) (σ : S) (t : TypeId) (parts : List (Nat × Operand)) (k : A -> Option X) : Option X :=
  match zeroOf P t, places P t with
  | some z, some pl => match fillA pl (z.cells.toList.map zeroLf) (parts.map fun p => (p.1, opd σ p.2)) with
    | some cs => k (.agg cs)
    | none => none
  | _, _ => none
def Lf.asV : Lf -> Option V
  | .v x => some x
  | _ => none
def lfVs : List Lf -> Option (List V)
  | [] => some []
  | x :: xs => match x.asV, lfVs xs with
    | some y, some ys => some (y :: ys)
    | _, _ => none
def cutE (t : TC) (g : Nat) : Nat -> List V -> Option (List (T t))
  | 0, [] => some []
  | 0, _ => none
  | n + 1, vs => match dec t g (vs.take (csz t)), cutE t g n (vs.drop (csz t)) with
    | some x, some xs => some (x :: xs)
    | _, _ => none
def buildSK {X : Type} (P : Program) (N : Nat) (σ : S) (d : Nat) (t : TypeId) (len : Nat) (parts : List (Nat × Operand)) (k : S -> Option X) : Option X :=
  match elemInfo P t with
  | some (e, tc) => match zeroOf P e with
    | some z => bif Nat.beq (full tc) 0 && Nat.beq z.cells.size (csz tc) && Nat.blt (len * csz tc) 16777217 then (match fillA (fun i => some (i * csz tc, csz tc)) (List.replicate len (z.cells.toList.map zeroLf)).flatten (parts.map fun p => (p.1, opd σ p.2)) with
      | some cs => (match lfVs cs with
        | some vs => (match cutE tc 0 len vs with
          | some l => newK N σ d (.sl (.sl tc 2 true l)) (.lf (.own [d])) k
          | none => none)
        | none => none)
      | none => none) else none
    | none => none
  | none => none
section
variable {P : Program} {w w' : World} {w0 : Wd} {B N : Nat} {lab lab' : Lab} {ρ ρ' : Nat -> Loc} {σ : S} {a : Act} {X : Type} {d : Nat} {r : X}
theorem foldl_splice (off : Nat) : ∀ (l : List Value) (n : Nat) (cs : Array Value), off + n + l.length <= cs.size ->
    ((l.zipIdx n).foldl (fun (cs : Array Value) (p : Value × Nat) => cs.setIfInBounds (off + p.2) p.1) cs).toList = splice cs.toList (off + n) l
  | [], n, cs, _ => by simp [splice]
  | v :: l, n, cs, h => by
    simp only [List.length_cons] at h
    rw [List.zipIdx_cons, List.foldl_cons, foldl_splice off l (n + 1) (cs.setIfInBounds (off + n) v) (by simp; omega)]
    have hlt : off + n < cs.toList.length := by simp; omega
    simp only [splice, Array.toList_setIfInBounds, List.length_cons]
    have e1 : (cs.toList.set (off + n) v).take (off + (n + 1)) = cs.toList.take (off + n) ++ [v] := by
      rw [show off + (n + 1) = off + n + 1 by omega, List.take_succ_eq_append_getElem (by simpa using hlt), List.getElem_set_self, List.take_set_of_le (Nat.le_refl _)]
    have e2 : (cs.toList.set (off + n) v).drop (off + (n + 1) + l.length) = cs.toList.drop (off + (n + 1) + l.length) := by
      rw [List.drop_set_of_lt (by omega)]
    rw [e1, e2, show off + n + (l.length + 1) = off + (n + 1) + l.length by omega]
    simp
theorem RLs.splice {cs xs : List Lf} {cv xv : Array Value} (h : RLs w B lab ρ cs cv) (hx : RLs w B lab ρ xs xv) {off : Nat} (hf : off + xs.length <= cs.length) {cv' : Array Value} (hc : cv'.toList = Proofs.YtckjagaogcbedaaGreat.splice cv.toList off xv.toList) : RLs w B lab ρ (Proofs.YtckjagaogcbedaaGreat.splice cs off xs) cv' := by
  have hfv : off + xv.toList.length <= cv.toList.length := by rw [Array.length_toList, Array.length_toList, hx.1, h.1]; exact hf
  refine ⟨?_, fun j x hj => ?_⟩
  · rw [splice_length _ _ _ hf, <- Array.length_toList, hc, splice_length _ _ _ hfv, Array.length_toList, h.1]
  · have e : cv'[j]? = (Proofs.YtckjagaogcbedaaGreat.splice cv.toList off xv.toList)[j]? := by rw [<- hc, Array.getElem?_toList]
    rw [e, splice_get _ _ _ hfv, Array.length_toList, hx.1]
    rw [splice_get _ _ _ hf] at hj
    by_cases h1 : j < off
    · simp only [h1, if_true, Array.getElem?_toList] at hj ⊢
      exact h.2 j x hj
    · by_cases h2 : j < off + xs.length
      · simp only [h1, h2, if_true, if_false, Array.getElem?_toList] at hj ⊢
        exact hx.2 _ x hj
      · simp only [h1, h2, if_false, Array.getElem?_toList] at hj ⊢
        exact h.2 j x hj
theorem fillA_ok {place : Nat -> Option (Nat × Nat)} : ∀ (parts : List (Nat × A)) (cells : List Lf) (cv : Array Value) (vs : List (Nat × Value)) (out : List Lf), fillA place cells parts = some out -> RLs w B lab ρ cells cv -> vs.length = parts.length ->
    (∀ (j : Nat) p q, parts[j]? = some p -> vs[j]? = some q -> p.1 = q.1 /\ RA w B lab ρ p.2 q.2) -> ∃ cv', Instr.fill place cv vs = some cv' /\ RLs w B lab ρ out cv'
  | [], cells, cv, vs, out, h, hR, hl, hp => by
    have : vs = [] := List.eq_nil_of_length_eq_zero hl
    subst this
    injection h with h
    subst h
    exact ⟨cv, rfl, hR⟩
  | (i, x) :: rest, cells, cv, vs, out, h, hR, hl, hp => by
    cases vs with
    | nil => simp at hl
    | cons v vs =>
      obtain ⟨i', v⟩ := v
      obtain ⟨e, hx⟩ := hp 0 _ _ rfl rfl
      simp only at e hx
      subst e
      unfold fillA at h
      split at h
      · rename_i off n xs hpl hxs
        split at h
        · rename_i hb
          cases hlive : xs.all Lf.live with
          | false => rw [hlive] at h; cases h
          | true =>
            rw [hlive, cond_true] at h
            obtain ⟨hlx, _⟩ := lfs_ok hxs hlive hx
            have hs1 : v.cells.size = n := by rw [hlx.1]; exact hb.1
            have hfit : ¬ (off + v.cells.size > cv.size) := by rw [hs1, hR.1]; omega
            have hfold : (v.cells.zipIdx.foldl (fun (cs : Array Value) (p : Value × Nat) => cs.setIfInBounds (off + p.2) p.1) cv).toList = Proofs.YtckjagaogcbedaaGreat.splice cv.toList off v.cells.toList := by
              have := foldl_splice off v.cells.toList 0 cv (by rw [Array.length_toList]; omega)
              rw [<- Array.foldl_toList, Array.toList_zipIdx]
              exact this
            have hsp := hR.splice hlx (off := off) (by rw [hb.1]; exact hb.2) hfold
            obtain ⟨cv', hf', hR'⟩ := fillA_ok rest _ _ vs out h hsp (by simpa using hl) (fun j p q hp' hq' => hp (j + 1) p q (by simpa using hp') (by simpa using hq'))
            refine ⟨cv', ?_, hR'⟩
            have hne : (v.cells.size ≠ n || off + v.cells.size > cv.size) = false := by
              simp only [hs1, ne_eq, not_true_eq_false, decide_false, Bool.false_or, decide_eq_false_iff_not]
              rw [<- hs1]
              exact hfit
            simp only [Instr.fill, hpl]
            rw [if_neg (by rw [hne]; simp)]
            exact hf'
        · cases h
      · cases h
theorem zeroLfs_ok (z : Value) : RLs w B lab ρ (z.cells.toList.map zeroLf) z.cells := by
  refine ⟨by simp, fun j x hx => ?_⟩
  rw [List.getElem?_map] at hx
  cases hv : z.cells.toList[j]? with
  | none => rw [hv] at hx; cases hx
  | some v =>
    rw [hv] at hx
    injection hx with hx
    subst hx
    exact ⟨v, by simpa using hv, zeroLf_ok v⟩
theorem buildK_ok {t : TypeId} {parts : Array (Nat × Operand)} {k : A -> Option X} (h : buildK P σ t parts.toList k = some r) : ∃ y, k y = some r /\ ∀ lab ρ a w, Rl w0 N lab ρ σ a w ->
    ∃ v, (Instr.build t (parts.map fun (i, x) => (i, a.eval x))).run P w = .ok v w /\ RA w w0.heap.size lab ρ y v := by
  unfold buildK at h
  split at h
  · rename_i z pl hz hpl
    split at h
    · rename_i cs hcs
      refine ⟨_, h, fun lab ρ a w hR => ?_⟩
      obtain ⟨cv', hf, hR'⟩ := fillA_ok (w := w) (B := w0.heap.size) (lab := lab) (ρ := ρ) _ _ z.cells (parts.toList.map fun p => (p.1, a.eval p.2)) cs hcs (zeroLfs_ok z) (by simp) (fun j p q hp hq => by
        rw [List.getElem?_map] at hp hq
        cases hx : parts.toList[j]? with
        | none => rw [hx] at hp; cases hp
        | some x =>
          rw [hx] at hp hq
          injection hp with hp
          injection hq with hq
          subst hp hq
          exact ⟨rfl, hR.opd x.2⟩)
      refine ⟨_, run_build (P := P) w t _ cv' ?_, cv', rfl, hR'⟩
      have hparts : (parts.map fun (i, x) => (i, a.eval x)).toList = parts.toList.map fun p => (p.1, a.eval p.2) := by simp
      rw [hparts]
      unfold zeroOf at hz
      unfold Program.built
      cases hi : P.info? t with
      | none => simp [hi] at hz
      | some i =>
        have hz : i.zero = some z := by simpa [hi] using hz
        unfold places at hpl
        split at hpl
        · rename_i n e hu
          cases hie : P.info? e with
          | none => simp [hie] at hpl
          | some ie =>
            rw [hie] at hpl
            injection hpl with hpl
            subst hpl
            simp only [hu, hz, hie]
            exact hf
        · rename_i fields hu
          cases hp : fields.toList.mapM (fun f => (P.info? f.type).map fun i => (f.offset, i.size)) with
          | none => rw [hp] at hpl; cases hpl
          | some ps =>
            rw [hp] at hpl
            injection hpl with hpl
            subst hpl
            simp only [hu, hz, hp]
            exact hf
        · cases hpl
    · cases h
  · cases h
theorem lfVs_ok : ∀ (cs : List Lf) (vs : List V), lfVs cs = some vs -> cs = vs.map .v
  | [], vs, h => by injection h with h; subst h; rfl
  | x :: xs, vs, h => by
    unfold lfVs at h
    split at h
    · rename_i y ys hy hys
      injection h with h
      subst h
      rw [lfVs_ok xs ys hys, List.map_cons]
      cases x <;> first | (injection hy with hy; rw [hy]) | cases hy
    · cases h
theorem cutE_ok (t : TC) (g : Nat) : ∀ (n : Nat) (vs : List V) (l : List (T t)), cutE t g n vs = some l -> l.length = n /\ vs.length = n * csz t /\ ∀ i (hi : i < l.length) (j : Nat) x, (enc t g l[i])[j]? = some x -> ∃ y, vs[i * csz t + j]? = some y /\ Wk y x
  | 0, [], l, h => by
    injection h with h
    subst h
    exact ⟨rfl, by simp, fun i hi => by simp at hi⟩
  | 0, _ :: _, l, h => by cases h
  | n + 1, vs, l, h => by
    unfold cutE at h
    split at h
    · rename_i x xs hx hxs
      injection h with h
      subst h
      obtain ⟨h1, h2, h3⟩ := cutE_ok t g n _ xs hxs
      have hk := dec_ok t g _ x hx
      have hlen : (vs.take (csz t)).length = csz t := by rw [hk.1, enc_length]
      have hge : csz t <= vs.length := by rw [List.length_take] at hlen; omega
      refine ⟨by simp [h1], ?_, fun i hi j y hy => ?_⟩
      · rw [List.length_drop] at h2
        rw [Nat.succ_mul]
        omega
      · cases i with
        | zero =>
          simp only [List.getElem_cons_zero] at hy
          have hj : j < csz t := by have := (List.getElem?_eq_some_iff.1 hy).1; rwa [enc_length] at this
          have hy' := List.getElem?_eq_getElem (l := vs.take (csz t)) (i := j) (by rw [hlen]; exact hj)
          refine ⟨_, ?_, hk.2 j _ y hy' hy⟩
          rw [List.getElem?_take, if_pos hj] at hy'
          rw [Nat.zero_mul, Nat.zero_add]
          exact hy'
        | succ i =>
          simp only [List.getElem_cons_succ] at hy
          obtain ⟨z, hz, hw⟩ := h3 i (by simpa using hi) j y hy
          refine ⟨z, ?_, hw⟩
          rw [List.getElem?_drop] at hz
          rw [Nat.succ_mul, show i * csz t + csz t + j = csz t + (i * csz t + j) by omega]
          exact hz
    · cases h
end
end Go.Proofs.YtckjagaogcbedaaGreat
namespace Go.Proofs.YtckjagaogcbedaaGreat
open Go.RowKit
set_option linter.unusedVariables false
section
variable {P : Program} {w w' : World} {w0 : Wd} {B N : Nat} {lab lab' : Lab} {ρ ρ' : Nat -> Loc} {σ : S} {a : Act} {X : Type} {d : Nat} {r : X}
theorem RV.under {k : List Nat} {x : V} {v : Value} {n : Nat} (h : RV w B lab k x v) (hk : 1 < k.length \/ x.fro = true) (hz : w.heap.size <= w'.heap.size) (hb : ∀ b, b < w.heap.size -> lab b ≠ some [n] -> w'.heap[b]? = w.heap[b]?) (hl : ∀ b, b < w.heap.size -> lab' b = lab b) : RV w' B lab' k x v := by
  induction h with
  | int => exact .int _ _ _
  | bool => exact .bool _ _
  | str => exact .str _ _
  | nil => exact .nil _
  | slNil => exact .slNil _ _ _
  | slEmp => exact .slEmp _ _ _ _ _ (by first | assumption | omega)
  | slNon => exact .slNon _ _ _ _ _ (by first | assumption | omega)
  | fro q t o qn l b off cap u ho hlb hbl h1 hcap hc hr ih =>
    have hne : lab b ≠ some [n] := by rw [hlb]; simp
    exact .fro _ _ _ _ _ _ _ _ u ho ((hl b hbl).trans hlb) (Nat.lt_of_lt_of_le hbl hz) h1 hcap (fun i h j x hx => (World.cell?_of_block (a := ⟨b, _, none⟩) (hb b hbl hne)).trans (hc i h j x hx)) (fun i h j x hx => ih i h j x hx (.inr (enc_fro t o l[i] ho j x hx)))
  | own q t o qn l b cap cs u hlb hh hs hn hm hc hr ih =>
    have hbl : b < w.heap.size := (Array.getElem?_eq_some_iff.1 hh).1
    have hq : 1 < q.length := by
      rcases hk with hk | hk
      · exact hk
      · simp [V.fro] at hk; omega
    have hne : lab b ≠ some [n] := by
      rw [hlb]
      intro e
      injection e with e
      rw [e] at hq
      simp at hq
    exact .own _ _ _ _ _ _ _ cs u ((hl b hbl).trans hlb) ((hb b hbl hne).trans hh) hs hn hm hc (fun i h j x hx => ih i h j x hx (.inl (by simp)))
def Below' (w : World) (B : Nat) (lab : Lab) (n t0 : Nat) (t : TC) (o : Nat) (l : List (T t)) (vs : List Value) : Prop :=
  ∀ i (hi : i < l.length) j x, (enc t o l[i])[j]? = some x -> ∃ v, vs[i * csz t + j]? = some v /\ RV w B lab (j :: (t0 + i) :: csz t :: [n]) x v
theorem RV.ownsN {n : Nat} {t : TC} {o : Nat} {qn : Bool} {l : List (T t)} {u : Value} (h : RV w B lab [n] (.sl t (o + 2) qn l) u) {B' : Nat} (hB : ∀ b, lab b = some [n] -> B' <= b) :
    ∃ xs, w.ownsRow B' (tid t) (csz t) u l.length xs /\ (∀ b, u.ownBlock = some b -> lab b = some [n]) /\ (qn = true -> u.ownBlock ≠ none) /\ Below' w B lab n 0 t o l xs := by
  cases h with
  | slEmp => omega
  | slNon => omega
  | slNil => exact ⟨[], ⟨by simp, .inl ⟨rfl, rfl⟩⟩, by simp [Value.ownBlock], by simp, fun i hi => by simp at hi⟩
  | fro _ _ _ _ _ _ _ _ _ ho => omega
  | own _ _ _ _ _ b cap cs us hl hh hs hn hm hc hr =>
    refine ⟨cs.toList.take (l.length * csz t), ⟨?_, .inr ⟨b, cap, cs, rfl, hB b hl, hh, hn, hm.1, hs, rfl⟩⟩, fun b' hb' => ?_, fun _ => by simp [Value.ownBlock], fun i hi j x hx => ?_⟩
    · have hcl : cs.toList.length = cap * csz t := by rw [<- hs]; simp
      rw [List.length_take, hcl]
      have := Nat.mul_le_mul_right (csz t) hn
      omega
    · have : b = b' := by simpa [Value.ownBlock] using hb'
      subst this
      exact hl
    · have hj : j < csz t := by have := (List.getElem?_eq_some_iff.1 hx).1; rwa [enc_length] at this
      have hlt : i * csz t + j < l.length * csz t := by
        have : (i + 1) * csz t <= l.length * csz t := Nat.mul_le_mul_right _ hi
        rw [Nat.succ_mul] at this
        omega
      refine ⟨us i j, ?_, by rw [Nat.zero_add]; exact hr i hi j x hx⟩
      rw [List.getElem?_take, if_pos hlt, Array.getElem?_toList]
      exact hc i hi j x hx
theorem Below'.append {n : Nat} {t : TC} {o : Nat} {l l2 : List (T t)} {xs ys : List Value} (h : Below' w B lab n 0 t o l xs) (h2 : Below' w B lab n l.length t o l2 ys) (hl : xs.length = l.length * csz t) : Below' w B lab n 0 t o (l ++ l2) (xs ++ ys) := by
  intro i hi j x hx
  have hj : j < csz t := by have := (List.getElem?_eq_some_iff.1 hx).1; rwa [enc_length] at this
  by_cases hlt : i < l.length
  · rw [List.getElem_append_left hlt] at hx
    obtain ⟨v, hv, r⟩ := h i hlt j x hx
    refine ⟨v, ?_, r⟩
    rw [List.getElem?_append_left (List.getElem?_eq_some_iff.1 hv).1]
    exact hv
  · rw [List.getElem_append_right (by omega)] at hx
    have hi2 : i - l.length < l2.length := by rw [List.length_append] at hi; omega
    obtain ⟨v, hv, r⟩ := h2 (i - l.length) hi2 j x hx
    refine ⟨v, ?_, ?_⟩
    · have e : i * csz t + j = xs.length + ((i - l.length) * csz t + j) := by
        rw [hl, Nat.sub_mul]
        have : l.length * csz t <= i * csz t := Nat.mul_le_mul_right _ (by omega)
        omega
      rw [e, List.getElem?_append_right (by omega), Nat.add_sub_cancel_left]
      exact hv
    · have e : 0 + i = l.length + (i - l.length) := by omega
      rw [e]
      exact r
theorem Below'.under {n t0 : Nat} {t : TC} {o : Nat} {l : List (T t)} {vs : List Value} (h : Below' w B lab n t0 t o l vs) (hz : w.heap.size <= w'.heap.size) (hb : ∀ b, b < w.heap.size -> lab b ≠ some [n] -> w'.heap[b]? = w.heap[b]?) (hl : ∀ b, b < w.heap.size -> lab' b = lab b) : Below' w' B lab' n t0 t o l vs :=
  fun i hi j x hx => let ⟨v, hv, r⟩ := h i hi j x hx; ⟨v, hv, r.under (.inl (by simp)) hz hb hl⟩
theorem owns_RVN {n : Nat} {t : TC} {o : Nat} {l : List (T t)} {u : Value} {xs : List Value} {B' : Nat} (h : w.ownsRow B' (tid t) (csz t) u l.length xs) (he : Below' w B lab n 0 t o l xs) (hl : ∀ b, u.ownBlock = some b -> lab b = some [n]) :
    RV w B lab [n] (.sl t (o + 2) false l) u := by
  rcases h.2 with ⟨rfl, h0⟩ | ⟨b, cap, cs, rfl, hB, hh, hn, hm, hs, ht⟩
  · have : l = [] := List.eq_nil_of_length_eq_zero h0
    subst this
    exact .slNil _ _ _
  · have hget : ∀ i (hi : i < l.length) j x, (enc t o l[i])[j]? = some x -> ∃ v, cs[i * csz t + j]? = some v /\ RV w B lab (j :: i :: csz t :: [n]) x v := by
      intro i hi j x hx
      obtain ⟨v, hv, r⟩ := he i hi j x hx
      rw [Nat.zero_add] at r
      refine ⟨v, ?_, r⟩
      rw [<- ht, List.getElem?_take] at hv
      split at hv
      · rw [Array.getElem?_toList] at hv; exact hv
      · cases hv
    refine .own [n] t o false l b cap cs (fun i j => (cs[i * csz t + j]?).getD undef) (hl b rfl) hh hs hn ⟨hm, fun h => by cases h⟩ (fun i hi j x hx => ?_) (fun i hi j x hx => ?_)
    · obtain ⟨v, hv, _⟩ := hget i hi j x hx
      rw [hv]; rfl
    · obtain ⟨v, hv, r⟩ := hget i hi j x hx
      rw [hv]; exact r
theorem Rl.appendN {t e ty : TypeId} {tc : TC} {i : TypeInfo} {z : Value} {rr o m c : Nat} {q : Bool} {l l2 : List (T tc)} {u : Value} {ad : Option Addr} {news : List Value} (h : Rl w0 N lab ρ σ a w) (hF : w0.F rr = none) (hut : P.underlying t = some (.slice e)) (ht : tid tc = e) (hi : P.info? e = some i) (hz : i.zero = some z)
    (hsz : i.size = csz tc) (hby : i.bytes <= 65536) (hzs : z.cells.size = csz tc) (hd : RV w w0.heap.size lab [rr] (.sl tc (o + 2) q l) u) (hrd : Reads w w.heap.size (csz tc) ad m news) (hone : ∀ v ∈ news, v.oneCell' = true) (hm : m = l2.length)
    (hel2 : Below' w w0.heap.size lab rr l.length tc o l2 news) (hlen : l.length + l2.length < 1073741824) :
    ∃ v' w' lab', (Builtin.append_ #[t, t] ty #[u, .slice ad m c]).run P w = .ok v' w' /\ Rl w0 N lab' (upd ρ rr (.hdr v')) ((σ.drop rr).root rr (.sl (.sl tc (o + 2) false (l ++ l2)))) a w' /\ isSl v' = true := by
  subst ht hm
  obtain ⟨xs, hown, hblk, hqn, hel⟩ := hd.ownsN (B' := 0) (fun b _ => Nat.zero_le b)
  have hb2 : (l.length + l2.length) * i.bytes <= 140737488355328 := by
    have h1 : (l.length + l2.length) * i.bytes <= 1073741824 * 65536 := Nat.mul_le_mul (by omega) hby
    omega
  obtain ⟨v', w', hrun, hown', hgr, hbl⟩ := run_append_any (P := P) w 0 t ty (tid tc) i z (csz tc) i.bytes hut hi hz hsz rfl hzs (csz_pos tc) u l.length xs hown _ ad l2.length c news hrd hone (by unfold maxLen; omega) hb2 (Nat.zero_le _)
  have hlen' : (l ++ l2).length = l.length + l2.length := List.length_append
  rw [<- hlen'] at hown'
  have hel' := hel.append hel2 hown.1
  have hsl : isSl v' = true := by rcases hown'.2 with ⟨rfl, _⟩ | ⟨_, _, _, rfl, _⟩ <;> rfl
  have hbel0 : Below 0 w w' := (Below.refl 0 w).grown hgr (Nat.zero_le _) (fun _ _ => Nat.zero_le _)
  have hbel : BelowS w0 w w' := ⟨hbel0.os, hbel0.tape, hbel0.output, hbel0.size, fun k hk hL => hgr.block k (Nat.lt_of_lt_of_le hk h.below.size) (fun e' => by
    rcases (h.lab_ge k _ (hblk k e'.symm)).1 with h1 | h1
    · exact absurd hk (Nat.not_lt.2 h1)
    · exact h1 hL)⟩
  have hkeep : ∀ b, b < w.heap.size -> lab b ≠ some [rr] -> w'.heap[b]? = w.heap[b]? := fun b hb hne => hgr.block b hb (fun e' => hne (hblk b e'.symm))
  by_cases hnew : v'.ownBlock = some w.heap.size
  · have hlt : w.heap.size < w'.heap.size := by
      rcases hown'.2 with ⟨rfl, _⟩ | ⟨b, cap, cs, rfl, _, hh, _⟩
      · cases hnew
      · have : b = w.heap.size := by simpa [Value.ownBlock] using hnew
        subst this
        exact (Array.getElem?_eq_some_iff.1 hh).1
    have hl' : ∀ b, b < w.heap.size -> upd lab w.heap.size (some [rr]) b = lab b := fun b hb => upd_ne _ _ _ (by omega)
    refine ⟨v', w', upd lab w.heap.size (some [rr]), hrun, h.remake hF hbel ⟨hgr.size, hkeep, hl', fun b hb => (h.lab_ge b [] hb).2.2 rfl⟩ (fun b k hb hk => ?_) (fun r hr => upd_ne _ _ _ hr) (.sl v' _ (upd_same _ _ _) (owns_RVN hown' (hel'.under hgr.size hkeep hl') (fun b hb => ?_))), hsl⟩
    · by_cases e : b = w.heap.size
      · subst e
        rw [upd_same] at hk
        injection hk with hk
        subst hk
        exact ⟨hlt, by simp⟩
      · rw [upd_ne _ _ _ e] at hk
        have := (h.lab_ge b k hk).2.1
        omega
    · rw [hnew] at hb
      injection hb with hb
      subst hb
      exact upd_same _ _ _
  · have hsame : v'.ownBlock = u.ownBlock := by
      rcases hbl with hbl | hbl
      · exact hbl
      · exact absurd hbl hnew
    refine ⟨v', w', lab, hrun, h.remake hF hbel ⟨hgr.size, hkeep, fun _ _ => rfl, fun b hb => (h.lab_ge b [] hb).2.2 rfl⟩ (fun b k hb hk => ?_) (fun r hr => upd_ne _ _ _ hr) (.sl v' _ (upd_same _ _ _) (owns_RVN hown' (hel'.under hgr.size hkeep (fun _ _ => rfl)) (fun b hb => hblk b (by rw [<- hsame]; exact hb)))), hsl⟩
    have := (h.lab_ge b k hk).2.1
    omega
end
end Go.Proofs.YtckjagaogcbedaaGreat
