/-
  Functions of the program as plain functions of contents, and that the code computes them. Nothing here is a claim.
-/
import Derived.Test.YtmlaeegoddldeaaGreatVZ
import Derived.Test.YtmlaeegoddldeaaGreatRows
namespace Go.Proofs.YtmlaeegoddldeaaGreat
open Go.RowKit
set_option linter.unusedVariables false
set_option maxRecDepth 100000
def fl_szIntS (x0 : List Int) (x1 : Int) : Option (Int) := bif (decide ((IntKind.i64.wrap (x1 - (x0.length : Int))) < (0 : Int))) then some (-1 : Int) else some (IntKind.i64.wrap (x1 - (x0.length : Int)))
def c_fl_szIntS : Ctr := ctrT [(false, (.sl .int)), (false, .int)] [(false, .int, 0)] (fun x => fl_szIntS x.1 x.2.1)
theorem ok_fl_szIntS : enters Tryz.prog 19 /\ CtrOK Tryz.prog 19 c_fl_szIntS := fnP 12 [] [] Tryz.func19 trivial blks_none fun x => by kernel_rfl
def fl_szPolicy (x0 : DPolicy) (x1 : Int) : Option (Int) := (fl_szIntS x0.weights x1).bind fun y1 => bif (decide (y1 < (0 : Int))) then some (-1 : Int) else some y1
def c_fl_szPolicy : Ctr := ctrT [(true, .Policy), (false, .int)] [(false, .int, 0)] (fun x => fl_szPolicy x.1 x.2.1)
theorem ok_fl_szPolicy : enters Tryz.prog 67 /\ CtrOK Tryz.prog 67 c_fl_szPolicy := fnP 12 [(19, .p c_fl_szIntS)] [] Tryz.func67 ⟨ok_fl_szIntS, trivial⟩ blks_none fun x => by kernel_rfl
def fl_szPolicyBox (x0 : DPolicyBox) (x1 : Int) : Option (Int) := (fl_szPolicy x0.active x1).bind fun y1 => bif (decide (y1 < (0 : Int))) then some (-1 : Int) else (fl_szPolicy x0.next y1).bind fun y2 => bif (decide (y2 < (0 : Int))) then some (-1 : Int) else some y2
def c_fl_szPolicyBox : Ctr := ctrT [(true, .PolicyBox), (false, .int)] [(false, .int, 0)] (fun x => fl_szPolicyBox x.1 x.2.1)
theorem ok_fl_szPolicyBox : enters Tryz.prog 12 /\ CtrOK Tryz.prog 12 c_fl_szPolicyBox := fnP 18 [(67, .p c_fl_szPolicy)] [] Tryz.func12 ⟨ok_fl_szPolicy, trivial⟩ blks_none fun x => by kernel_rfl
def fl_szBankS (x0 : List DBank) (x1 : Int) : Option (Int) := bif (decide ((IntKind.i64.wrap (x1 - (x0.length : Int))) < (0 : Int))) then some (-1 : Int) else some (IntKind.i64.wrap (x1 - (x0.length : Int)))
def c_fl_szBankS : Ctr := ctrT [(false, (.sl .Bank)), (false, .int)] [(false, .int, 0)] (fun x => fl_szBankS x.1 x.2.1)
theorem ok_fl_szBankS : enters Tryz.prog 68 /\ CtrOK Tryz.prog 68 c_fl_szBankS := fnP 12 [] [] Tryz.func68 trivial blks_none fun x => by kernel_rfl
def fl_szRank (x0 : DRank) (x1 : Int) : Option (Int) := (fl_szBankS x0.banks x1).bind fun y1 => bif (decide (y1 < (0 : Int))) then some (-1 : Int) else some y1
def c_fl_szRank : Ctr := ctrT [(true, .Rank), (false, .int)] [(false, .int, 0)] (fun x => fl_szRank x.1 x.2.1)
theorem ok_fl_szRank : enters Tryz.prog 13 /\ CtrOK Tryz.prog 13 c_fl_szRank := fnP 12 [(68, .p c_fl_szBankS)] [] Tryz.func13 ⟨ok_fl_szBankS, trivial⟩ blks_none fun x => by kernel_rfl
def fl_szReady (x0 : DReady) (x1 : Int) : Option (Int) := (fl_szIntS x0.last x1).bind fun y1 => bif (decide (y1 < (0 : Int))) then some (-1 : Int) else (fl_szIntS x0.acts y1).bind fun y2 => bif (decide (y2 < (0 : Int))) then some (-1 : Int) else some y2
def c_fl_szReady : Ctr := ctrT [(true, .Ready), (false, .int)] [(false, .int, 0)] (fun x => fl_szReady x.1 x.2.1)
theorem ok_fl_szReady : enters Tryz.prog 14 /\ CtrOK Tryz.prog 14 c_fl_szReady := fnP 18 [(19, .p c_fl_szIntS)] [] Tryz.func14 ⟨ok_fl_szIntS, trivial⟩ blks_none fun x => by kernel_rfl
def fl_szCell (x0 : DCell) (x1 : Int) : Option (Int) := (fl_szIntS x0.symbols x1).bind fun y1 => bif (decide (y1 < (0 : Int))) then some (-1 : Int) else some y1
def c_fl_szCell : Ctr := ctrT [(true, .Cell), (false, .int)] [(false, .int, 0)] (fun x => fl_szCell x.1 x.2.1)
theorem ok_fl_szCell : enters Tryz.prog 129 /\ CtrOK Tryz.prog 129 c_fl_szCell := fnP 12 [(19, .p c_fl_szIntS)] [] Tryz.func129 ⟨ok_fl_szIntS, trivial⟩ blks_none fun x => by kernel_rfl
def Tfl_szCellS_0 : Tpl := ⟨[(0, .lf (.fro .Cell 0)), (1, .lf (.int .i64)), (5, .lf (.int .i64))], []⟩
def Xfl_szCellS_0 : List (Nat × Tpl) := [(1, ⟨[(4, .lf (.int .i64))], []⟩), (2, ⟨[(1, .lf (.int .i64))], []⟩)]
def Lfl_szCellS_0 (x : (((List DCell) × Int × Int × Unit) × (Unit))) : Option ((((List DCell) × Int × Int × Unit) × (Unit)) ⊕ (((Int × Unit) × (Unit)) ⊕ (((Int × Unit) × (Unit)) ⊕ Empty))) := bif (decide (x.1.2.2.1 < (x.1.1.length : Int))) then if h1 : 0 <= x.1.2.2.1 /\ x.1.2.2.1.toNat < x.1.1.length then (let e2 := x.1.1[x.1.2.2.1.toNat]'h1.2; (fl_szCell e2 x.1.2.1).bind fun y3 => bif (decide (y3 < (0 : Int))) then some (.inr (.inl (((-1 : Int), ()), ()))) else some (.inl ((x.1.1, y3, (IntKind.i64.wrap (x.1.2.2.1 + (1 : Int))), ()), ()))) else none else some (.inr (.inr (.inl ((x.1.2.1, ()), ()))))
def Bfl_szCellS_0 : Blk' := loopB 0 Tfl_szCellS_0 Xfl_szCellS_0 Lfl_szCellS_0 (fun _ => big)
theorem lp_fl_szCellS_0 : BlkOK Tryz.prog 27 (.block 0 (.loop (bodyOf (codeOf Tryz.f69) 0))) Bfl_szCellS_0 := loopP 27 [(129, .p c_fl_szCell)] [] ⟨ok_fl_szCell, trivial⟩ blks_none fun x => by kernel_rfl
def fl_szCellS (x0 : List DCell) (x1 : Int) : Option (Int) := bif (decide ((IntKind.i64.wrap (x1 - (x0.length : Int))) < (0 : Int))) then some (-1 : Int) else (iter Lfl_szCellS_0 big ((x0, (IntKind.i64.wrap (x1 - (x0.length : Int))), (0 : Int), ()), ())).bind (Sum.elim (fun z4 => some z4.1.1) (Sum.elim (fun z5 => some z5.1.1) (fun z => nomatch z)))
def c_fl_szCellS : Ctr := ctrT [(false, (.sl .Cell)), (false, .int)] [(false, .int, 0)] (fun x => fl_szCellS x.1 x.2.1)
theorem ok_fl_szCellS : enters Tryz.prog 69 /\ CtrOK Tryz.prog 69 c_fl_szCellS := fnP 27 [] [(0, Bfl_szCellS_0)] Tryz.func69 trivial (blks_ok (by kernel_rfl) _ ⟨⟨_, by kernel_rfl, lp_fl_szCellS_0⟩, trivial⟩) fun x => by kernel_rfl
def fl_szArray (x0 : DArray) (x1 : Int) : Option (Int) := (fl_szCellS x0.cells x1).bind fun y1 => bif (decide (y1 < (0 : Int))) then some (-1 : Int) else (fl_szIntS x0.age y1).bind fun y2 => bif (decide (y2 < (0 : Int))) then some (-1 : Int) else (fl_szIntS x0.hits y2).bind fun y3 => bif (decide (y3 < (0 : Int))) then some (-1 : Int) else some y3
def c_fl_szArray : Ctr := ctrT [(true, .Array), (false, .int)] [(false, .int, 0)] (fun x => fl_szArray x.1 x.2.1)
theorem ok_fl_szArray : enters Tryz.prog 15 /\ CtrOK Tryz.prog 15 c_fl_szArray := fnP 24 [(19, .p c_fl_szIntS), (69, .p c_fl_szCellS)] [] Tryz.func15 ⟨ok_fl_szIntS, ok_fl_szCellS, trivial⟩ blks_none fun x => by kernel_rfl
def fl_szSpare (x0 : DSpare) (x1 : Int) : Option (Int) := (fl_szIntS x0.map x1).bind fun y1 => bif (decide (y1 < (0 : Int))) then some (-1 : Int) else some y1
def c_fl_szSpare : Ctr := ctrT [(true, .Spare), (false, .int)] [(false, .int, 0)] (fun x => fl_szSpare x.1 x.2.1)
theorem ok_fl_szSpare : enters Tryz.prog 16 /\ CtrOK Tryz.prog 16 c_fl_szSpare := fnP 12 [(19, .p c_fl_szIntS)] [] Tryz.func16 ⟨ok_fl_szIntS, trivial⟩ blks_none fun x => by kernel_rfl
def fl_szRefresh (x0 : DRefresh) (x1 : Int) : Option (Int) := (fl_szIntS x0.debt x1).bind fun y1 => bif (decide (y1 < (0 : Int))) then some (-1 : Int) else some y1
def c_fl_szRefresh : Ctr := ctrT [(true, .Refresh), (false, .int)] [(false, .int, 0)] (fun x => fl_szRefresh x.1 x.2.1)
theorem ok_fl_szRefresh : enters Tryz.prog 17 /\ CtrOK Tryz.prog 17 c_fl_szRefresh := fnP 12 [(19, .p c_fl_szIntS)] [] Tryz.func17 ⟨ok_fl_szIntS, trivial⟩ blks_none fun x => by kernel_rfl
def fl_szTracker (x0 : DTracker) (x1 : Int) : Option (Int) := (fl_szIntS x0.rows x1).bind fun y1 => bif (decide (y1 < (0 : Int))) then some (-1 : Int) else (fl_szIntS x0.counts y1).bind fun y2 => bif (decide (y2 < (0 : Int))) then some (-1 : Int) else some y2
def c_fl_szTracker : Ctr := ctrT [(true, .Tracker), (false, .int)] [(false, .int, 0)] (fun x => fl_szTracker x.1 x.2.1)
theorem ok_fl_szTracker : enters Tryz.prog 70 /\ CtrOK Tryz.prog 70 c_fl_szTracker := fnP 18 [(19, .p c_fl_szIntS)] [] Tryz.func70 ⟨ok_fl_szIntS, trivial⟩ blks_none fun x => by kernel_rfl
def Tfl_szTrackerS_0 : Tpl := ⟨[(0, .lf (.fro .Tracker 0)), (1, .lf (.int .i64)), (5, .lf (.int .i64))], []⟩
def Xfl_szTrackerS_0 : List (Nat × Tpl) := [(1, ⟨[(4, .lf (.int .i64))], []⟩), (2, ⟨[(1, .lf (.int .i64))], []⟩)]
def Lfl_szTrackerS_0 (x : (((List DTracker) × Int × Int × Unit) × (Unit))) : Option ((((List DTracker) × Int × Int × Unit) × (Unit)) ⊕ (((Int × Unit) × (Unit)) ⊕ (((Int × Unit) × (Unit)) ⊕ Empty))) := bif (decide (x.1.2.2.1 < (x.1.1.length : Int))) then if h1 : 0 <= x.1.2.2.1 /\ x.1.2.2.1.toNat < x.1.1.length then (let e2 := x.1.1[x.1.2.2.1.toNat]'h1.2; (fl_szTracker e2 x.1.2.1).bind fun y3 => bif (decide (y3 < (0 : Int))) then some (.inr (.inl (((-1 : Int), ()), ()))) else some (.inl ((x.1.1, y3, (IntKind.i64.wrap (x.1.2.2.1 + (1 : Int))), ()), ()))) else none else some (.inr (.inr (.inl ((x.1.2.1, ()), ()))))
def Bfl_szTrackerS_0 : Blk' := loopB 0 Tfl_szTrackerS_0 Xfl_szTrackerS_0 Lfl_szTrackerS_0 (fun _ => big)
theorem lp_fl_szTrackerS_0 : BlkOK Tryz.prog 27 (.block 0 (.loop (bodyOf (codeOf Tryz.f18) 0))) Bfl_szTrackerS_0 := loopP 27 [(70, .p c_fl_szTracker)] [] ⟨ok_fl_szTracker, trivial⟩ blks_none fun x => by kernel_rfl
def fl_szTrackerS (x0 : List DTracker) (x1 : Int) : Option (Int) := bif (decide ((IntKind.i64.wrap (x1 - (x0.length : Int))) < (0 : Int))) then some (-1 : Int) else (iter Lfl_szTrackerS_0 big ((x0, (IntKind.i64.wrap (x1 - (x0.length : Int))), (0 : Int), ()), ())).bind (Sum.elim (fun z4 => some z4.1.1) (Sum.elim (fun z5 => some z5.1.1) (fun z => nomatch z)))
def c_fl_szTrackerS : Ctr := ctrT [(false, (.sl .Tracker)), (false, .int)] [(false, .int, 0)] (fun x => fl_szTrackerS x.1 x.2.1)
theorem ok_fl_szTrackerS : enters Tryz.prog 18 /\ CtrOK Tryz.prog 18 c_fl_szTrackerS := fnP 27 [] [(0, Bfl_szTrackerS_0)] Tryz.func18 trivial (blks_ok (by kernel_rfl) _ ⟨⟨_, by kernel_rfl, lp_fl_szTrackerS_0⟩, trivial⟩) fun x => by kernel_rfl
def fl_szAddrS (x0 : List DAddr) (x1 : Int) : Option (Int) := bif (decide ((IntKind.i64.wrap (x1 - (x0.length : Int))) < (0 : Int))) then some (-1 : Int) else some (IntKind.i64.wrap (x1 - (x0.length : Int)))
def c_fl_szAddrS : Ctr := ctrT [(false, (.sl .Addr)), (false, .int)] [(false, .int, 0)] (fun x => fl_szAddrS x.1 x.2.1)
theorem ok_fl_szAddrS : enters Tryz.prog 20 /\ CtrOK Tryz.prog 20 c_fl_szAddrS := fnP 12 [] [] Tryz.func20 trivial blks_none fun x => by kernel_rfl
def fl_szRequestS (x0 : List DReq) (x1 : Int) : Option (Int) := bif (decide ((IntKind.i64.wrap (x1 - (x0.length : Int))) < (0 : Int))) then some (-1 : Int) else some (IntKind.i64.wrap (x1 - (x0.length : Int)))
def c_fl_szRequestS : Ctr := ctrT [(false, (.sl .Req)), (false, .int)] [(false, .int, 0)] (fun x => fl_szRequestS x.1 x.2.1)
theorem ok_fl_szRequestS : enters Tryz.prog 21 /\ CtrOK Tryz.prog 21 c_fl_szRequestS := fnP 12 [] [] Tryz.func21 trivial blks_none fun x => by kernel_rfl
def fl_szShareS (x0 : List DShare) (x1 : Int) : Option (Int) := bif (decide ((IntKind.i64.wrap (x1 - (x0.length : Int))) < (0 : Int))) then some (-1 : Int) else some (IntKind.i64.wrap (x1 - (x0.length : Int)))
def c_fl_szShareS : Ctr := ctrT [(false, (.sl .Share)), (false, .int)] [(false, .int, 0)] (fun x => fl_szShareS x.1 x.2.1)
theorem ok_fl_szShareS : enters Tryz.prog 22 /\ CtrOK Tryz.prog 22 c_fl_szShareS := fnP 12 [] [] Tryz.func22 trivial blks_none fun x => by kernel_rfl
def fl_szErrorEntryS (x0 : List DErrorEntry) (x1 : Int) : Option (Int) := bif (decide ((IntKind.i64.wrap (x1 - (x0.length : Int))) < (0 : Int))) then some (-1 : Int) else some (IntKind.i64.wrap (x1 - (x0.length : Int)))
def c_fl_szErrorEntryS : Ctr := ctrT [(false, (.sl .ErrorEntry)), (false, .int)] [(false, .int, 0)] (fun x => fl_szErrorEntryS x.1 x.2.1)
theorem ok_fl_szErrorEntryS : enters Tryz.prog 23 /\ CtrOK Tryz.prog 23 c_fl_szErrorEntryS := fnP 12 [] [] Tryz.func23 trivial blks_none fun x => by kernel_rfl
def fl_szEventS (x0 : List DEvent) (x1 : Int) : Option (Int) := bif (decide ((IntKind.i64.wrap (x1 - (x0.length : Int))) < (0 : Int))) then some (-1 : Int) else some (IntKind.i64.wrap (x1 - (x0.length : Int)))
def c_fl_szEventS : Ctr := ctrT [(false, (.sl .Event)), (false, .int)] [(false, .int, 0)] (fun x => fl_szEventS x.1 x.2.1)
theorem ok_fl_szEventS : enters Tryz.prog 24 /\ CtrOK Tryz.prog 24 c_fl_szEventS := fnP 12 [] [] Tryz.func24 trivial blks_none fun x => by kernel_rfl
def fl_szReplyS (x0 : List DRep) (x1 : Int) : Option (Int) := bif (decide ((IntKind.i64.wrap (x1 - (x0.length : Int))) < (0 : Int))) then some (-1 : Int) else some (IntKind.i64.wrap (x1 - (x0.length : Int)))
def c_fl_szReplyS : Ctr := ctrT [(false, (.sl .Rep)), (false, .int)] [(false, .int, 0)] (fun x => fl_szReplyS x.1 x.2.1)
theorem ok_fl_szReplyS : enters Tryz.prog 25 /\ CtrOK Tryz.prog 25 c_fl_szReplyS := fnP 12 [] [] Tryz.func25 trivial blks_none fun x => by kernel_rfl
def fl_szController (x0 : DController) (x1 : Int) : Option (Int) := (fl_szPolicyBox x0.box x1).bind fun y1 => bif (decide (y1 < (0 : Int))) then some (-1 : Int) else (fl_szRank x0.rank y1).bind fun y2 => bif (decide (y2 < (0 : Int))) then some (-1 : Int) else (fl_szReady x0.ready y2).bind fun y3 => bif (decide (y3 < (0 : Int))) then some (-1 : Int) else (fl_szArray x0.array y3).bind fun y4 => bif (decide (y4 < (0 : Int))) then some (-1 : Int) else (fl_szSpare x0.spare y4).bind fun y5 => bif (decide (y5 < (0 : Int))) then some (-1 : Int) else (fl_szRefresh x0.refresh y5).bind fun y6 => bif (decide (y6 < (0 : Int))) then some (-1 : Int) else (fl_szTrackerS x0.trackers y6).bind fun y7 => bif (decide (y7 < (0 : Int))) then some (-1 : Int) else (fl_szIntS x0.guard y7).bind fun y8 => bif (decide (y8 < (0 : Int))) then some (-1 : Int) else (fl_szAddrS x0.pending y8).bind fun y9 => bif (decide (y9 < (0 : Int))) then some (-1 : Int) else (fl_szRequestS x0.queue y9).bind fun y10 => bif (decide (y10 < (0 : Int))) then some (-1 : Int) else (fl_szShareS x0.shares y10).bind fun y11 => bif (decide (y11 < (0 : Int))) then some (-1 : Int) else (fl_szErrorEntryS x0.errors y11).bind fun y12 => bif (decide (y12 < (0 : Int))) then some (-1 : Int) else (fl_szEventS x0.trace y12).bind fun y13 => bif (decide (y13 < (0 : Int))) then some (-1 : Int) else (fl_szReplyS x0.replies y13).bind fun y14 => bif (decide (y14 < (0 : Int))) then some (-1 : Int) else some y14
def c_fl_szController : Ctr := ctrT [(true, .Controller), (false, .int)] [(false, .int, 0)] (fun x => fl_szController x.1 x.2.1)
theorem ok_fl_szController : enters Tryz.prog 5 /\ CtrOK Tryz.prog 5 c_fl_szController := fnP 90 [(12, .p c_fl_szPolicyBox), (13, .p c_fl_szRank), (14, .p c_fl_szReady), (15, .p c_fl_szArray), (16, .p c_fl_szSpare), (17, .p c_fl_szRefresh), (18, .p c_fl_szTrackerS), (19, .p c_fl_szIntS), (20, .p c_fl_szAddrS), (21, .p c_fl_szRequestS), (22, .p c_fl_szShareS), (23, .p c_fl_szErrorEntryS), (24, .p c_fl_szEventS), (25, .p c_fl_szReplyS)] [] Tryz.func5 ⟨ok_fl_szPolicyBox, ok_fl_szRank, ok_fl_szReady, ok_fl_szArray, ok_fl_szSpare, ok_fl_szRefresh, ok_fl_szTrackerS, ok_fl_szIntS, ok_fl_szAddrS, ok_fl_szRequestS, ok_fl_szShareS, ok_fl_szErrorEntryS, ok_fl_szEventS, ok_fl_szReplyS, trivial⟩ blks_none fun x => by kernel_rfl
def fl_toGeometry (x0 : DGeometry) : Option (DGeometry) := some x0
def c_fl_toGeometry : Ctr := ctrT [(true, .Geometry)] [(true, .Geometry, 0)] (fun x => fl_toGeometry x.1)
theorem ok_fl_toGeometry : enters Tryz.prog 86 /\ CtrOK Tryz.prog 86 c_fl_toGeometry := fnP 17 [] [] Tryz.func86 trivial blks_none fun x => by kernel_rfl
def fl_toTiming (x0 : DTiming) : Option (DTiming) := some x0
def c_fl_toTiming : Ctr := ctrT [(true, .Timing)] [(true, .Timing, 0)] (fun x => fl_toTiming x.1)
theorem ok_fl_toTiming : enters Tryz.prog 87 /\ CtrOK Tryz.prog 87 c_fl_toTiming := fnP 56 [] [] Tryz.func87 trivial blks_none fun x => by kernel_rfl
def fl_toMapping (x0 : DMapping) : Option (DMapping) := some x0
def c_fl_toMapping : Ctr := ctrT [(true, .Mapping)] [(true, .Mapping, 0)] (fun x => fl_toMapping x.1)
theorem ok_fl_toMapping : enters Tryz.prog 88 /\ CtrOK Tryz.prog 88 c_fl_toMapping := fnP 11 [] [] Tryz.func88 trivial blks_none fun x => by kernel_rfl
def fl_toLimits (x0 : DLimits) : Option (DLimits) := some x0
def c_fl_toLimits : Ctr := ctrT [(true, .Limits)] [(true, .Limits, 0)] (fun x => fl_toLimits x.1)
theorem ok_fl_toLimits : enters Tryz.prog 89 /\ CtrOK Tryz.prog 89 c_fl_toLimits := fnP 11 [] [] Tryz.func89 trivial blks_none fun x => by kernel_rfl
def fl_toConfig (x0 : DConfig) : Option (DConfig) := (fl_toGeometry x0.geometry).bind fun y1 => (fl_toTiming x0.timing).bind fun y2 => (fl_toMapping x0.mapping).bind fun y3 => (fl_toLimits x0.limits).bind fun y4 => some (⟨⟨y1.groups, y1.banks, y1.rows, y1.cols⟩, ⟨y2.rcd, y2.rp, y2.ras, y2.rrds, y2.rrdl, y2.faw, y2.ccds, y2.ccdl, y2.rtp, y2.wr, y2.wtrs, y2.wtrl, y2.rtw, y2.rfc, y2.cke, y2.xp, y2.xs⟩, ⟨y3.order, y3.hash⟩, x0.spares, x0.interval, x0.track, ⟨y4.age, y4.hits⟩⟩ : DConfig)
def c_fl_toConfig : Ctr := ctrT [(true, .Config)] [(true, .Config, 0)] (fun x => fl_toConfig x.1)
theorem ok_fl_toConfig : enters Tryz.prog 27 /\ CtrOK Tryz.prog 27 c_fl_toConfig := fnP 30 [(86, .p c_fl_toGeometry), (87, .p c_fl_toTiming), (88, .p c_fl_toMapping), (89, .p c_fl_toLimits)] [] Tryz.func27 ⟨ok_fl_toGeometry, ok_fl_toTiming, ok_fl_toMapping, ok_fl_toLimits, trivial⟩ blks_none fun x => by kernel_rfl
def Tfl_toIntS_0 : Tpl := ⟨[(0, .lf (.fro .int 0)), (3, .lf (.own 7)), (4, .lf (.int .i64))], [(7, .sl .int 2)]⟩
def Xfl_toIntS_0 : List (Nat × Tpl) := [(2, ⟨[(3, .lf (.own 7))], [(7, .sl .int 2)]⟩)]
def Lfl_toIntS_0 (x : (((List Int) × Unit × Int × Unit) × ((List Int) × Unit))) : Option ((((List Int) × Unit × Int × Unit) × ((List Int) × Unit)) ⊕ (((Unit × Unit) × ((List Int) × Unit)) ⊕ Empty)) := bif (decide (x.1.2.2.1 < (x.1.1.length : Int))) then if h1 : 0 <= x.1.2.2.1 /\ x.1.2.2.1.toNat < x.1.1.length then (let e2 := x.1.1[x.1.2.2.1.toNat]'h1.2; if h3 : 0 <= x.1.2.2.1 /\ x.1.2.2.1.toNat < x.2.1.length then if h4 : x.1.2.2.1.toNat < x.2.1.length then (let e5 := x.2.1[x.1.2.2.1.toNat]'h4; some (.inl ((x.1.1, (), (IntKind.i64.wrap (x.1.2.2.1 + (1 : Int))), ()), ((x.2.1.set x.1.2.2.1.toNat e2), ())))) else none else none) else none else some (.inr (.inl (((), ()), (x.2.1, ()))))
def Bfl_toIntS_0 : Blk' := loopB 0 Tfl_toIntS_0 Xfl_toIntS_0 Lfl_toIntS_0 (fun _ => big)
theorem lp_fl_toIntS_0 : BlkOK Tryz.prog 22 (.block 0 (.loop (bodyOf (codeOf Tryz.f35) 0))) Bfl_toIntS_0 := loopP 22 [] [] trivial blks_none fun x => by kernel_rfl
def fl_toIntS (x0 : List Int) : Option ((List Int)) := if 0 <= (x0.length : Int) /\ (x0.length : Int) <= (x0.length : Int) /\ (x0.length : Int) < 1073741824 then (iter Lfl_toIntS_0 big ((x0, (), (0 : Int), ()), ((List.replicate (x0.length : Int).toNat (0 : Int)), ()))).bind (Sum.elim (fun z6 => some z6.2.1) (fun z => nomatch z)) else none
def c_fl_toIntS : Ctr := ctrT [(false, (.sl .int))] [(false, (.sl .int), 2)] (fun x => fl_toIntS x.1)
theorem ok_fl_toIntS : enters Tryz.prog 35 /\ CtrOK Tryz.prog 35 c_fl_toIntS := fnP 22 [] [(0, Bfl_toIntS_0)] Tryz.func35 trivial (blks_ok (by kernel_rfl) _ ⟨⟨_, by kernel_rfl, lp_fl_toIntS_0⟩, trivial⟩) fun x => by kernel_rfl
def fl_toPowerRule (x0 : DPowerRule) : Option (DPowerRule) := some x0
def c_fl_toPowerRule : Ctr := ctrT [(true, .PowerRule)] [(true, .PowerRule, 0)] (fun x => fl_toPowerRule x.1)
theorem ok_fl_toPowerRule : enters Tryz.prog 147 /\ CtrOK Tryz.prog 147 c_fl_toPowerRule := fnP 11 [] [] Tryz.func147 trivial blks_none fun x => by kernel_rfl
def fl_toPolicy (x0 : DPolicy) : Option (DPolicy) := (fl_toIntS x0.weights).bind fun y1 => (fl_toPowerRule x0.rule).bind fun y2 => some (⟨x0.page, x0.cap, x0.limit, x0.low, x0.high, y1, ⟨y2.down, y2.sleep⟩⟩ : DPolicy)
def c_fl_toPolicy : Ctr := ctrT [(true, .Policy)] [(true, .Policy, 2)] (fun x => fl_toPolicy x.1)
theorem ok_fl_toPolicy : enters Tryz.prog 90 /\ CtrOK Tryz.prog 90 c_fl_toPolicy := fnP 28 [(35, .p c_fl_toIntS), (147, .p c_fl_toPowerRule)] [] Tryz.func90 ⟨ok_fl_toIntS, ok_fl_toPowerRule, trivial⟩ blks_none fun x => by kernel_rfl
def fl_toPolicyBox (x0 : DPolicyBox) : Option (DPolicyBox) := (fl_toPolicy x0.active).bind fun y1 => (fl_toPolicy x0.next).bind fun y2 => some (⟨⟨y1.page, y1.cap, y1.limit, y1.low, y1.high, y1.weights, ⟨y1.rule.down, y1.rule.sleep⟩⟩, ⟨y2.page, y2.cap, y2.limit, y2.low, y2.high, y2.weights, ⟨y2.rule.down, y2.rule.sleep⟩⟩, x0.waits⟩ : DPolicyBox)
def c_fl_toPolicyBox : Ctr := ctrT [(true, .PolicyBox)] [(true, .PolicyBox, 2)] (fun x => fl_toPolicyBox x.1)
theorem ok_fl_toPolicyBox : enters Tryz.prog 28 /\ CtrOK Tryz.prog 28 c_fl_toPolicyBox := fnP 16 [(90, .p c_fl_toPolicy)] [] Tryz.func28 ⟨ok_fl_toPolicy, trivial⟩ blks_none fun x => by kernel_rfl
def fl_toBank (x0 : DBank) : Option (DBank) := some x0
def c_fl_toBank : Ctr := ctrT [(true, .Bank)] [(true, .Bank, 0)] (fun x => fl_toBank x.1)
theorem ok_fl_toBank : enters Tryz.prog 148 /\ CtrOK Tryz.prog 148 c_fl_toBank := fnP 11 [] [] Tryz.func148 trivial blks_none fun x => by kernel_rfl
def Tfl_toBankS_0 : Tpl := ⟨[(0, .lf (.fro .Bank 0)), (3, .lf (.own 7)), (4, .lf (.int .i64))], [(7, .sl .Bank 2)]⟩
def Xfl_toBankS_0 : List (Nat × Tpl) := [(2, ⟨[(3, .lf (.own 7))], [(7, .sl .Bank 2)]⟩)]
def Lfl_toBankS_0 (x : (((List DBank) × Unit × Int × Unit) × ((List DBank) × Unit))) : Option ((((List DBank) × Unit × Int × Unit) × ((List DBank) × Unit)) ⊕ (((Unit × Unit) × ((List DBank) × Unit)) ⊕ Empty)) := bif (decide (x.1.2.2.1 < (x.1.1.length : Int))) then if h1 : 0 <= x.1.2.2.1 /\ x.1.2.2.1.toNat < x.1.1.length then (let e2 := x.1.1[x.1.2.2.1.toNat]'h1.2; (fl_toBank e2).bind fun y3 => if h4 : 0 <= x.1.2.2.1 /\ x.1.2.2.1.toNat < x.2.1.length then if h5 : x.1.2.2.1.toNat < x.2.1.length then (let e6 := x.2.1[x.1.2.2.1.toNat]'h5; some (.inl ((x.1.1, (), (IntKind.i64.wrap (x.1.2.2.1 + (1 : Int))), ()), ((x.2.1.set x.1.2.2.1.toNat y3), ())))) else none else none) else none else some (.inr (.inl (((), ()), (x.2.1, ()))))
def Bfl_toBankS_0 : Blk' := loopB 0 Tfl_toBankS_0 Xfl_toBankS_0 Lfl_toBankS_0 (fun _ => big)
theorem lp_fl_toBankS_0 : BlkOK Tryz.prog 23 (.block 0 (.loop (bodyOf (codeOf Tryz.f91) 0))) Bfl_toBankS_0 := loopP 23 [(148, .p c_fl_toBank)] [] ⟨ok_fl_toBank, trivial⟩ blks_none fun x => by kernel_rfl
def fl_toBankS (x0 : List DBank) : Option ((List DBank)) := if 0 <= (x0.length : Int) /\ (x0.length : Int) <= (x0.length : Int) /\ (x0.length : Int) < 1073741824 then (iter Lfl_toBankS_0 big ((x0, (), (0 : Int), ()), ((List.replicate (x0.length : Int).toNat (⟨false, (0 : Int)⟩ : DBank)), ()))).bind (Sum.elim (fun z7 => some z7.2.1) (fun z => nomatch z)) else none
def c_fl_toBankS : Ctr := ctrT [(false, (.sl .Bank))] [(false, (.sl .Bank), 2)] (fun x => fl_toBankS x.1)
theorem ok_fl_toBankS : enters Tryz.prog 91 /\ CtrOK Tryz.prog 91 c_fl_toBankS := fnP 23 [] [(0, Bfl_toBankS_0)] Tryz.func91 trivial (blks_ok (by kernel_rfl) _ ⟨⟨_, by kernel_rfl, lp_fl_toBankS_0⟩, trivial⟩) fun x => by kernel_rfl
def fl_toRank (x0 : DRank) : Option (DRank) := (fl_toBankS x0.banks).bind fun y1 => some (⟨y1, x0.power⟩ : DRank)
def c_fl_toRank : Ctr := ctrT [(true, .Rank)] [(true, .Rank, 2)] (fun x => fl_toRank x.1)
theorem ok_fl_toRank : enters Tryz.prog 29 /\ CtrOK Tryz.prog 29 c_fl_toRank := fnP 12 [(91, .p c_fl_toBankS)] [] Tryz.func29 ⟨ok_fl_toBankS, trivial⟩ blks_none fun x => by kernel_rfl
def fl_toReady (x0 : DReady) : Option (DReady) := (fl_toIntS x0.last).bind fun y1 => (fl_toIntS x0.acts).bind fun y2 => some (⟨y1, y2⟩ : DReady)
def c_fl_toReady : Ctr := ctrT [(true, .Ready)] [(true, .Ready, 2)] (fun x => fl_toReady x.1)
theorem ok_fl_toReady : enters Tryz.prog 30 /\ CtrOK Tryz.prog 30 c_fl_toReady := fnP 13 [(35, .p c_fl_toIntS)] [] Tryz.func30 ⟨ok_fl_toIntS, trivial⟩ blks_none fun x => by kernel_rfl
def fl_toCell (x0 : DCell) : Option (DCell) := (fl_toIntS x0.symbols).bind fun y1 => some (⟨y1, x0.poison⟩ : DCell)
def c_fl_toCell : Ctr := ctrT [(true, .Cell)] [(true, .Cell, 2)] (fun x => fl_toCell x.1)
theorem ok_fl_toCell : enters Tryz.prog 149 /\ CtrOK Tryz.prog 149 c_fl_toCell := fnP 12 [(35, .p c_fl_toIntS)] [] Tryz.func149 ⟨ok_fl_toIntS, trivial⟩ blks_none fun x => by kernel_rfl
def Tfl_toCellS_0 : Tpl := ⟨[(0, .lf (.fro .Cell 0)), (3, .lf (.own 7)), (4, .lf (.int .i64))], [(7, .sl .Cell 4)]⟩
def Xfl_toCellS_0 : List (Nat × Tpl) := [(2, ⟨[(3, .lf (.own 7))], [(7, .sl .Cell 4)]⟩)]
def Lfl_toCellS_0 (x : (((List DCell) × Unit × Int × Unit) × ((List DCell) × Unit))) : Option ((((List DCell) × Unit × Int × Unit) × ((List DCell) × Unit)) ⊕ (((Unit × Unit) × ((List DCell) × Unit)) ⊕ Empty)) := bif (decide (x.1.2.2.1 < (x.1.1.length : Int))) then if h1 : 0 <= x.1.2.2.1 /\ x.1.2.2.1.toNat < x.1.1.length then (let e2 := x.1.1[x.1.2.2.1.toNat]'h1.2; (fl_toCell e2).bind fun y3 => if h4 : 0 <= x.1.2.2.1 /\ x.1.2.2.1.toNat < x.2.1.length then if h5 : x.1.2.2.1.toNat < x.2.1.length then (let e6 := x.2.1[x.1.2.2.1.toNat]'h5; some (.inl ((x.1.1, (), (IntKind.i64.wrap (x.1.2.2.1 + (1 : Int))), ()), ((x.2.1.set x.1.2.2.1.toNat y3), ())))) else none else none) else none else some (.inr (.inl (((), ()), (x.2.1, ()))))
def Bfl_toCellS_0 : Blk' := loopB 0 Tfl_toCellS_0 Xfl_toCellS_0 Lfl_toCellS_0 (fun _ => big)
theorem lp_fl_toCellS_0 : BlkOK Tryz.prog 23 (.block 0 (.loop (bodyOf (codeOf Tryz.f92) 0))) Bfl_toCellS_0 := loopP 23 [(149, .p c_fl_toCell)] [] ⟨ok_fl_toCell, trivial⟩ blks_none fun x => by kernel_rfl
def fl_toCellS (x0 : List DCell) : Option ((List DCell)) := if 0 <= (x0.length : Int) /\ (x0.length : Int) <= (x0.length : Int) /\ (x0.length : Int) < 1073741824 then (iter Lfl_toCellS_0 big ((x0, (), (0 : Int), ()), ((List.replicate (x0.length : Int).toNat (⟨[], false⟩ : DCell)), ()))).bind (Sum.elim (fun z7 => some z7.2.1) (fun z => nomatch z)) else none
def c_fl_toCellS : Ctr := ctrT [(false, (.sl .Cell))] [(false, (.sl .Cell), 4)] (fun x => fl_toCellS x.1)
theorem ok_fl_toCellS : enters Tryz.prog 92 /\ CtrOK Tryz.prog 92 c_fl_toCellS := fnP 23 [] [(0, Bfl_toCellS_0)] Tryz.func92 trivial (blks_ok (by kernel_rfl) _ ⟨⟨_, by kernel_rfl, lp_fl_toCellS_0⟩, trivial⟩) fun x => by kernel_rfl
def fl_toArray (x0 : DArray) : Option (DArray) := (fl_toCellS x0.cells).bind fun y1 => (fl_toIntS x0.age).bind fun y2 => (fl_toIntS x0.hits).bind fun y3 => some (⟨y1, y2, y3⟩ : DArray)
def c_fl_toArray : Ctr := ctrT [(true, .Array)] [(true, .Array, 4)] (fun x => fl_toArray x.1)
theorem ok_fl_toArray : enters Tryz.prog 31 /\ CtrOK Tryz.prog 31 c_fl_toArray := fnP 17 [(35, .p c_fl_toIntS), (92, .p c_fl_toCellS)] [] Tryz.func31 ⟨ok_fl_toIntS, ok_fl_toCellS, trivial⟩ blks_none fun x => by kernel_rfl
def fl_toSpare (x0 : DSpare) : Option (DSpare) := (fl_toIntS x0.map).bind fun y1 => some (⟨x0.spares, y1⟩ : DSpare)
def c_fl_toSpare : Ctr := ctrT [(true, .Spare)] [(true, .Spare, 2)] (fun x => fl_toSpare x.1)
theorem ok_fl_toSpare : enters Tryz.prog 32 /\ CtrOK Tryz.prog 32 c_fl_toSpare := fnP 12 [(35, .p c_fl_toIntS)] [] Tryz.func32 ⟨ok_fl_toIntS, trivial⟩ blks_none fun x => by kernel_rfl
def fl_toRefresh (x0 : DRefresh) : Option (DRefresh) := (fl_toIntS x0.debt).bind fun y1 => some (⟨y1, x0.wait, x0.hot⟩ : DRefresh)
def c_fl_toRefresh : Ctr := ctrT [(true, .Refresh)] [(true, .Refresh, 2)] (fun x => fl_toRefresh x.1)
theorem ok_fl_toRefresh : enters Tryz.prog 33 /\ CtrOK Tryz.prog 33 c_fl_toRefresh := fnP 15 [(35, .p c_fl_toIntS)] [] Tryz.func33 ⟨ok_fl_toIntS, trivial⟩ blks_none fun x => by kernel_rfl
def fl_toTracker (x0 : DTracker) : Option (DTracker) := (fl_toIntS x0.rows).bind fun y1 => (fl_toIntS x0.counts).bind fun y2 => some (⟨y1, y2, x0.spill⟩ : DTracker)
def c_fl_toTracker : Ctr := ctrT [(true, .Tracker)] [(true, .Tracker, 2)] (fun x => fl_toTracker x.1)
theorem ok_fl_toTracker : enters Tryz.prog 93 /\ CtrOK Tryz.prog 93 c_fl_toTracker := fnP 16 [(35, .p c_fl_toIntS)] [] Tryz.func93 ⟨ok_fl_toIntS, trivial⟩ blks_none fun x => by kernel_rfl
def Tfl_toTrackerS_0 : Tpl := ⟨[(0, .lf (.fro .Tracker 0)), (3, .lf (.own 7)), (4, .lf (.int .i64))], [(7, .sl .Tracker 4)]⟩
def Xfl_toTrackerS_0 : List (Nat × Tpl) := [(2, ⟨[(3, .lf (.own 7))], [(7, .sl .Tracker 4)]⟩)]
def Lfl_toTrackerS_0 (x : (((List DTracker) × Unit × Int × Unit) × ((List DTracker) × Unit))) : Option ((((List DTracker) × Unit × Int × Unit) × ((List DTracker) × Unit)) ⊕ (((Unit × Unit) × ((List DTracker) × Unit)) ⊕ Empty)) := bif (decide (x.1.2.2.1 < (x.1.1.length : Int))) then if h1 : 0 <= x.1.2.2.1 /\ x.1.2.2.1.toNat < x.1.1.length then (let e2 := x.1.1[x.1.2.2.1.toNat]'h1.2; (fl_toTracker e2).bind fun y3 => if h4 : 0 <= x.1.2.2.1 /\ x.1.2.2.1.toNat < x.2.1.length then if h5 : x.1.2.2.1.toNat < x.2.1.length then (let e6 := x.2.1[x.1.2.2.1.toNat]'h5; some (.inl ((x.1.1, (), (IntKind.i64.wrap (x.1.2.2.1 + (1 : Int))), ()), ((x.2.1.set x.1.2.2.1.toNat y3), ())))) else none else none) else none else some (.inr (.inl (((), ()), (x.2.1, ()))))
def Bfl_toTrackerS_0 : Blk' := loopB 0 Tfl_toTrackerS_0 Xfl_toTrackerS_0 Lfl_toTrackerS_0 (fun _ => big)
theorem lp_fl_toTrackerS_0 : BlkOK Tryz.prog 23 (.block 0 (.loop (bodyOf (codeOf Tryz.f34) 0))) Bfl_toTrackerS_0 := loopP 23 [(93, .p c_fl_toTracker)] [] ⟨ok_fl_toTracker, trivial⟩ blks_none fun x => by kernel_rfl
def fl_toTrackerS (x0 : List DTracker) : Option ((List DTracker)) := if 0 <= (x0.length : Int) /\ (x0.length : Int) <= (x0.length : Int) /\ (x0.length : Int) < 1073741824 then (iter Lfl_toTrackerS_0 big ((x0, (), (0 : Int), ()), ((List.replicate (x0.length : Int).toNat (⟨[], [], (0 : Int)⟩ : DTracker)), ()))).bind (Sum.elim (fun z7 => some z7.2.1) (fun z => nomatch z)) else none
def c_fl_toTrackerS : Ctr := ctrT [(false, (.sl .Tracker))] [(false, (.sl .Tracker), 4)] (fun x => fl_toTrackerS x.1)
theorem ok_fl_toTrackerS : enters Tryz.prog 34 /\ CtrOK Tryz.prog 34 c_fl_toTrackerS := fnP 23 [] [(0, Bfl_toTrackerS_0)] Tryz.func34 trivial (blks_ok (by kernel_rfl) _ ⟨⟨_, by kernel_rfl, lp_fl_toTrackerS_0⟩, trivial⟩) fun x => by kernel_rfl
end Go.Proofs.YtmlaeegoddldeaaGreat
