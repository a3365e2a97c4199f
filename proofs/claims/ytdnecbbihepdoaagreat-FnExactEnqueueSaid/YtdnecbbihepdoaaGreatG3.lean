/-
  Functions of the program as plain functions of contents, and that the code computes them. Nothing here is a claim.
-/
import Derived.Test.YtdnecbbihepdoaaGreatVZ
import Derived.Test.YtdnecbbihepdoaaGreatRows
import Derived.Test.YtdnecbbihepdoaaGreatG1
import Derived.Test.YtdnecbbihepdoaaGreatG2
namespace Go.Proofs.YtdnecbbihepdoaaGreat
open Go.RowKit
set_option linter.unusedVariables false
set_option maxRecDepth 100000
def fl_toPowerRule(x0:DPowerRule):Option (DPowerRule):=some x0
def c_fl_toPowerRule:Ctr:=ctrT [(true,.PowerRule)] [(true,.PowerRule,0)] (fun x=>fl_toPowerRule x.1)
theorem ok_fl_toPowerRule:enters Tryz.prog 209/\CtrOK Tryz.prog 209 c_fl_toPowerRule:=fnP 11 [] [] Tryz.func209 trivial blks_none fun x=>by kernel_rfl
def fl_toPolicy(x0:DPolicy):Option (DPolicy):=(fl_toIntS x0.weights).bind fun y1=>(fl_toPowerRule x0.rule).bind fun y2=>some (⟨x0.page,x0.cap,x0.limit,x0.low,x0.high,y1,y2⟩:DPolicy)
def c_fl_toPolicy:Ctr:=ctrT [(true,.Policy)] [(true,.Policy,2)] (fun x=>fl_toPolicy x.1)
theorem ok_fl_toPolicy:enters Tryz.prog 131/\CtrOK Tryz.prog 131 c_fl_toPolicy:=fnP 28 [(37,.p c_fl_toIntS),(209,.p c_fl_toPowerRule)] [] Tryz.func131 ⟨ok_fl_toIntS,ok_fl_toPowerRule,trivial⟩ blks_none fun x=>by kernel_rfl
def fl_toPolicyBox(x0:DPolicyBox):Option (DPolicyBox):=(fl_toPolicy x0.active).bind fun y1=>(fl_toPolicy x0.next).bind fun y2=>some (⟨y1,y2,x0.waits⟩:DPolicyBox)
def c_fl_toPolicyBox:Ctr:=ctrT [(true,.PolicyBox)] [(true,.PolicyBox,2)] (fun x=>fl_toPolicyBox x.1)
theorem ok_fl_toPolicyBox:enters Tryz.prog 30/\CtrOK Tryz.prog 30 c_fl_toPolicyBox:=fnP 16 [(131,.p c_fl_toPolicy)] [] Tryz.func30 ⟨ok_fl_toPolicy,trivial⟩ blks_none fun x=>by kernel_rfl
def fl_toBank(x0:DBank):Option (DBank):=some x0
def c_fl_toBank:Ctr:=ctrT [(true,.Bank)] [(true,.Bank,0)] (fun x=>fl_toBank x.1)
theorem ok_fl_toBank:enters Tryz.prog 210/\CtrOK Tryz.prog 210 c_fl_toBank:=fnP 11 [] [] Tryz.func210 trivial blks_none fun x=>by kernel_rfl
def Tfl_toBankS_0:Tpl:=⟨[(0,.lf (.fro .Bank 0)),(3,.lf (.own 7)),(4,.lf (.int .i64))],[(7,.sl .Bank 2)],[]⟩
def Xfl_toBankS_0:List (Nat×Tpl):=[(2,⟨[(3,.lf (.own 7))],[(7,.sl .Bank 2)],[]⟩)]
abbrev Sfl_toBankS_0:=(((List DBank)×Unit×Int×Unit)×((List DBank)×Unit))
def Lfl_toBankS_0(x:Sfl_toBankS_0):Option (Sfl_toBankS_0⊕(((Unit×Unit)×((List DBank)×Unit))⊕Empty)):=bif (decide (x.1.2.2.1<(x.1.1.length:Int)))then if h1:0 <= x.1.2.2.1/\x.1.2.2.1.toNat<x.1.1.length then (let e2:=x.1.1[x.1.2.2.1.toNat]'h1.2;(fl_toBank e2).bind fun y3=>if h4:0 <= x.1.2.2.1/\x.1.2.2.1.toNat<x.2.1.length then if h5:x.1.2.2.1.toNat<x.2.1.length then (let e6:=x.2.1[x.1.2.2.1.toNat]'h5;some (.inl ((x.1.1,(),(IntKind.i64.wrap (x.1.2.2.1+(1:Int))),()),((x.2.1.set x.1.2.2.1.toNat y3),()))))else none else none)else none else some (.inr (.inl (((),()),(x.2.1,()))))
def Bfl_toBankS_0:Blk':=loopB 0 Tfl_toBankS_0 Xfl_toBankS_0 Lfl_toBankS_0 (fun _=>big)
theorem lp_fl_toBankS_0:BlkOK Tryz.prog 23 (.block 0 (.loop (bodyOf (codeOf Tryz.f132) 0))) Bfl_toBankS_0:=loopP 23 [(210,.p c_fl_toBank)] [] ⟨ok_fl_toBank,trivial⟩ blks_none fun x=>by kernel_rfl
def fl_toBankS(x0:List DBank):Option ((List DBank)):=if 0 <= (x0.length:Int)/\(x0.length:Int) <= (x0.length:Int)/\(x0.length:Int)<1073741824 then (iter Lfl_toBankS_0 big ((x0,(),(0:Int),()),((List.replicate (x0.length:Int).toNat (⟨false,(0:Int)⟩:DBank)),()))).bind (Sum.elim (fun z7=>some z7.2.1) (fun z=>nomatch z))else none
def c_fl_toBankS:Ctr:=ctrT [(false,(.sl .Bank))] [(false,(.sl .Bank),2)] (fun x=>fl_toBankS x.1)
theorem ok_fl_toBankS:enters Tryz.prog 132/\CtrOK Tryz.prog 132 c_fl_toBankS:=fnP 23 [] [(0,Bfl_toBankS_0)] Tryz.func132 trivial (blks_ok (by kernel_rfl) _ ⟨⟨_,by kernel_rfl,lp_fl_toBankS_0⟩,trivial⟩) fun x=>by kernel_rfl
def fl_toRank(x0:DRank):Option (DRank):=(fl_toBankS x0.banks).bind fun y1=>some (⟨y1,x0.power⟩:DRank)
def c_fl_toRank:Ctr:=ctrT [(true,.Rank)] [(true,.Rank,2)] (fun x=>fl_toRank x.1)
theorem ok_fl_toRank:enters Tryz.prog 31/\CtrOK Tryz.prog 31 c_fl_toRank:=fnP 12 [(132,.p c_fl_toBankS)] [] Tryz.func31 ⟨ok_fl_toBankS,trivial⟩ blks_none fun x=>by kernel_rfl
def fl_toReady(x0:DReady):Option (DReady):=(fl_toIntS x0.last).bind fun y1=>(fl_toIntS x0.acts).bind fun y2=>some (⟨y1,y2⟩:DReady)
def c_fl_toReady:Ctr:=ctrT [(true,.Ready)] [(true,.Ready,2)] (fun x=>fl_toReady x.1)
theorem ok_fl_toReady:enters Tryz.prog 32/\CtrOK Tryz.prog 32 c_fl_toReady:=fnP 13 [(37,.p c_fl_toIntS)] [] Tryz.func32 ⟨ok_fl_toIntS,trivial⟩ blks_none fun x=>by kernel_rfl
def fl_toCell(x0:DCell):Option (DCell):=(fl_toIntS x0.symbols).bind fun y1=>some (⟨y1,x0.poison⟩:DCell)
def c_fl_toCell:Ctr:=ctrT [(true,.Cell)] [(true,.Cell,2)] (fun x=>fl_toCell x.1)
theorem ok_fl_toCell:enters Tryz.prog 211/\CtrOK Tryz.prog 211 c_fl_toCell:=fnP 12 [(37,.p c_fl_toIntS)] [] Tryz.func211 ⟨ok_fl_toIntS,trivial⟩ blks_none fun x=>by kernel_rfl
def Tfl_toCellS_0:Tpl:=⟨[(0,.lf (.fro .Cell 0)),(3,.lf (.own 7)),(4,.lf (.int .i64))],[(7,.sl .Cell 4)],[]⟩
def Xfl_toCellS_0:List (Nat×Tpl):=[(2,⟨[(3,.lf (.own 7))],[(7,.sl .Cell 4)],[]⟩)]
abbrev Sfl_toCellS_0:=(((List DCell)×Unit×Int×Unit)×((List DCell)×Unit))
def Lfl_toCellS_0(x:Sfl_toCellS_0):Option (Sfl_toCellS_0⊕(((Unit×Unit)×((List DCell)×Unit))⊕Empty)):=bif (decide (x.1.2.2.1<(x.1.1.length:Int)))then if h1:0 <= x.1.2.2.1/\x.1.2.2.1.toNat<x.1.1.length then (let e2:=x.1.1[x.1.2.2.1.toNat]'h1.2;(fl_toCell e2).bind fun y3=>if h4:0 <= x.1.2.2.1/\x.1.2.2.1.toNat<x.2.1.length then if h5:x.1.2.2.1.toNat<x.2.1.length then (let e6:=x.2.1[x.1.2.2.1.toNat]'h5;some (.inl ((x.1.1,(),(IntKind.i64.wrap (x.1.2.2.1+(1:Int))),()),((x.2.1.set x.1.2.2.1.toNat y3),()))))else none else none)else none else some (.inr (.inl (((),()),(x.2.1,()))))
def Bfl_toCellS_0:Blk':=loopB 0 Tfl_toCellS_0 Xfl_toCellS_0 Lfl_toCellS_0 (fun _=>big)
theorem lp_fl_toCellS_0:BlkOK Tryz.prog 23 (.block 0 (.loop (bodyOf (codeOf Tryz.f133) 0))) Bfl_toCellS_0:=loopP 23 [(211,.p c_fl_toCell)] [] ⟨ok_fl_toCell,trivial⟩ blks_none fun x=>by kernel_rfl
def fl_toCellS(x0:List DCell):Option ((List DCell)):=if 0 <= (x0.length:Int)/\(x0.length:Int) <= (x0.length:Int)/\(x0.length:Int)<1073741824 then (iter Lfl_toCellS_0 big ((x0,(),(0:Int),()),((List.replicate (x0.length:Int).toNat (⟨[],false⟩:DCell)),()))).bind (Sum.elim (fun z7=>some z7.2.1) (fun z=>nomatch z))else none
def c_fl_toCellS:Ctr:=ctrT [(false,(.sl .Cell))] [(false,(.sl .Cell),4)] (fun x=>fl_toCellS x.1)
theorem ok_fl_toCellS:enters Tryz.prog 133/\CtrOK Tryz.prog 133 c_fl_toCellS:=fnP 23 [] [(0,Bfl_toCellS_0)] Tryz.func133 trivial (blks_ok (by kernel_rfl) _ ⟨⟨_,by kernel_rfl,lp_fl_toCellS_0⟩,trivial⟩) fun x=>by kernel_rfl
def fl_toArray(x0:DArray):Option (DArray):=(fl_toCellS x0.cells).bind fun y1=>(fl_toIntS x0.age).bind fun y2=>(fl_toIntS x0.hits).bind fun y3=>some (⟨y1,y2,y3⟩:DArray)
def c_fl_toArray:Ctr:=ctrT [(true,.Array)] [(true,.Array,4)] (fun x=>fl_toArray x.1)
theorem ok_fl_toArray:enters Tryz.prog 33/\CtrOK Tryz.prog 33 c_fl_toArray:=fnP 17 [(37,.p c_fl_toIntS),(133,.p c_fl_toCellS)] [] Tryz.func33 ⟨ok_fl_toIntS,ok_fl_toCellS,trivial⟩ blks_none fun x=>by kernel_rfl
def fl_toSpare(x0:DSpare):Option (DSpare):=(fl_toIntS x0.map).bind fun y1=>some (⟨x0.spares,y1⟩:DSpare)
def c_fl_toSpare:Ctr:=ctrT [(true,.Spare)] [(true,.Spare,2)] (fun x=>fl_toSpare x.1)
theorem ok_fl_toSpare:enters Tryz.prog 34/\CtrOK Tryz.prog 34 c_fl_toSpare:=fnP 12 [(37,.p c_fl_toIntS)] [] Tryz.func34 ⟨ok_fl_toIntS,trivial⟩ blks_none fun x=>by kernel_rfl
def fl_toRefresh(x0:DRefresh):Option (DRefresh):=(fl_toIntS x0.debt).bind fun y1=>some (⟨y1,x0.wait,x0.hot⟩:DRefresh)
def c_fl_toRefresh:Ctr:=ctrT [(true,.Refresh)] [(true,.Refresh,2)] (fun x=>fl_toRefresh x.1)
theorem ok_fl_toRefresh:enters Tryz.prog 35/\CtrOK Tryz.prog 35 c_fl_toRefresh:=fnP 15 [(37,.p c_fl_toIntS)] [] Tryz.func35 ⟨ok_fl_toIntS,trivial⟩ blks_none fun x=>by kernel_rfl
def fl_toTracker(x0:DTracker):Option (DTracker):=(fl_toIntS x0.rows).bind fun y1=>(fl_toIntS x0.counts).bind fun y2=>some (⟨y1,y2,x0.spill⟩:DTracker)
def c_fl_toTracker:Ctr:=ctrT [(true,.Tracker)] [(true,.Tracker,2)] (fun x=>fl_toTracker x.1)
theorem ok_fl_toTracker:enters Tryz.prog 134/\CtrOK Tryz.prog 134 c_fl_toTracker:=fnP 16 [(37,.p c_fl_toIntS)] [] Tryz.func134 ⟨ok_fl_toIntS,trivial⟩ blks_none fun x=>by kernel_rfl
def Tfl_toTrackerS_0:Tpl:=⟨[(0,.lf (.fro .Tracker 0)),(3,.lf (.own 7)),(4,.lf (.int .i64))],[(7,.sl .Tracker 4)],[]⟩
def Xfl_toTrackerS_0:List (Nat×Tpl):=[(2,⟨[(3,.lf (.own 7))],[(7,.sl .Tracker 4)],[]⟩)]
abbrev Sfl_toTrackerS_0:=(((List DTracker)×Unit×Int×Unit)×((List DTracker)×Unit))
def Lfl_toTrackerS_0(x:Sfl_toTrackerS_0):Option (Sfl_toTrackerS_0⊕(((Unit×Unit)×((List DTracker)×Unit))⊕Empty)):=bif (decide (x.1.2.2.1<(x.1.1.length:Int)))then if h1:0 <= x.1.2.2.1/\x.1.2.2.1.toNat<x.1.1.length then (let e2:=x.1.1[x.1.2.2.1.toNat]'h1.2;(fl_toTracker e2).bind fun y3=>if h4:0 <= x.1.2.2.1/\x.1.2.2.1.toNat<x.2.1.length then if h5:x.1.2.2.1.toNat<x.2.1.length then (let e6:=x.2.1[x.1.2.2.1.toNat]'h5;some (.inl ((x.1.1,(),(IntKind.i64.wrap (x.1.2.2.1+(1:Int))),()),((x.2.1.set x.1.2.2.1.toNat y3),()))))else none else none)else none else some (.inr (.inl (((),()),(x.2.1,()))))
def Bfl_toTrackerS_0:Blk':=loopB 0 Tfl_toTrackerS_0 Xfl_toTrackerS_0 Lfl_toTrackerS_0 (fun _=>big)
theorem lp_fl_toTrackerS_0:BlkOK Tryz.prog 23 (.block 0 (.loop (bodyOf (codeOf Tryz.f36) 0))) Bfl_toTrackerS_0:=loopP 23 [(134,.p c_fl_toTracker)] [] ⟨ok_fl_toTracker,trivial⟩ blks_none fun x=>by kernel_rfl
def fl_toTrackerS(x0:List DTracker):Option ((List DTracker)):=if 0 <= (x0.length:Int)/\(x0.length:Int) <= (x0.length:Int)/\(x0.length:Int)<1073741824 then (iter Lfl_toTrackerS_0 big ((x0,(),(0:Int),()),((List.replicate (x0.length:Int).toNat (⟨[],[],(0:Int)⟩:DTracker)),()))).bind (Sum.elim (fun z7=>some z7.2.1) (fun z=>nomatch z))else none
def c_fl_toTrackerS:Ctr:=ctrT [(false,(.sl .Tracker))] [(false,(.sl .Tracker),4)] (fun x=>fl_toTrackerS x.1)
theorem ok_fl_toTrackerS:enters Tryz.prog 36/\CtrOK Tryz.prog 36 c_fl_toTrackerS:=fnP 23 [] [(0,Bfl_toTrackerS_0)] Tryz.func36 trivial (blks_ok (by kernel_rfl) _ ⟨⟨_,by kernel_rfl,lp_fl_toTrackerS_0⟩,trivial⟩) fun x=>by kernel_rfl
def fl_toAddr(x0:DAddr):Option (DAddr):=some x0
def c_fl_toAddr:Ctr:=ctrT [(true,.Addr)] [(true,.Addr,0)] (fun x=>fl_toAddr x.1)
theorem ok_fl_toAddr:enters Tryz.prog 135/\CtrOK Tryz.prog 135 c_fl_toAddr:=fnP 14 [] [] Tryz.func135 trivial blks_none fun x=>by kernel_rfl
def Tfl_toAddrS_0:Tpl:=⟨[(0,.lf (.fro .Addr 0)),(3,.lf (.own 7)),(4,.lf (.int .i64))],[(7,.sl .Addr 2)],[]⟩
def Xfl_toAddrS_0:List (Nat×Tpl):=[(2,⟨[(3,.lf (.own 7))],[(7,.sl .Addr 2)],[]⟩)]
abbrev Sfl_toAddrS_0:=(((List DAddr)×Unit×Int×Unit)×((List DAddr)×Unit))
def Lfl_toAddrS_0(x:Sfl_toAddrS_0):Option (Sfl_toAddrS_0⊕(((Unit×Unit)×((List DAddr)×Unit))⊕Empty)):=bif (decide (x.1.2.2.1<(x.1.1.length:Int)))then if h1:0 <= x.1.2.2.1/\x.1.2.2.1.toNat<x.1.1.length then (let e2:=x.1.1[x.1.2.2.1.toNat]'h1.2;(fl_toAddr e2).bind fun y3=>if h4:0 <= x.1.2.2.1/\x.1.2.2.1.toNat<x.2.1.length then if h5:x.1.2.2.1.toNat<x.2.1.length then (let e6:=x.2.1[x.1.2.2.1.toNat]'h5;some (.inl ((x.1.1,(),(IntKind.i64.wrap (x.1.2.2.1+(1:Int))),()),((x.2.1.set x.1.2.2.1.toNat y3),()))))else none else none)else none else some (.inr (.inl (((),()),(x.2.1,()))))
def Bfl_toAddrS_0:Blk':=loopB 0 Tfl_toAddrS_0 Xfl_toAddrS_0 Lfl_toAddrS_0 (fun _=>big)
theorem lp_fl_toAddrS_0:BlkOK Tryz.prog 23 (.block 0 (.loop (bodyOf (codeOf Tryz.f38) 0))) Bfl_toAddrS_0:=loopP 23 [(135,.p c_fl_toAddr)] [] ⟨ok_fl_toAddr,trivial⟩ blks_none fun x=>by kernel_rfl
def fl_toAddrS(x0:List DAddr):Option ((List DAddr)):=if 0 <= (x0.length:Int)/\(x0.length:Int) <= (x0.length:Int)/\(x0.length:Int)<1073741824 then (iter Lfl_toAddrS_0 big ((x0,(),(0:Int),()),((List.replicate (x0.length:Int).toNat (⟨(0:Int),(0:Int),(0:Int)⟩:DAddr)),()))).bind (Sum.elim (fun z7=>some z7.2.1) (fun z=>nomatch z))else none
def c_fl_toAddrS:Ctr:=ctrT [(false,(.sl .Addr))] [(false,(.sl .Addr),2)] (fun x=>fl_toAddrS x.1)
theorem ok_fl_toAddrS:enters Tryz.prog 38/\CtrOK Tryz.prog 38 c_fl_toAddrS:=fnP 23 [] [(0,Bfl_toAddrS_0)] Tryz.func38 trivial (blks_ok (by kernel_rfl) _ ⟨⟨_,by kernel_rfl,lp_fl_toAddrS_0⟩,trivial⟩) fun x=>by kernel_rfl
def fl_toRequest(x0:DReq):Option (DReq):=some x0
def c_fl_toRequest:Ctr:=ctrT [(true,.Req)] [(true,.Req,0)] (fun x=>fl_toRequest x.1)
theorem ok_fl_toRequest:enters Tryz.prog 7/\CtrOK Tryz.prog 7 c_fl_toRequest:=fnP 23 [] [] Tryz.func7 trivial blks_none fun x=>by kernel_rfl
def Tfl_toRequestS_0:Tpl:=⟨[(0,.lf (.fro .Req 0)),(3,.lf (.own 7)),(4,.lf (.int .i64))],[(7,.sl .Req 2)],[]⟩
def Xfl_toRequestS_0:List (Nat×Tpl):=[(2,⟨[(3,.lf (.own 7))],[(7,.sl .Req 2)],[]⟩)]
abbrev Sfl_toRequestS_0:=(((List DReq)×Unit×Int×Unit)×((List DReq)×Unit))
def Lfl_toRequestS_0(x:Sfl_toRequestS_0):Option (Sfl_toRequestS_0⊕(((Unit×Unit)×((List DReq)×Unit))⊕Empty)):=bif (decide (x.1.2.2.1<(x.1.1.length:Int)))then if h1:0 <= x.1.2.2.1/\x.1.2.2.1.toNat<x.1.1.length then (let e2:=x.1.1[x.1.2.2.1.toNat]'h1.2;(fl_toRequest e2).bind fun y3=>if h4:0 <= x.1.2.2.1/\x.1.2.2.1.toNat<x.2.1.length then if h5:x.1.2.2.1.toNat<x.2.1.length then (let e6:=x.2.1[x.1.2.2.1.toNat]'h5;some (.inl ((x.1.1,(),(IntKind.i64.wrap (x.1.2.2.1+(1:Int))),()),((x.2.1.set x.1.2.2.1.toNat y3),()))))else none else none)else none else some (.inr (.inl (((),()),(x.2.1,()))))
def Bfl_toRequestS_0:Blk':=loopB 0 Tfl_toRequestS_0 Xfl_toRequestS_0 Lfl_toRequestS_0 (fun _=>big)
theorem lp_fl_toRequestS_0:BlkOK Tryz.prog 23 (.block 0 (.loop (bodyOf (codeOf Tryz.f39) 0))) Bfl_toRequestS_0:=loopP 23 [(7,.p c_fl_toRequest)] [] ⟨ok_fl_toRequest,trivial⟩ blks_none fun x=>by kernel_rfl
def fl_toRequestS(x0:List DReq):Option ((List DReq)):=if 0 <= (x0.length:Int)/\(x0.length:Int) <= (x0.length:Int)/\(x0.length:Int)<1073741824 then (iter Lfl_toRequestS_0 big ((x0,(),(0:Int),()),((List.replicate (x0.length:Int).toNat (⟨(0:Int),(0:Int),(0:Int),false,(0:Int),(0:Int)⟩:DReq)),()))).bind (Sum.elim (fun z7=>some z7.2.1) (fun z=>nomatch z))else none
def c_fl_toRequestS:Ctr:=ctrT [(false,(.sl .Req))] [(false,(.sl .Req),2)] (fun x=>fl_toRequestS x.1)
theorem ok_fl_toRequestS:enters Tryz.prog 39/\CtrOK Tryz.prog 39 c_fl_toRequestS:=fnP 23 [] [(0,Bfl_toRequestS_0)] Tryz.func39 trivial (blks_ok (by kernel_rfl) _ ⟨⟨_,by kernel_rfl,lp_fl_toRequestS_0⟩,trivial⟩) fun x=>by kernel_rfl
def fl_toShare(x0:DShare):Option (DShare):=some x0
def c_fl_toShare:Ctr:=ctrT [(true,.Share)] [(true,.Share,0)] (fun x=>fl_toShare x.1)
theorem ok_fl_toShare:enters Tryz.prog 136/\CtrOK Tryz.prog 136 c_fl_toShare:=fnP 11 [] [] Tryz.func136 trivial blks_none fun x=>by kernel_rfl
def Tfl_toShareS_0:Tpl:=⟨[(0,.lf (.fro .Share 0)),(3,.lf (.own 7)),(4,.lf (.int .i64))],[(7,.sl .Share 2)],[]⟩
def Xfl_toShareS_0:List (Nat×Tpl):=[(2,⟨[(3,.lf (.own 7))],[(7,.sl .Share 2)],[]⟩)]
abbrev Sfl_toShareS_0:=(((List DShare)×Unit×Int×Unit)×((List DShare)×Unit))
def Lfl_toShareS_0(x:Sfl_toShareS_0):Option (Sfl_toShareS_0⊕(((Unit×Unit)×((List DShare)×Unit))⊕Empty)):=bif (decide (x.1.2.2.1<(x.1.1.length:Int)))then if h1:0 <= x.1.2.2.1/\x.1.2.2.1.toNat<x.1.1.length then (let e2:=x.1.1[x.1.2.2.1.toNat]'h1.2;(fl_toShare e2).bind fun y3=>if h4:0 <= x.1.2.2.1/\x.1.2.2.1.toNat<x.2.1.length then if h5:x.1.2.2.1.toNat<x.2.1.length then (let e6:=x.2.1[x.1.2.2.1.toNat]'h5;some (.inl ((x.1.1,(),(IntKind.i64.wrap (x.1.2.2.1+(1:Int))),()),((x.2.1.set x.1.2.2.1.toNat y3),()))))else none else none)else none else some (.inr (.inl (((),()),(x.2.1,()))))
def Bfl_toShareS_0:Blk':=loopB 0 Tfl_toShareS_0 Xfl_toShareS_0 Lfl_toShareS_0 (fun _=>big)
theorem lp_fl_toShareS_0:BlkOK Tryz.prog 23 (.block 0 (.loop (bodyOf (codeOf Tryz.f40) 0))) Bfl_toShareS_0:=loopP 23 [(136,.p c_fl_toShare)] [] ⟨ok_fl_toShare,trivial⟩ blks_none fun x=>by kernel_rfl
def fl_toShareS(x0:List DShare):Option ((List DShare)):=if 0 <= (x0.length:Int)/\(x0.length:Int) <= (x0.length:Int)/\(x0.length:Int)<1073741824 then (iter Lfl_toShareS_0 big ((x0,(),(0:Int),()),((List.replicate (x0.length:Int).toNat (⟨(0:Int),(0:Int)⟩:DShare)),()))).bind (Sum.elim (fun z7=>some z7.2.1) (fun z=>nomatch z))else none
def c_fl_toShareS:Ctr:=ctrT [(false,(.sl .Share))] [(false,(.sl .Share),2)] (fun x=>fl_toShareS x.1)
theorem ok_fl_toShareS:enters Tryz.prog 40/\CtrOK Tryz.prog 40 c_fl_toShareS:=fnP 23 [] [(0,Bfl_toShareS_0)] Tryz.func40 trivial (blks_ok (by kernel_rfl) _ ⟨⟨_,by kernel_rfl,lp_fl_toShareS_0⟩,trivial⟩) fun x=>by kernel_rfl
def fl_toDrain(x0:DDrain):Option (DDrain):=some x0
def c_fl_toDrain:Ctr:=ctrT [(true,.Drain)] [(true,.Drain,0)] (fun x=>fl_toDrain x.1)
theorem ok_fl_toDrain:enters Tryz.prog 41/\CtrOK Tryz.prog 41 c_fl_toDrain:=fnP 14 [] [] Tryz.func41 trivial blks_none fun x=>by kernel_rfl
def fl_toPower(x0:DPower):Option (DPower):=some x0
def c_fl_toPower:Ctr:=ctrT [(true,.Power)] [(true,.Power,0)] (fun x=>fl_toPower x.1)
theorem ok_fl_toPower:enters Tryz.prog 42/\CtrOK Tryz.prog 42 c_fl_toPower:=fnP 14 [] [] Tryz.func42 trivial blks_none fun x=>by kernel_rfl
def fl_toScrubber(x0:DScrubber):Option (DScrubber):=some x0
def c_fl_toScrubber:Ctr:=ctrT [(true,.Scrubber)] [(true,.Scrubber,0)] (fun x=>fl_toScrubber x.1)
theorem ok_fl_toScrubber:enters Tryz.prog 43/\CtrOK Tryz.prog 43 c_fl_toScrubber:=fnP 14 [] [] Tryz.func43 trivial blks_none fun x=>by kernel_rfl
def fl_toErrorEntry(x0:DErrorEntry):Option (DErrorEntry):=some x0
def c_fl_toErrorEntry:Ctr:=ctrT [(true,.ErrorEntry)] [(true,.ErrorEntry,0)] (fun x=>fl_toErrorEntry x.1)
theorem ok_fl_toErrorEntry:enters Tryz.prog 137/\CtrOK Tryz.prog 137 c_fl_toErrorEntry:=fnP 14 [] [] Tryz.func137 trivial blks_none fun x=>by kernel_rfl
def Tfl_toErrorEntryS_0:Tpl:=⟨[(0,.lf (.fro .ErrorEntry 0)),(3,.lf (.own 7)),(4,.lf (.int .i64))],[(7,.sl .ErrorEntry 2)],[]⟩
def Xfl_toErrorEntryS_0:List (Nat×Tpl):=[(2,⟨[(3,.lf (.own 7))],[(7,.sl .ErrorEntry 2)],[]⟩)]
abbrev Sfl_toErrorEntryS_0:=(((List DErrorEntry)×Unit×Int×Unit)×((List DErrorEntry)×Unit))
def Lfl_toErrorEntryS_0(x:Sfl_toErrorEntryS_0):Option (Sfl_toErrorEntryS_0⊕(((Unit×Unit)×((List DErrorEntry)×Unit))⊕Empty)):=bif (decide (x.1.2.2.1<(x.1.1.length:Int)))then if h1:0 <= x.1.2.2.1/\x.1.2.2.1.toNat<x.1.1.length then (let e2:=x.1.1[x.1.2.2.1.toNat]'h1.2;(fl_toErrorEntry e2).bind fun y3=>if h4:0 <= x.1.2.2.1/\x.1.2.2.1.toNat<x.2.1.length then if h5:x.1.2.2.1.toNat<x.2.1.length then (let e6:=x.2.1[x.1.2.2.1.toNat]'h5;some (.inl ((x.1.1,(),(IntKind.i64.wrap (x.1.2.2.1+(1:Int))),()),((x.2.1.set x.1.2.2.1.toNat y3),()))))else none else none)else none else some (.inr (.inl (((),()),(x.2.1,()))))
def Bfl_toErrorEntryS_0:Blk':=loopB 0 Tfl_toErrorEntryS_0 Xfl_toErrorEntryS_0 Lfl_toErrorEntryS_0 (fun _=>big)
theorem lp_fl_toErrorEntryS_0:BlkOK Tryz.prog 23 (.block 0 (.loop (bodyOf (codeOf Tryz.f44) 0))) Bfl_toErrorEntryS_0:=loopP 23 [(137,.p c_fl_toErrorEntry)] [] ⟨ok_fl_toErrorEntry,trivial⟩ blks_none fun x=>by kernel_rfl
def fl_toErrorEntryS(x0:List DErrorEntry):Option ((List DErrorEntry)):=if 0 <= (x0.length:Int)/\(x0.length:Int) <= (x0.length:Int)/\(x0.length:Int)<1073741824 then (iter Lfl_toErrorEntryS_0 big ((x0,(),(0:Int),()),((List.replicate (x0.length:Int).toNat (⟨(0:Int),(0:Int),(0:Int)⟩:DErrorEntry)),()))).bind (Sum.elim (fun z7=>some z7.2.1) (fun z=>nomatch z))else none
def c_fl_toErrorEntryS:Ctr:=ctrT [(false,(.sl .ErrorEntry))] [(false,(.sl .ErrorEntry),2)] (fun x=>fl_toErrorEntryS x.1)
theorem ok_fl_toErrorEntryS:enters Tryz.prog 44/\CtrOK Tryz.prog 44 c_fl_toErrorEntryS:=fnP 23 [] [(0,Bfl_toErrorEntryS_0)] Tryz.func44 trivial (blks_ok (by kernel_rfl) _ ⟨⟨_,by kernel_rfl,lp_fl_toErrorEntryS_0⟩,trivial⟩) fun x=>by kernel_rfl
def fl_toCommand(x0:DCommand):Option (DCommand):=some x0
def c_fl_toCommand:Ctr:=ctrT [(true,.Command)] [(true,.Command,0)] (fun x=>fl_toCommand x.1)
theorem ok_fl_toCommand:enters Tryz.prog 212/\CtrOK Tryz.prog 212 c_fl_toCommand:=fnP 17 [] [] Tryz.func212 trivial blks_none fun x=>by kernel_rfl
def fl_toEvent(x0:DEvent):Option (DEvent):=(fl_toCommand x0.cmd).bind fun y1=>some (⟨x0.at_,y1⟩:DEvent)
def c_fl_toEvent:Ctr:=ctrT [(true,.Event)] [(true,.Event,0)] (fun x=>fl_toEvent x.1)
theorem ok_fl_toEvent:enters Tryz.prog 138/\CtrOK Tryz.prog 138 c_fl_toEvent:=fnP 12 [(212,.p c_fl_toCommand)] [] Tryz.func138 ⟨ok_fl_toCommand,trivial⟩ blks_none fun x=>by kernel_rfl
def Tfl_toEventS_0:Tpl:=⟨[(0,.lf (.fro .Event 0)),(3,.lf (.own 7)),(4,.lf (.int .i64))],[(7,.sl .Event 2)],[]⟩
def Xfl_toEventS_0:List (Nat×Tpl):=[(2,⟨[(3,.lf (.own 7))],[(7,.sl .Event 2)],[]⟩)]
abbrev Sfl_toEventS_0:=(((List DEvent)×Unit×Int×Unit)×((List DEvent)×Unit))
def Lfl_toEventS_0(x:Sfl_toEventS_0):Option (Sfl_toEventS_0⊕(((Unit×Unit)×((List DEvent)×Unit))⊕Empty)):=bif (decide (x.1.2.2.1<(x.1.1.length:Int)))then if h1:0 <= x.1.2.2.1/\x.1.2.2.1.toNat<x.1.1.length then (let e2:=x.1.1[x.1.2.2.1.toNat]'h1.2;(fl_toEvent e2).bind fun y3=>if h4:0 <= x.1.2.2.1/\x.1.2.2.1.toNat<x.2.1.length then if h5:x.1.2.2.1.toNat<x.2.1.length then (let e6:=x.2.1[x.1.2.2.1.toNat]'h5;some (.inl ((x.1.1,(),(IntKind.i64.wrap (x.1.2.2.1+(1:Int))),()),((x.2.1.set x.1.2.2.1.toNat y3),()))))else none else none)else none else some (.inr (.inl (((),()),(x.2.1,()))))
def Bfl_toEventS_0:Blk':=loopB 0 Tfl_toEventS_0 Xfl_toEventS_0 Lfl_toEventS_0 (fun _=>big)
theorem lp_fl_toEventS_0:BlkOK Tryz.prog 23 (.block 0 (.loop (bodyOf (codeOf Tryz.f45) 0))) Bfl_toEventS_0:=loopP 23 [(138,.p c_fl_toEvent)] [] ⟨ok_fl_toEvent,trivial⟩ blks_none fun x=>by kernel_rfl
def fl_toEventS(x0:List DEvent):Option ((List DEvent)):=if 0 <= (x0.length:Int)/\(x0.length:Int) <= (x0.length:Int)/\(x0.length:Int)<1073741824 then (iter Lfl_toEventS_0 big ((x0,(),(0:Int),()),((List.replicate (x0.length:Int).toNat (⟨(0:Int),⟨(0:Int),(0:Int),(0:Int),(0:Int)⟩⟩:DEvent)),()))).bind (Sum.elim (fun z7=>some z7.2.1) (fun z=>nomatch z))else none
def c_fl_toEventS:Ctr:=ctrT [(false,(.sl .Event))] [(false,(.sl .Event),2)] (fun x=>fl_toEventS x.1)
theorem ok_fl_toEventS:enters Tryz.prog 45/\CtrOK Tryz.prog 45 c_fl_toEventS:=fnP 23 [] [(0,Bfl_toEventS_0)] Tryz.func45 trivial (blks_ok (by kernel_rfl) _ ⟨⟨_,by kernel_rfl,lp_fl_toEventS_0⟩,trivial⟩) fun x=>by kernel_rfl
def fl_toReply(x0:DRep):Option (DRep):=some x0
def c_fl_toReply:Ctr:=ctrT [(true,.Rep)] [(true,.Rep,0)] (fun x=>fl_toReply x.1)
theorem ok_fl_toReply:enters Tryz.prog 139/\CtrOK Tryz.prog 139 c_fl_toReply:=fnP 17 [] [] Tryz.func139 trivial blks_none fun x=>by kernel_rfl
def Tfl_toReplyS_0:Tpl:=⟨[(0,.lf (.fro .Rep 0)),(3,.lf (.own 7)),(4,.lf (.int .i64))],[(7,.sl .Rep 2)],[]⟩
def Xfl_toReplyS_0:List (Nat×Tpl):=[(2,⟨[(3,.lf (.own 7))],[(7,.sl .Rep 2)],[]⟩)]
abbrev Sfl_toReplyS_0:=(((List DRep)×Unit×Int×Unit)×((List DRep)×Unit))
def Lfl_toReplyS_0(x:Sfl_toReplyS_0):Option (Sfl_toReplyS_0⊕(((Unit×Unit)×((List DRep)×Unit))⊕Empty)):=bif (decide (x.1.2.2.1<(x.1.1.length:Int)))then if h1:0 <= x.1.2.2.1/\x.1.2.2.1.toNat<x.1.1.length then (let e2:=x.1.1[x.1.2.2.1.toNat]'h1.2;(fl_toReply e2).bind fun y3=>if h4:0 <= x.1.2.2.1/\x.1.2.2.1.toNat<x.2.1.length then if h5:x.1.2.2.1.toNat<x.2.1.length then (let e6:=x.2.1[x.1.2.2.1.toNat]'h5;some (.inl ((x.1.1,(),(IntKind.i64.wrap (x.1.2.2.1+(1:Int))),()),((x.2.1.set x.1.2.2.1.toNat y3),()))))else none else none)else none else some (.inr (.inl (((),()),(x.2.1,()))))
def Bfl_toReplyS_0:Blk':=loopB 0 Tfl_toReplyS_0 Xfl_toReplyS_0 Lfl_toReplyS_0 (fun _=>big)
theorem lp_fl_toReplyS_0:BlkOK Tryz.prog 23 (.block 0 (.loop (bodyOf (codeOf Tryz.f46) 0))) Bfl_toReplyS_0:=loopP 23 [(139,.p c_fl_toReply)] [] ⟨ok_fl_toReply,trivial⟩ blks_none fun x=>by kernel_rfl
def fl_toReplyS(x0:List DRep):Option ((List DRep)):=if 0 <= (x0.length:Int)/\(x0.length:Int) <= (x0.length:Int)/\(x0.length:Int)<1073741824 then (iter Lfl_toReplyS_0 big ((x0,(),(0:Int),()),((List.replicate (x0.length:Int).toNat (⟨(0:Int),(0:Int),(0:Int),(0:Int)⟩:DRep)),()))).bind (Sum.elim (fun z7=>some z7.2.1) (fun z=>nomatch z))else none
def c_fl_toReplyS:Ctr:=ctrT [(false,(.sl .Rep))] [(false,(.sl .Rep),2)] (fun x=>fl_toReplyS x.1)
theorem ok_fl_toReplyS:enters Tryz.prog 46/\CtrOK Tryz.prog 46 c_fl_toReplyS:=fnP 23 [] [(0,Bfl_toReplyS_0)] Tryz.func46 trivial (blks_ok (by kernel_rfl) _ ⟨⟨_,by kernel_rfl,lp_fl_toReplyS_0⟩,trivial⟩) fun x=>by kernel_rfl
def fl_toController(x0:DController):Option (DController):=(fl_toConfig x0.config).bind fun y1=>(fl_toPolicyBox x0.box).bind fun y2=>(fl_toRank x0.rank).bind fun y3=>(fl_toReady x0.ready).bind fun y4=>(fl_toArray x0.array).bind fun y5=>(fl_toSpare x0.spare).bind fun y6=>(fl_toRefresh x0.refresh).bind fun y7=>(fl_toTrackerS x0.trackers).bind fun y8=>(fl_toIntS x0.guard).bind fun y9=>(fl_toAddrS x0.pending).bind fun y10=>(fl_toRequestS x0.queue).bind fun y11=>(fl_toShareS x0.shares).bind fun y12=>(fl_toDrain x0.drain).bind fun y13=>(fl_toPower x0.power).bind fun y14=>(fl_toScrubber x0.scrubber).bind fun y15=>(fl_toErrorEntryS x0.errors).bind fun y16=>(fl_toEventS x0.trace).bind fun y17=>(fl_toReplyS x0.replies).bind fun y18=>some (⟨y1,y2,x0.now,y3,y4,y5,y6,y7,y8,y9,y10,y11,y12,y13,y14,y15,y16,y17,y18⟩:DController)
def c_fl_toController:Ctr:=ctrT [(true,.Controller)] [(true,.Controller,4)] (fun x=>fl_toController x.1)
theorem ok_fl_toController:enters Tryz.prog 6/\CtrOK Tryz.prog 6 c_fl_toController:=fnP 80 [(29,.p c_fl_toConfig),(30,.p c_fl_toPolicyBox),(31,.p c_fl_toRank),(32,.p c_fl_toReady),(33,.p c_fl_toArray),(34,.p c_fl_toSpare),(35,.p c_fl_toRefresh),(36,.p c_fl_toTrackerS),(37,.p c_fl_toIntS),(38,.p c_fl_toAddrS),(39,.p c_fl_toRequestS),(40,.p c_fl_toShareS),(41,.p c_fl_toDrain),(42,.p c_fl_toPower),(43,.p c_fl_toScrubber),(44,.p c_fl_toErrorEntryS),(45,.p c_fl_toEventS),(46,.p c_fl_toReplyS)] [] Tryz.func6 ⟨ok_fl_toConfig,ok_fl_toPolicyBox,ok_fl_toRank,ok_fl_toReady,ok_fl_toArray,ok_fl_toSpare,ok_fl_toRefresh,ok_fl_toTrackerS,ok_fl_toIntS,ok_fl_toAddrS,ok_fl_toRequestS,ok_fl_toShareS,ok_fl_toDrain,ok_fl_toPower,ok_fl_toScrubber,ok_fl_toErrorEntryS,ok_fl_toEventS,ok_fl_toReplyS,trivial⟩ blks_none fun x=>by kernel_rfl
def fi_copyPolicy(x0:DPolicy):Option (DPolicy):=bif okLen (([]:List Int).length+x0.weights.length)then some (⟨x0.page,x0.cap,x0.limit,x0.low,x0.high,(([]:List Int)++x0.weights),x0.rule⟩:DPolicy)else none
def c_fi_copyPolicy:Ctr:=ctrT [(true,.Policy)] [(true,.Policy,2)] (fun x=>fi_copyPolicy x.1)
theorem ok_fi_copyPolicy:enters Tryz.prog 213/\CtrOK Tryz.prog 213 c_fi_copyPolicy:=fnP 9 [] [] Tryz.func213 trivial blks_none fun x=>by kernel_rfl
def fi_copyBox(x0:DPolicyBox):Option (DPolicyBox):=(fi_copyPolicy x0.active).bind fun y1=>(fi_copyPolicy x0.next).bind fun y2=>some (⟨y1,y2,x0.waits⟩:DPolicyBox)
def c_fi_copyBox:Ctr:=ctrT [(true,.PolicyBox)] [(true,.PolicyBox,2)] (fun x=>fi_copyBox x.1)
theorem ok_fi_copyBox:enters Tryz.prog 140/\CtrOK Tryz.prog 140 c_fi_copyBox:=fnP 12 [(213,.p c_fi_copyPolicy)] [] Tryz.func140 ⟨ok_fi_copyPolicy,trivial⟩ blks_none fun x=>by kernel_rfl
def fi_copyRank(x0:DRank):Option (DRank):=bif okLen (([]:List DBank).length+x0.banks.length)then some (⟨(([]:List DBank)++x0.banks),x0.power⟩:DRank)else none
def c_fi_copyRank:Ctr:=ctrT [(true,.Rank)] [(true,.Rank,2)] (fun x=>fi_copyRank x.1)
theorem ok_fi_copyRank:enters Tryz.prog 141/\CtrOK Tryz.prog 141 c_fi_copyRank:=fnP 9 [] [] Tryz.func141 trivial blks_none fun x=>by kernel_rfl
def fi_copyReady(x0:DReady):Option (DReady):=bif okLen (([]:List Int).length+x0.last.length)then bif okLen (([]:List Int).length+x0.acts.length)then some (⟨(([]:List Int)++x0.last),(([]:List Int)++x0.acts)⟩:DReady)else none else none
def c_fi_copyReady:Ctr:=ctrT [(true,.Ready)] [(true,.Ready,2)] (fun x=>fi_copyReady x.1)
theorem ok_fi_copyReady:enters Tryz.prog 142/\CtrOK Tryz.prog 142 c_fi_copyReady:=fnP 12 [] [] Tryz.func142 trivial blks_none fun x=>by kernel_rfl
def fi_copyCell(x0:DCell):Option (DCell):=bif okLen (([]:List Int).length+x0.symbols.length)then some (⟨(([]:List Int)++x0.symbols),x0.poison⟩:DCell)else none
def c_fi_copyCell:Ctr:=ctrT [(true,.Cell)] [(true,.Cell,2)] (fun x=>fi_copyCell x.1)
theorem ok_fi_copyCell:enters Tryz.prog 214/\CtrOK Tryz.prog 214 c_fi_copyCell:=fnP 9 [] [] Tryz.func214 trivial blks_none fun x=>by kernel_rfl
def Tfi_copyArray_0:Tpl:=⟨[(2,.bptr 2 0),(3,.bptr 3 0),(16,.lf (.fro .Cell 0)),(17,.lf (.int .i64)),(18,.lf (.int .i64))],[(2,.blk [.own 90100,.own 90101,.own 90102]),(3,.blk [.own 90200,.own 6,.own 10]),(90100,.sl .Cell 4),(90101,.sl .int 2),(90102,.sl .int 2),(90200,.sl .Cell 4),(6,.sl .int 2),(10,.sl .int 2)],[]⟩
def Xfi_copyArray_0:List (Nat×Tpl):=[(2,⟨[(2,.bptr 2 0),(3,.bptr 3 0)],[(2,.blk [.own 90100,.own 90101,.own 90102]),(3,.blk [.own 90200,.own 6,.own 10]),(90100,.sl .Cell 4),(90101,.sl .int 2),(90102,.sl .int 2),(90200,.sl .Cell 4),(6,.sl .int 2),(10,.sl .int 2)],[]⟩)]
abbrev Sfi_copyArray_0:=((Unit×Unit×(List DCell)×Int×Int×Unit)×((Unit×Unit×Unit×Unit)×(Unit×Unit×Unit×Unit)×(List DCell)×(List Int)×(List Int)×(List DCell)×(List Int)×(List Int)×Unit))
def Lfi_copyArray_0(x:Sfi_copyArray_0):Option (Sfi_copyArray_0⊕(((Unit×Unit×Unit)×((Unit×Unit×Unit×Unit)×(Unit×Unit×Unit×Unit)×(List DCell)×(List Int)×(List Int)×(List DCell)×(List Int)×(List Int)×Unit))⊕Empty)):=bif (decide (x.1.2.2.2.2.1<x.1.2.2.2.1))then if h1:0 <= x.1.2.2.2.2.1/\x.1.2.2.2.2.1.toNat<x.1.2.2.1.length then (let e2:=x.1.2.2.1[x.1.2.2.2.2.1.toNat]'h1.2;(fi_copyCell e2).bind fun y3=>bif okLen (x.2.2.2.2.2.2.1.length+[y3].length)then some (.inl (((),(),x.1.2.2.1,x.1.2.2.2.1,(IntKind.i64.wrap (x.1.2.2.2.2.1+(1:Int))),()),(((),(),(),()),((),(),(),()),x.2.2.2.1,x.2.2.2.2.1,x.2.2.2.2.2.1,(x.2.2.2.2.2.2.1++[y3]),x.2.2.2.2.2.2.2.1,x.2.2.2.2.2.2.2.2.1,())))else none)else none else some (.inr (.inl (((),(),()),(((),(),(),()),((),(),(),()),x.2.2.2.1,x.2.2.2.2.1,x.2.2.2.2.2.1,x.2.2.2.2.2.2.1,x.2.2.2.2.2.2.2.1,x.2.2.2.2.2.2.2.2.1,()))))
def Bfi_copyArray_0:Blk':=loopB 0 Tfi_copyArray_0 Xfi_copyArray_0 Lfi_copyArray_0 (fun _=>big)
theorem lp_fi_copyArray_0:BlkOK Tryz.prog 31 (.block 0 (.loop (bodyOf (codeOf Tryz.f143) 0))) Bfi_copyArray_0:=loopP 31 [(214,.p c_fi_copyCell)] [] ⟨ok_fi_copyCell,trivial⟩ blks_none fun x=>by kernel_rfl
def fi_copyArray(x0:DArray):Option (DArray):=bif okLen (([]:List Int).length+x0.age.length)then bif okLen (([]:List Int).length+x0.hits.length)then (iter Lfi_copyArray_0 big (((),(),x0.cells,(x0.cells.length:Int),(0:Int),()),(((),(),(),()),((),(),(),()),([]:List DCell),([]:List Int),([]:List Int),([]:List DCell),(([]:List Int)++x0.age),(([]:List Int)++x0.hits),()))).bind (Sum.elim (fun z4=>some (⟨z4.2.2.2.2.2.2.1,z4.2.2.2.2.2.2.2.1,z4.2.2.2.2.2.2.2.2.1⟩:DArray)) (fun z=>nomatch z))else none else none
def c_fi_copyArray:Ctr:=ctrT [(true,.Array)] [(true,.Array,4)] (fun x=>fi_copyArray x.1)
theorem ok_fi_copyArray:enters Tryz.prog 143/\CtrOK Tryz.prog 143 c_fi_copyArray:=fnP 31 [] [(0,Bfi_copyArray_0)] Tryz.func143 trivial (blks_ok (by kernel_rfl) _ ⟨⟨_,by kernel_rfl,lp_fi_copyArray_0⟩,trivial⟩) fun x=>by kernel_rfl
def x_Clone___int_int__1(x0:List Int):Option ((List Int)):=bif isEmp x0 then none else bif okLen (([]:List Int).length+x0.length)then some (([]:List Int)++x0)else none
def x_Clone___int_int_(x0:List Int):Option ((List Int)):=bif isEmp x0 then some []else x_Clone___int_int__1 x0
def c_x_Clone___int_int_:Ctr:=ctrT [(false,(.sl .int))] [(false,(.sl .int),2)] (fun x=>x_Clone___int_int_ x.1)
theorem ok_x_Clone___int_int_:enters Tryz.prog 144/\CtrOK Tryz.prog 144 c_x_Clone___int_int_:=fnE 8 [] [] Tryz.func144 trivial blks_none (t:=.int) (g:=2) (F:=x_Clone___int_int__1) fun x=>by kernel_rfl
def fi_copyRefresh(x0:DRefresh):Option (DRefresh):=bif okLen (([]:List Int).length+x0.debt.length)then some (⟨(([]:List Int)++x0.debt),x0.wait,x0.hot⟩:DRefresh)else none
def c_fi_copyRefresh:Ctr:=ctrT [(true,.Refresh)] [(true,.Refresh,2)] (fun x=>fi_copyRefresh x.1)
theorem ok_fi_copyRefresh:enters Tryz.prog 145/\CtrOK Tryz.prog 145 c_fi_copyRefresh:=fnP 9 [] [] Tryz.func145 trivial blks_none fun x=>by kernel_rfl
def fi_copyTracker(x0:DTracker):Option (DTracker):=bif okLen (([]:List Int).length+x0.rows.length)then bif okLen (([]:List Int).length+x0.counts.length)then some (⟨(([]:List Int)++x0.rows),(([]:List Int)++x0.counts),x0.spill⟩:DTracker)else none else none
def c_fi_copyTracker:Ctr:=ctrT [(true,.Tracker)] [(true,.Tracker,2)] (fun x=>fi_copyTracker x.1)
theorem ok_fi_copyTracker:enters Tryz.prog 146/\CtrOK Tryz.prog 146 c_fi_copyTracker:=fnP 14 [] [] Tryz.func146 trivial blks_none fun x=>by kernel_rfl
end Go.Proofs.YtdnecbbihepdoaaGreat
