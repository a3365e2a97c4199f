/-
  Functions of the program as plain functions of contents, and that the code computes them. Nothing here is a claim.
-/
import Derived.Test.YtdhggnlgeohjeaaGreatVZ
import Derived.Test.YtdhggnlgeohjeaaGreatRows
import Derived.Test.YtdhggnlgeohjeaaGreatG1
import Derived.Test.YtdhggnlgeohjeaaGreatG2
import Derived.Test.YtdhggnlgeohjeaaGreatG3
import Derived.Test.YtdhggnlgeohjeaaGreatG4
import Derived.Test.YtdhggnlgeohjeaaGreatG5
namespace Go.Proofs.YtdhggnlgeohjeaaGreat
open Go.RowKit
set_option linter.unusedVariables false
set_option maxRecDepth 100000
def Tfl_eqBankS_0:Tpl:=⟨[(0,.lf (.fro .Bank 0)),(1,.lf (.fro .Bank 0)),(5,.lf (.int .i64))],[]⟩
def Xfl_eqBankS_0:List (Nat×Tpl):=[(1,⟨[(4,.lf (.bool))],[]⟩),(2,⟨[],[]⟩)]
abbrev Sfl_eqBankS_0:=(((List DBank)×(List DBank)×Int×Unit)×(Unit))
def Lfl_eqBankS_0(x:Sfl_eqBankS_0):Option (Sfl_eqBankS_0⊕(((Bool×Unit)×(Unit))⊕(((Unit)×(Unit))⊕Empty))):=bif (decide (x.1.2.2.1<(x.1.1.length:Int)))then if h1:0 <= x.1.2.2.1/\x.1.2.2.1.toNat<x.1.1.length then (let e2:=x.1.1[x.1.2.2.1.toNat]'h1.2;if h3:0 <= x.1.2.2.1/\x.1.2.2.1.toNat<x.1.2.1.length then (let e4:=x.1.2.1[x.1.2.2.1.toNat]'h3.2;(fl_eqBank e2 e4).bind fun y5=>bif (!y5)then some (.inr (.inl ((false,()),())))else some (.inl ((x.1.1,x.1.2.1,(IntKind.i64.wrap (x.1.2.2.1+(1:Int))),()),())))else none)else none else some (.inr (.inr (.inl ((),()))))
def Bfl_eqBankS_0:Blk':=loopB 0 Tfl_eqBankS_0 Xfl_eqBankS_0 Lfl_eqBankS_0 (fun _=>big)
theorem lp_fl_eqBankS_0:BlkOK Tryz.prog 27 (.block 0 (.loop (bodyOf (codeOf Tryz.f140) 0))) Bfl_eqBankS_0:=loopP 27 [(203,.p c_fl_eqBank)] [] ⟨ok_fl_eqBank,trivial⟩ blks_none fun x=>by kernel_rfl
def fl_eqBankS(x0:List DBank)(x1:List DBank):Option (Bool):=bif ((x0.length:Int) != (x1.length:Int))then some false else (iter Lfl_eqBankS_0 big ((x0,x1,(0:Int),()),())).bind (Sum.elim (fun z6=>some z6.1.1) (Sum.elim (fun z7=>some true) (fun z=>nomatch z)))
def c_fl_eqBankS:Ctr:=ctrT [(false,(.sl .Bank)),(false,(.sl .Bank))] [(false,.bool,0)] (fun x=>fl_eqBankS x.1 x.2.1)
theorem ok_fl_eqBankS:enters Tryz.prog 140/\CtrOK Tryz.prog 140 c_fl_eqBankS:=fnP 27 [] [(0,Bfl_eqBankS_0)] Tryz.func140 trivial (blks_ok (by kernel_rfl) _ ⟨⟨_,by kernel_rfl,lp_fl_eqBankS_0⟩,trivial⟩) fun x=>by kernel_rfl
def fl_eqRank(x0:DRank)(x1:DRank):Option (Bool):=(fl_eqBankS x0.banks x1.banks).bind fun y1=>bif (!y1)then some false else bif (x0.power != x1.power)then some false else some true
def c_fl_eqRank:Ctr:=ctrT [(true,.Rank),(true,.Rank)] [(false,.bool,0)] (fun x=>fl_eqRank x.1 x.2.1)
theorem ok_fl_eqRank:enters Tryz.prog 53/\CtrOK Tryz.prog 53 c_fl_eqRank:=fnP 16 [(140,.p c_fl_eqBankS)] [] Tryz.func53 ⟨ok_fl_eqBankS,trivial⟩ blks_none fun x=>by kernel_rfl
def fl_eqReady(x0:DReady)(x1:DReady):Option (Bool):=(fl_eqIntS x0.last x1.last).bind fun y1=>bif (!y1)then some false else (fl_eqIntS x0.acts x1.acts).bind fun y2=>bif (!y2)then some false else some true
def c_fl_eqReady:Ctr:=ctrT [(true,.Ready),(true,.Ready)] [(false,.bool,0)] (fun x=>fl_eqReady x.1 x.2.1)
theorem ok_fl_eqReady:enters Tryz.prog 54/\CtrOK Tryz.prog 54 c_fl_eqReady:=fnP 17 [(59,.p c_fl_eqIntS)] [] Tryz.func54 ⟨ok_fl_eqIntS,trivial⟩ blks_none fun x=>by kernel_rfl
def fl_eqCell(x0:DCell)(x1:DCell):Option (Bool):=(fl_eqIntS x0.symbols x1.symbols).bind fun y1=>bif (!y1)then some false else bif (!(x0.poison==x1.poison))then some false else some true
def c_fl_eqCell:Ctr:=ctrT [(true,.Cell),(true,.Cell)] [(false,.bool,0)] (fun x=>fl_eqCell x.1 x.2.1)
theorem ok_fl_eqCell:enters Tryz.prog 204/\CtrOK Tryz.prog 204 c_fl_eqCell:=fnP 16 [(59,.p c_fl_eqIntS)] [] Tryz.func204 ⟨ok_fl_eqIntS,trivial⟩ blks_none fun x=>by kernel_rfl
def Tfl_eqCellS_0:Tpl:=⟨[(0,.lf (.fro .Cell 0)),(1,.lf (.fro .Cell 0)),(5,.lf (.int .i64))],[]⟩
def Xfl_eqCellS_0:List (Nat×Tpl):=[(1,⟨[(4,.lf (.bool))],[]⟩),(2,⟨[],[]⟩)]
abbrev Sfl_eqCellS_0:=(((List DCell)×(List DCell)×Int×Unit)×(Unit))
def Lfl_eqCellS_0(x:Sfl_eqCellS_0):Option (Sfl_eqCellS_0⊕(((Bool×Unit)×(Unit))⊕(((Unit)×(Unit))⊕Empty))):=bif (decide (x.1.2.2.1<(x.1.1.length:Int)))then if h1:0 <= x.1.2.2.1/\x.1.2.2.1.toNat<x.1.1.length then (let e2:=x.1.1[x.1.2.2.1.toNat]'h1.2;if h3:0 <= x.1.2.2.1/\x.1.2.2.1.toNat<x.1.2.1.length then (let e4:=x.1.2.1[x.1.2.2.1.toNat]'h3.2;(fl_eqCell e2 e4).bind fun y5=>bif (!y5)then some (.inr (.inl ((false,()),())))else some (.inl ((x.1.1,x.1.2.1,(IntKind.i64.wrap (x.1.2.2.1+(1:Int))),()),())))else none)else none else some (.inr (.inr (.inl ((),()))))
def Bfl_eqCellS_0:Blk':=loopB 0 Tfl_eqCellS_0 Xfl_eqCellS_0 Lfl_eqCellS_0 (fun _=>big)
theorem lp_fl_eqCellS_0:BlkOK Tryz.prog 27 (.block 0 (.loop (bodyOf (codeOf Tryz.f141) 0))) Bfl_eqCellS_0:=loopP 27 [(204,.p c_fl_eqCell)] [] ⟨ok_fl_eqCell,trivial⟩ blks_none fun x=>by kernel_rfl
def fl_eqCellS(x0:List DCell)(x1:List DCell):Option (Bool):=bif ((x0.length:Int) != (x1.length:Int))then some false else (iter Lfl_eqCellS_0 big ((x0,x1,(0:Int),()),())).bind (Sum.elim (fun z6=>some z6.1.1) (Sum.elim (fun z7=>some true) (fun z=>nomatch z)))
def c_fl_eqCellS:Ctr:=ctrT [(false,(.sl .Cell)),(false,(.sl .Cell))] [(false,.bool,0)] (fun x=>fl_eqCellS x.1 x.2.1)
theorem ok_fl_eqCellS:enters Tryz.prog 141/\CtrOK Tryz.prog 141 c_fl_eqCellS:=fnP 27 [] [(0,Bfl_eqCellS_0)] Tryz.func141 trivial (blks_ok (by kernel_rfl) _ ⟨⟨_,by kernel_rfl,lp_fl_eqCellS_0⟩,trivial⟩) fun x=>by kernel_rfl
def fl_eqArray(x0:DArray)(x1:DArray):Option (Bool):=(fl_eqCellS x0.cells x1.cells).bind fun y1=>bif (!y1)then some false else (fl_eqIntS x0.age x1.age).bind fun y2=>bif (!y2)then some false else (fl_eqIntS x0.hits x1.hits).bind fun y3=>bif (!y3)then some false else some true
def c_fl_eqArray:Ctr:=ctrT [(true,.Array),(true,.Array)] [(false,.bool,0)] (fun x=>fl_eqArray x.1 x.2.1)
theorem ok_fl_eqArray:enters Tryz.prog 55/\CtrOK Tryz.prog 55 c_fl_eqArray:=fnP 23 [(59,.p c_fl_eqIntS),(141,.p c_fl_eqCellS)] [] Tryz.func55 ⟨ok_fl_eqIntS,ok_fl_eqCellS,trivial⟩ blks_none fun x=>by kernel_rfl
def fl_eqSpare(x0:DSpare)(x1:DSpare):Option (Bool):=bif (x0.spares != x1.spares)then some false else (fl_eqIntS x0.map x1.map).bind fun y1=>bif (!y1)then some false else some true
def c_fl_eqSpare:Ctr:=ctrT [(true,.Spare),(true,.Spare)] [(false,.bool,0)] (fun x=>fl_eqSpare x.1 x.2.1)
theorem ok_fl_eqSpare:enters Tryz.prog 56/\CtrOK Tryz.prog 56 c_fl_eqSpare:=fnP 16 [(59,.p c_fl_eqIntS)] [] Tryz.func56 ⟨ok_fl_eqIntS,trivial⟩ blks_none fun x=>by kernel_rfl
def fl_eqRefresh(x0:DRefresh)(x1:DRefresh):Option (Bool):=(fl_eqIntS x0.debt x1.debt).bind fun y1=>bif (!y1)then some false else bif (x0.wait != x1.wait)then some false else bif (!(x0.hot==x1.hot))then some false else some true
def c_fl_eqRefresh:Ctr:=ctrT [(true,.Refresh),(true,.Refresh)] [(false,.bool,0)] (fun x=>fl_eqRefresh x.1 x.2.1)
theorem ok_fl_eqRefresh:enters Tryz.prog 57/\CtrOK Tryz.prog 57 c_fl_eqRefresh:=fnP 21 [(59,.p c_fl_eqIntS)] [] Tryz.func57 ⟨ok_fl_eqIntS,trivial⟩ blks_none fun x=>by kernel_rfl
def fl_eqTracker(x0:DTracker)(x1:DTracker):Option (Bool):=(fl_eqIntS x0.rows x1.rows).bind fun y1=>bif (!y1)then some false else (fl_eqIntS x0.counts x1.counts).bind fun y2=>bif (!y2)then some false else bif (x0.spill != x1.spill)then some false else some true
def c_fl_eqTracker:Ctr:=ctrT [(true,.Tracker),(true,.Tracker)] [(false,.bool,0)] (fun x=>fl_eqTracker x.1 x.2.1)
theorem ok_fl_eqTracker:enters Tryz.prog 142/\CtrOK Tryz.prog 142 c_fl_eqTracker:=fnP 22 [(59,.p c_fl_eqIntS)] [] Tryz.func142 ⟨ok_fl_eqIntS,trivial⟩ blks_none fun x=>by kernel_rfl
def Tfl_eqTrackerS_0:Tpl:=⟨[(0,.lf (.fro .Tracker 0)),(1,.lf (.fro .Tracker 0)),(5,.lf (.int .i64))],[]⟩
def Xfl_eqTrackerS_0:List (Nat×Tpl):=[(1,⟨[(4,.lf (.bool))],[]⟩),(2,⟨[],[]⟩)]
abbrev Sfl_eqTrackerS_0:=(((List DTracker)×(List DTracker)×Int×Unit)×(Unit))
def Lfl_eqTrackerS_0(x:Sfl_eqTrackerS_0):Option (Sfl_eqTrackerS_0⊕(((Bool×Unit)×(Unit))⊕(((Unit)×(Unit))⊕Empty))):=bif (decide (x.1.2.2.1<(x.1.1.length:Int)))then if h1:0 <= x.1.2.2.1/\x.1.2.2.1.toNat<x.1.1.length then (let e2:=x.1.1[x.1.2.2.1.toNat]'h1.2;if h3:0 <= x.1.2.2.1/\x.1.2.2.1.toNat<x.1.2.1.length then (let e4:=x.1.2.1[x.1.2.2.1.toNat]'h3.2;(fl_eqTracker e2 e4).bind fun y5=>bif (!y5)then some (.inr (.inl ((false,()),())))else some (.inl ((x.1.1,x.1.2.1,(IntKind.i64.wrap (x.1.2.2.1+(1:Int))),()),())))else none)else none else some (.inr (.inr (.inl ((),()))))
def Bfl_eqTrackerS_0:Blk':=loopB 0 Tfl_eqTrackerS_0 Xfl_eqTrackerS_0 Lfl_eqTrackerS_0 (fun _=>big)
theorem lp_fl_eqTrackerS_0:BlkOK Tryz.prog 27 (.block 0 (.loop (bodyOf (codeOf Tryz.f58) 0))) Bfl_eqTrackerS_0:=loopP 27 [(142,.p c_fl_eqTracker)] [] ⟨ok_fl_eqTracker,trivial⟩ blks_none fun x=>by kernel_rfl
def fl_eqTrackerS(x0:List DTracker)(x1:List DTracker):Option (Bool):=bif ((x0.length:Int) != (x1.length:Int))then some false else (iter Lfl_eqTrackerS_0 big ((x0,x1,(0:Int),()),())).bind (Sum.elim (fun z6=>some z6.1.1) (Sum.elim (fun z7=>some true) (fun z=>nomatch z)))
def c_fl_eqTrackerS:Ctr:=ctrT [(false,(.sl .Tracker)),(false,(.sl .Tracker))] [(false,.bool,0)] (fun x=>fl_eqTrackerS x.1 x.2.1)
theorem ok_fl_eqTrackerS:enters Tryz.prog 58/\CtrOK Tryz.prog 58 c_fl_eqTrackerS:=fnP 27 [] [(0,Bfl_eqTrackerS_0)] Tryz.func58 trivial (blks_ok (by kernel_rfl) _ ⟨⟨_,by kernel_rfl,lp_fl_eqTrackerS_0⟩,trivial⟩) fun x=>by kernel_rfl
def fl_eqAddr(x0:DAddr)(x1:DAddr):Option (Bool):=bif (x0.bank != x1.bank)then some false else bif (x0.row != x1.row)then some false else bif (x0.col != x1.col)then some false else some true
def c_fl_eqAddr:Ctr:=ctrT [(true,.Addr),(true,.Addr)] [(false,.bool,0)] (fun x=>fl_eqAddr x.1 x.2.1)
theorem ok_fl_eqAddr:enters Tryz.prog 143/\CtrOK Tryz.prog 143 c_fl_eqAddr:=fnP 20 [] [] Tryz.func143 trivial blks_none fun x=>by kernel_rfl
def Tfl_eqAddrS_0:Tpl:=⟨[(0,.lf (.fro .Addr 0)),(1,.lf (.fro .Addr 0)),(5,.lf (.int .i64))],[]⟩
def Xfl_eqAddrS_0:List (Nat×Tpl):=[(1,⟨[(4,.lf (.bool))],[]⟩),(2,⟨[],[]⟩)]
abbrev Sfl_eqAddrS_0:=(((List DAddr)×(List DAddr)×Int×Unit)×(Unit))
def Lfl_eqAddrS_0(x:Sfl_eqAddrS_0):Option (Sfl_eqAddrS_0⊕(((Bool×Unit)×(Unit))⊕(((Unit)×(Unit))⊕Empty))):=bif (decide (x.1.2.2.1<(x.1.1.length:Int)))then if h1:0 <= x.1.2.2.1/\x.1.2.2.1.toNat<x.1.1.length then (let e2:=x.1.1[x.1.2.2.1.toNat]'h1.2;if h3:0 <= x.1.2.2.1/\x.1.2.2.1.toNat<x.1.2.1.length then (let e4:=x.1.2.1[x.1.2.2.1.toNat]'h3.2;(fl_eqAddr e2 e4).bind fun y5=>bif (!y5)then some (.inr (.inl ((false,()),())))else some (.inl ((x.1.1,x.1.2.1,(IntKind.i64.wrap (x.1.2.2.1+(1:Int))),()),())))else none)else none else some (.inr (.inr (.inl ((),()))))
def Bfl_eqAddrS_0:Blk':=loopB 0 Tfl_eqAddrS_0 Xfl_eqAddrS_0 Lfl_eqAddrS_0 (fun _=>big)
theorem lp_fl_eqAddrS_0:BlkOK Tryz.prog 27 (.block 0 (.loop (bodyOf (codeOf Tryz.f60) 0))) Bfl_eqAddrS_0:=loopP 27 [(143,.p c_fl_eqAddr)] [] ⟨ok_fl_eqAddr,trivial⟩ blks_none fun x=>by kernel_rfl
def fl_eqAddrS(x0:List DAddr)(x1:List DAddr):Option (Bool):=bif ((x0.length:Int) != (x1.length:Int))then some false else (iter Lfl_eqAddrS_0 big ((x0,x1,(0:Int),()),())).bind (Sum.elim (fun z6=>some z6.1.1) (Sum.elim (fun z7=>some true) (fun z=>nomatch z)))
def c_fl_eqAddrS:Ctr:=ctrT [(false,(.sl .Addr)),(false,(.sl .Addr))] [(false,.bool,0)] (fun x=>fl_eqAddrS x.1 x.2.1)
theorem ok_fl_eqAddrS:enters Tryz.prog 60/\CtrOK Tryz.prog 60 c_fl_eqAddrS:=fnP 27 [] [(0,Bfl_eqAddrS_0)] Tryz.func60 trivial (blks_ok (by kernel_rfl) _ ⟨⟨_,by kernel_rfl,lp_fl_eqAddrS_0⟩,trivial⟩) fun x=>by kernel_rfl
def fl_eqRequest(x0:DReq)(x1:DReq):Option (Bool):=bif (x0.id != x1.id)then some false else bif (x0.tenant != x1.tenant)then some false else bif (x0.line != x1.line)then some false else bif (!(x0.write==x1.write))then some false else bif (x0.data != x1.data)then some false else bif (x0.at_ != x1.at_)then some false else some true
def c_fl_eqRequest:Ctr:=ctrT [(true,.Req),(true,.Req)] [(false,.bool,0)] (fun x=>fl_eqRequest x.1 x.2.1)
theorem ok_fl_eqRequest:enters Tryz.prog 144/\CtrOK Tryz.prog 144 c_fl_eqRequest:=fnP 35 [] [] Tryz.func144 trivial blks_none fun x=>by kernel_rfl
def Tfl_eqRequestS_0:Tpl:=⟨[(0,.lf (.fro .Req 0)),(1,.lf (.fro .Req 0)),(5,.lf (.int .i64))],[]⟩
def Xfl_eqRequestS_0:List (Nat×Tpl):=[(1,⟨[(4,.lf (.bool))],[]⟩),(2,⟨[],[]⟩)]
abbrev Sfl_eqRequestS_0:=(((List DReq)×(List DReq)×Int×Unit)×(Unit))
def Lfl_eqRequestS_0(x:Sfl_eqRequestS_0):Option (Sfl_eqRequestS_0⊕(((Bool×Unit)×(Unit))⊕(((Unit)×(Unit))⊕Empty))):=bif (decide (x.1.2.2.1<(x.1.1.length:Int)))then if h1:0 <= x.1.2.2.1/\x.1.2.2.1.toNat<x.1.1.length then (let e2:=x.1.1[x.1.2.2.1.toNat]'h1.2;if h3:0 <= x.1.2.2.1/\x.1.2.2.1.toNat<x.1.2.1.length then (let e4:=x.1.2.1[x.1.2.2.1.toNat]'h3.2;(fl_eqRequest e2 e4).bind fun y5=>bif (!y5)then some (.inr (.inl ((false,()),())))else some (.inl ((x.1.1,x.1.2.1,(IntKind.i64.wrap (x.1.2.2.1+(1:Int))),()),())))else none)else none else some (.inr (.inr (.inl ((),()))))
def Bfl_eqRequestS_0:Blk':=loopB 0 Tfl_eqRequestS_0 Xfl_eqRequestS_0 Lfl_eqRequestS_0 (fun _=>big)
theorem lp_fl_eqRequestS_0:BlkOK Tryz.prog 27 (.block 0 (.loop (bodyOf (codeOf Tryz.f61) 0))) Bfl_eqRequestS_0:=loopP 27 [(144,.p c_fl_eqRequest)] [] ⟨ok_fl_eqRequest,trivial⟩ blks_none fun x=>by kernel_rfl
def fl_eqRequestS(x0:List DReq)(x1:List DReq):Option (Bool):=bif ((x0.length:Int) != (x1.length:Int))then some false else (iter Lfl_eqRequestS_0 big ((x0,x1,(0:Int),()),())).bind (Sum.elim (fun z6=>some z6.1.1) (Sum.elim (fun z7=>some true) (fun z=>nomatch z)))
def c_fl_eqRequestS:Ctr:=ctrT [(false,(.sl .Req)),(false,(.sl .Req))] [(false,.bool,0)] (fun x=>fl_eqRequestS x.1 x.2.1)
theorem ok_fl_eqRequestS:enters Tryz.prog 61/\CtrOK Tryz.prog 61 c_fl_eqRequestS:=fnP 27 [] [(0,Bfl_eqRequestS_0)] Tryz.func61 trivial (blks_ok (by kernel_rfl) _ ⟨⟨_,by kernel_rfl,lp_fl_eqRequestS_0⟩,trivial⟩) fun x=>by kernel_rfl
def fl_eqShare(x0:DShare)(x1:DShare):Option (Bool):=bif (x0.weight != x1.weight)then some false else bif (x0.credit != x1.credit)then some false else some true
def c_fl_eqShare:Ctr:=ctrT [(true,.Share),(true,.Share)] [(false,.bool,0)] (fun x=>fl_eqShare x.1 x.2.1)
theorem ok_fl_eqShare:enters Tryz.prog 145/\CtrOK Tryz.prog 145 c_fl_eqShare:=fnP 15 [] [] Tryz.func145 trivial blks_none fun x=>by kernel_rfl
def Tfl_eqShareS_0:Tpl:=⟨[(0,.lf (.fro .Share 0)),(1,.lf (.fro .Share 0)),(5,.lf (.int .i64))],[]⟩
def Xfl_eqShareS_0:List (Nat×Tpl):=[(1,⟨[(4,.lf (.bool))],[]⟩),(2,⟨[],[]⟩)]
abbrev Sfl_eqShareS_0:=(((List DShare)×(List DShare)×Int×Unit)×(Unit))
def Lfl_eqShareS_0(x:Sfl_eqShareS_0):Option (Sfl_eqShareS_0⊕(((Bool×Unit)×(Unit))⊕(((Unit)×(Unit))⊕Empty))):=bif (decide (x.1.2.2.1<(x.1.1.length:Int)))then if h1:0 <= x.1.2.2.1/\x.1.2.2.1.toNat<x.1.1.length then (let e2:=x.1.1[x.1.2.2.1.toNat]'h1.2;if h3:0 <= x.1.2.2.1/\x.1.2.2.1.toNat<x.1.2.1.length then (let e4:=x.1.2.1[x.1.2.2.1.toNat]'h3.2;(fl_eqShare e2 e4).bind fun y5=>bif (!y5)then some (.inr (.inl ((false,()),())))else some (.inl ((x.1.1,x.1.2.1,(IntKind.i64.wrap (x.1.2.2.1+(1:Int))),()),())))else none)else none else some (.inr (.inr (.inl ((),()))))
def Bfl_eqShareS_0:Blk':=loopB 0 Tfl_eqShareS_0 Xfl_eqShareS_0 Lfl_eqShareS_0 (fun _=>big)
theorem lp_fl_eqShareS_0:BlkOK Tryz.prog 27 (.block 0 (.loop (bodyOf (codeOf Tryz.f62) 0))) Bfl_eqShareS_0:=loopP 27 [(145,.p c_fl_eqShare)] [] ⟨ok_fl_eqShare,trivial⟩ blks_none fun x=>by kernel_rfl
def fl_eqShareS(x0:List DShare)(x1:List DShare):Option (Bool):=bif ((x0.length:Int) != (x1.length:Int))then some false else (iter Lfl_eqShareS_0 big ((x0,x1,(0:Int),()),())).bind (Sum.elim (fun z6=>some z6.1.1) (Sum.elim (fun z7=>some true) (fun z=>nomatch z)))
def c_fl_eqShareS:Ctr:=ctrT [(false,(.sl .Share)),(false,(.sl .Share))] [(false,.bool,0)] (fun x=>fl_eqShareS x.1 x.2.1)
theorem ok_fl_eqShareS:enters Tryz.prog 62/\CtrOK Tryz.prog 62 c_fl_eqShareS:=fnP 27 [] [(0,Bfl_eqShareS_0)] Tryz.func62 trivial (blks_ok (by kernel_rfl) _ ⟨⟨_,by kernel_rfl,lp_fl_eqShareS_0⟩,trivial⟩) fun x=>by kernel_rfl
def fl_eqDrain(x0:DDrain)(x1:DDrain):Option (Bool):=bif (!(x0.on==x1.on))then some false else bif (x0.low != x1.low)then some false else bif (x0.high != x1.high)then some false else some true
def c_fl_eqDrain:Ctr:=ctrT [(true,.Drain),(true,.Drain)] [(false,.bool,0)] (fun x=>fl_eqDrain x.1 x.2.1)
theorem ok_fl_eqDrain:enters Tryz.prog 63/\CtrOK Tryz.prog 63 c_fl_eqDrain:=fnP 20 [] [] Tryz.func63 trivial blks_none fun x=>by kernel_rfl
def fl_eqPower(x0:DPower)(x1:DPower):Option (Bool):=bif (x0.state != x1.state)then some false else bif (x0.since != x1.since)then some false else bif (x0.idle != x1.idle)then some false else some true
def c_fl_eqPower:Ctr:=ctrT [(true,.Power),(true,.Power)] [(false,.bool,0)] (fun x=>fl_eqPower x.1 x.2.1)
theorem ok_fl_eqPower:enters Tryz.prog 64/\CtrOK Tryz.prog 64 c_fl_eqPower:=fnP 20 [] [] Tryz.func64 trivial blks_none fun x=>by kernel_rfl
def fl_eqScrubber(x0:DScrubber)(x1:DScrubber):Option (Bool):=bif (x0.next != x1.next)then some false else bif (x0.every != x1.every)then some false else bif (x0.wait != x1.wait)then some false else some true
def c_fl_eqScrubber:Ctr:=ctrT [(true,.Scrubber),(true,.Scrubber)] [(false,.bool,0)] (fun x=>fl_eqScrubber x.1 x.2.1)
theorem ok_fl_eqScrubber:enters Tryz.prog 65/\CtrOK Tryz.prog 65 c_fl_eqScrubber:=fnP 20 [] [] Tryz.func65 trivial blks_none fun x=>by kernel_rfl
def fl_eqErrorEntry(x0:DErrorEntry)(x1:DErrorEntry):Option (Bool):=bif (x0.line != x1.line)then some false else bif (x0.code != x1.code)then some false else bif (x0.times != x1.times)then some false else some true
def c_fl_eqErrorEntry:Ctr:=ctrT [(true,.ErrorEntry),(true,.ErrorEntry)] [(false,.bool,0)] (fun x=>fl_eqErrorEntry x.1 x.2.1)
theorem ok_fl_eqErrorEntry:enters Tryz.prog 146/\CtrOK Tryz.prog 146 c_fl_eqErrorEntry:=fnP 20 [] [] Tryz.func146 trivial blks_none fun x=>by kernel_rfl
def Tfl_eqErrorEntryS_0:Tpl:=⟨[(0,.lf (.fro .ErrorEntry 0)),(1,.lf (.fro .ErrorEntry 0)),(5,.lf (.int .i64))],[]⟩
def Xfl_eqErrorEntryS_0:List (Nat×Tpl):=[(1,⟨[(4,.lf (.bool))],[]⟩),(2,⟨[],[]⟩)]
abbrev Sfl_eqErrorEntryS_0:=(((List DErrorEntry)×(List DErrorEntry)×Int×Unit)×(Unit))
def Lfl_eqErrorEntryS_0(x:Sfl_eqErrorEntryS_0):Option (Sfl_eqErrorEntryS_0⊕(((Bool×Unit)×(Unit))⊕(((Unit)×(Unit))⊕Empty))):=bif (decide (x.1.2.2.1<(x.1.1.length:Int)))then if h1:0 <= x.1.2.2.1/\x.1.2.2.1.toNat<x.1.1.length then (let e2:=x.1.1[x.1.2.2.1.toNat]'h1.2;if h3:0 <= x.1.2.2.1/\x.1.2.2.1.toNat<x.1.2.1.length then (let e4:=x.1.2.1[x.1.2.2.1.toNat]'h3.2;(fl_eqErrorEntry e2 e4).bind fun y5=>bif (!y5)then some (.inr (.inl ((false,()),())))else some (.inl ((x.1.1,x.1.2.1,(IntKind.i64.wrap (x.1.2.2.1+(1:Int))),()),())))else none)else none else some (.inr (.inr (.inl ((),()))))
def Bfl_eqErrorEntryS_0:Blk':=loopB 0 Tfl_eqErrorEntryS_0 Xfl_eqErrorEntryS_0 Lfl_eqErrorEntryS_0 (fun _=>big)
theorem lp_fl_eqErrorEntryS_0:BlkOK Tryz.prog 27 (.block 0 (.loop (bodyOf (codeOf Tryz.f66) 0))) Bfl_eqErrorEntryS_0:=loopP 27 [(146,.p c_fl_eqErrorEntry)] [] ⟨ok_fl_eqErrorEntry,trivial⟩ blks_none fun x=>by kernel_rfl
def fl_eqErrorEntryS(x0:List DErrorEntry)(x1:List DErrorEntry):Option (Bool):=bif ((x0.length:Int) != (x1.length:Int))then some false else (iter Lfl_eqErrorEntryS_0 big ((x0,x1,(0:Int),()),())).bind (Sum.elim (fun z6=>some z6.1.1) (Sum.elim (fun z7=>some true) (fun z=>nomatch z)))
def c_fl_eqErrorEntryS:Ctr:=ctrT [(false,(.sl .ErrorEntry)),(false,(.sl .ErrorEntry))] [(false,.bool,0)] (fun x=>fl_eqErrorEntryS x.1 x.2.1)
theorem ok_fl_eqErrorEntryS:enters Tryz.prog 66/\CtrOK Tryz.prog 66 c_fl_eqErrorEntryS:=fnP 27 [] [(0,Bfl_eqErrorEntryS_0)] Tryz.func66 trivial (blks_ok (by kernel_rfl) _ ⟨⟨_,by kernel_rfl,lp_fl_eqErrorEntryS_0⟩,trivial⟩) fun x=>by kernel_rfl
def fl_eqCommand(x0:DCommand)(x1:DCommand):Option (Bool):=bif (x0.kind != x1.kind)then some false else bif (x0.bank != x1.bank)then some false else bif (x0.row != x1.row)then some false else bif (x0.col != x1.col)then some false else some true
def c_fl_eqCommand:Ctr:=ctrT [(true,.Command),(true,.Command)] [(false,.bool,0)] (fun x=>fl_eqCommand x.1 x.2.1)
theorem ok_fl_eqCommand:enters Tryz.prog 205/\CtrOK Tryz.prog 205 c_fl_eqCommand:=fnP 25 [] [] Tryz.func205 trivial blks_none fun x=>by kernel_rfl
def fl_eqEvent(x0:DEvent)(x1:DEvent):Option (Bool):=bif (x0.at_ != x1.at_)then some false else (fl_eqCommand x0.cmd x1.cmd).bind fun y1=>bif (!y1)then some false else some true
def c_fl_eqEvent:Ctr:=ctrT [(true,.Event),(true,.Event)] [(false,.bool,0)] (fun x=>fl_eqEvent x.1 x.2.1)
theorem ok_fl_eqEvent:enters Tryz.prog 147/\CtrOK Tryz.prog 147 c_fl_eqEvent:=fnP 16 [(205,.p c_fl_eqCommand)] [] Tryz.func147 ⟨ok_fl_eqCommand,trivial⟩ blks_none fun x=>by kernel_rfl
def Tfl_eqEventS_0:Tpl:=⟨[(0,.lf (.fro .Event 0)),(1,.lf (.fro .Event 0)),(5,.lf (.int .i64))],[]⟩
def Xfl_eqEventS_0:List (Nat×Tpl):=[(1,⟨[(4,.lf (.bool))],[]⟩),(2,⟨[],[]⟩)]
abbrev Sfl_eqEventS_0:=(((List DEvent)×(List DEvent)×Int×Unit)×(Unit))
def Lfl_eqEventS_0(x:Sfl_eqEventS_0):Option (Sfl_eqEventS_0⊕(((Bool×Unit)×(Unit))⊕(((Unit)×(Unit))⊕Empty))):=bif (decide (x.1.2.2.1<(x.1.1.length:Int)))then if h1:0 <= x.1.2.2.1/\x.1.2.2.1.toNat<x.1.1.length then (let e2:=x.1.1[x.1.2.2.1.toNat]'h1.2;if h3:0 <= x.1.2.2.1/\x.1.2.2.1.toNat<x.1.2.1.length then (let e4:=x.1.2.1[x.1.2.2.1.toNat]'h3.2;(fl_eqEvent e2 e4).bind fun y5=>bif (!y5)then some (.inr (.inl ((false,()),())))else some (.inl ((x.1.1,x.1.2.1,(IntKind.i64.wrap (x.1.2.2.1+(1:Int))),()),())))else none)else none else some (.inr (.inr (.inl ((),()))))
def Bfl_eqEventS_0:Blk':=loopB 0 Tfl_eqEventS_0 Xfl_eqEventS_0 Lfl_eqEventS_0 (fun _=>big)
theorem lp_fl_eqEventS_0:BlkOK Tryz.prog 27 (.block 0 (.loop (bodyOf (codeOf Tryz.f67) 0))) Bfl_eqEventS_0:=loopP 27 [(147,.p c_fl_eqEvent)] [] ⟨ok_fl_eqEvent,trivial⟩ blks_none fun x=>by kernel_rfl
def fl_eqEventS(x0:List DEvent)(x1:List DEvent):Option (Bool):=bif ((x0.length:Int) != (x1.length:Int))then some false else (iter Lfl_eqEventS_0 big ((x0,x1,(0:Int),()),())).bind (Sum.elim (fun z6=>some z6.1.1) (Sum.elim (fun z7=>some true) (fun z=>nomatch z)))
def c_fl_eqEventS:Ctr:=ctrT [(false,(.sl .Event)),(false,(.sl .Event))] [(false,.bool,0)] (fun x=>fl_eqEventS x.1 x.2.1)
theorem ok_fl_eqEventS:enters Tryz.prog 67/\CtrOK Tryz.prog 67 c_fl_eqEventS:=fnP 27 [] [(0,Bfl_eqEventS_0)] Tryz.func67 trivial (blks_ok (by kernel_rfl) _ ⟨⟨_,by kernel_rfl,lp_fl_eqEventS_0⟩,trivial⟩) fun x=>by kernel_rfl
def fl_eqReply(x0:DRep)(x1:DRep):Option (Bool):=bif (x0.id != x1.id)then some false else bif (x0.at_ != x1.at_)then some false else bif (x0.data != x1.data)then some false else bif (x0.code != x1.code)then some false else some true
def c_fl_eqReply:Ctr:=ctrT [(true,.Rep),(true,.Rep)] [(false,.bool,0)] (fun x=>fl_eqReply x.1 x.2.1)
theorem ok_fl_eqReply:enters Tryz.prog 148/\CtrOK Tryz.prog 148 c_fl_eqReply:=fnP 25 [] [] Tryz.func148 trivial blks_none fun x=>by kernel_rfl
def Tfl_eqReplyS_0:Tpl:=⟨[(0,.lf (.fro .Rep 0)),(1,.lf (.fro .Rep 0)),(5,.lf (.int .i64))],[]⟩
def Xfl_eqReplyS_0:List (Nat×Tpl):=[(1,⟨[(4,.lf (.bool))],[]⟩),(2,⟨[],[]⟩)]
abbrev Sfl_eqReplyS_0:=(((List DRep)×(List DRep)×Int×Unit)×(Unit))
def Lfl_eqReplyS_0(x:Sfl_eqReplyS_0):Option (Sfl_eqReplyS_0⊕(((Bool×Unit)×(Unit))⊕(((Unit)×(Unit))⊕Empty))):=bif (decide (x.1.2.2.1<(x.1.1.length:Int)))then if h1:0 <= x.1.2.2.1/\x.1.2.2.1.toNat<x.1.1.length then (let e2:=x.1.1[x.1.2.2.1.toNat]'h1.2;if h3:0 <= x.1.2.2.1/\x.1.2.2.1.toNat<x.1.2.1.length then (let e4:=x.1.2.1[x.1.2.2.1.toNat]'h3.2;(fl_eqReply e2 e4).bind fun y5=>bif (!y5)then some (.inr (.inl ((false,()),())))else some (.inl ((x.1.1,x.1.2.1,(IntKind.i64.wrap (x.1.2.2.1+(1:Int))),()),())))else none)else none else some (.inr (.inr (.inl ((),()))))
def Bfl_eqReplyS_0:Blk':=loopB 0 Tfl_eqReplyS_0 Xfl_eqReplyS_0 Lfl_eqReplyS_0 (fun _=>big)
theorem lp_fl_eqReplyS_0:BlkOK Tryz.prog 27 (.block 0 (.loop (bodyOf (codeOf Tryz.f68) 0))) Bfl_eqReplyS_0:=loopP 27 [(148,.p c_fl_eqReply)] [] ⟨ok_fl_eqReply,trivial⟩ blks_none fun x=>by kernel_rfl
def fl_eqReplyS(x0:List DRep)(x1:List DRep):Option (Bool):=bif ((x0.length:Int) != (x1.length:Int))then some false else (iter Lfl_eqReplyS_0 big ((x0,x1,(0:Int),()),())).bind (Sum.elim (fun z6=>some z6.1.1) (Sum.elim (fun z7=>some true) (fun z=>nomatch z)))
def c_fl_eqReplyS:Ctr:=ctrT [(false,(.sl .Rep)),(false,(.sl .Rep))] [(false,.bool,0)] (fun x=>fl_eqReplyS x.1 x.2.1)
theorem ok_fl_eqReplyS:enters Tryz.prog 68/\CtrOK Tryz.prog 68 c_fl_eqReplyS:=fnP 27 [] [(0,Bfl_eqReplyS_0)] Tryz.func68 trivial (blks_ok (by kernel_rfl) _ ⟨⟨_,by kernel_rfl,lp_fl_eqReplyS_0⟩,trivial⟩) fun x=>by kernel_rfl
def fl_eqController(x0:DController)(x1:DController):Option (Bool):=(fl_eqConfig x0.config x1.config).bind fun y1=>bif (!y1)then some false else (fl_eqPolicyBox x0.box x1.box).bind fun y2=>bif (!y2)then some false else bif (x0.now != x1.now)then some false else (fl_eqRank x0.rank x1.rank).bind fun y3=>bif (!y3)then some false else (fl_eqReady x0.ready x1.ready).bind fun y4=>bif (!y4)then some false else (fl_eqArray x0.array x1.array).bind fun y5=>bif (!y5)then some false else (fl_eqSpare x0.spare x1.spare).bind fun y6=>bif (!y6)then some false else (fl_eqRefresh x0.refresh x1.refresh).bind fun y7=>bif (!y7)then some false else (fl_eqTrackerS x0.trackers x1.trackers).bind fun y8=>bif (!y8)then some false else (fl_eqIntS x0.guard x1.guard).bind fun y9=>bif (!y9)then some false else (fl_eqAddrS x0.pending x1.pending).bind fun y10=>bif (!y10)then some false else (fl_eqRequestS x0.queue x1.queue).bind fun y11=>bif (!y11)then some false else (fl_eqShareS x0.shares x1.shares).bind fun y12=>bif (!y12)then some false else (fl_eqDrain x0.drain x1.drain).bind fun y13=>bif (!y13)then some false else (fl_eqPower x0.power x1.power).bind fun y14=>bif (!y14)then some false else (fl_eqScrubber x0.scrubber x1.scrubber).bind fun y15=>bif (!y15)then some false else (fl_eqErrorEntryS x0.errors x1.errors).bind fun y16=>bif (!y16)then some false else (fl_eqEventS x0.trace x1.trace).bind fun y17=>bif (!y17)then some false else (fl_eqReplyS x0.replies x1.replies).bind fun y18=>bif (!y18)then some false else some true
def c_fl_eqController:Ctr:=ctrT [(true,.Controller),(true,.Controller)] [(false,.bool,0)] (fun x=>fl_eqController x.1 x.2.1)
theorem ok_fl_eqController:enters Tryz.prog 8/\CtrOK Tryz.prog 8 c_fl_eqController:=fnP 118 [(51,.p c_fl_eqConfig),(52,.p c_fl_eqPolicyBox),(53,.p c_fl_eqRank),(54,.p c_fl_eqReady),(55,.p c_fl_eqArray),(56,.p c_fl_eqSpare),(57,.p c_fl_eqRefresh),(58,.p c_fl_eqTrackerS),(59,.p c_fl_eqIntS),(60,.p c_fl_eqAddrS),(61,.p c_fl_eqRequestS),(62,.p c_fl_eqShareS),(63,.p c_fl_eqDrain),(64,.p c_fl_eqPower),(65,.p c_fl_eqScrubber),(66,.p c_fl_eqErrorEntryS),(67,.p c_fl_eqEventS),(68,.p c_fl_eqReplyS)] [] Tryz.func8 ⟨ok_fl_eqConfig,ok_fl_eqPolicyBox,ok_fl_eqRank,ok_fl_eqReady,ok_fl_eqArray,ok_fl_eqSpare,ok_fl_eqRefresh,ok_fl_eqTrackerS,ok_fl_eqIntS,ok_fl_eqAddrS,ok_fl_eqRequestS,ok_fl_eqShareS,ok_fl_eqDrain,ok_fl_eqPower,ok_fl_eqScrubber,ok_fl_eqErrorEntryS,ok_fl_eqEventS,ok_fl_eqReplyS,trivial⟩ blks_none fun x=>by kernel_rfl
def fl_FnExactTraceSafe(x0:DController):Option (Bool):=(fl_szController x0 (1048576:Int)).bind fun y1=>bif (decide (y1<(0:Int)))then some true else (fl_toController x0).bind fun y2=>(fs_TraceSafe y2).bind fun y3=>(fl_toController x0).bind fun y4=>(fi_TraceSafe y4).bind fun y5=>bif (!(y5==y3))then some false else (fl_toController x0).bind fun y6=>(fl_eqController y4 y6).bind fun y7=>bif (!y7)then some false else some true
def c_fl_FnExactTraceSafe:Ctr:=ctrT [(true,.Controller)] [(false,.bool,0)] (fun x=>fl_FnExactTraceSafe x.1)
theorem ok_fl_FnExactTraceSafe:enters Tryz.prog 3/\CtrOK Tryz.prog 3 c_fl_FnExactTraceSafe:=fnP 27 [(4,.p c_fl_szController),(5,.p c_fs_TraceSafe),(6,.p c_fl_toController),(7,.p c_fi_TraceSafe),(8,.p c_fl_eqController)] [] Tryz.func3 ⟨ok_fl_szController,ok_fs_TraceSafe,ok_fl_toController,ok_fi_TraceSafe,ok_fl_eqController,trivial⟩ blks_none fun x=>by kernel_rfl
end Go.Proofs.YtdhggnlgeohjeaaGreat
