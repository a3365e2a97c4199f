/-
  Functions of the program as plain functions of contents, and that the code computes them. Nothing here is a claim.
-/
import Derived.Test.YtaepnacbmeajoaaDoorVZ
import Derived.Test.YtaepnacbmeajoaaDoorRows
import Derived.Test.YtaepnacbmeajoaaDoorExt
import Derived.Test.YtaepnacbmeajoaaDoorG1
namespace Go.Proofs.YtaepnacbmeajoaaDoor
open Go.RowKit
set_option linter.unusedVariables false
set_option maxRecDepth 100000
def fl_samePolicy (x0 : DPolicy) (x1 : DPolicy) : Option (Bool) := bif (x0.page == x1.page) then bif (x0.cap == x1.cap) then bif (x0.limit == x1.limit) then bif (x0.low == x1.low) then bif (x0.high == x1.high) then bif ((x0.rule.down == x1.rule.down) && ((x0.rule.sleep == x1.rule.sleep) && true)) then (fl_sameInts x0.weights x1.weights).bind fun y1 => some y1 else some false else some false else some false else some false else some false else some false
def c_fl_samePolicy : Ctr := ctrT [(true, .Policy), (true, .Policy)] [(false, .bool, 0)] (fun x => fl_samePolicy x.1 x.2.1)
theorem ok_fl_samePolicy : enters Tryd.prog 52 /\ CtrOK Tryd.prog 52 c_fl_samePolicy := fnP 52 [(78, .p c_fl_sameInts)] [] Tryd.func52 ⟨ok_fl_sameInts, trivial⟩ blks_none fun x => by kernel_rfl
def fl_sameAct (x0 : DAct) (x1 : DAct) : Option (Bool) := bif (x0.kind == x1.kind) then bif ((x0.request.id == x1.request.id) && ((x0.request.tenant == x1.request.tenant) && ((x0.request.line == x1.request.line) && ((x0.request.write == x1.request.write) && ((x0.request.data == x1.request.data) && ((x0.request.at_ == x1.request.at_) && true)))))) then bif (x0.n == x1.n) then bif (x0.chip == x1.chip) then bif ((x0.addr.bank == x1.addr.bank) && ((x0.addr.row == x1.addr.row) && ((x0.addr.col == x1.addr.col) && true))) then (fl_samePolicy x0.policy x1.policy).bind fun y1 => some y1 else some false else some false else some false else some false else some false
def c_fl_sameAct : Ctr := ctrT [(true, .Act), (true, .Act)] [(false, .bool, 0)] (fun x => fl_sameAct x.1 x.2.1)
theorem ok_fl_sameAct : enters Tryd.prog 16 /\ CtrOK Tryd.prog 16 c_fl_sameAct := fnP 45 [(52, .p c_fl_samePolicy)] [] Tryd.func16 ⟨ok_fl_samePolicy, trivial⟩ blks_none fun x => by kernel_rfl
def fl_FnActs (x0 : List Int) : Option (Bool) := (fl_big x0).bind fun y1 => bif y1 then some true else (fs_DrawAct x0).bind fun y2 => (fi_FormatAct y2).bind fun y3 => (fi_ParseAct y3.1).bind fun y4 => (fi_FormatAct y4.1).bind fun y5 => bif y3.2 then bif y4.2 then bif y5.2 then (fl_sameAct y2 y4.1).bind fun y6 => bif y6 then some (y3.1.toList == y5.1.toList) else some false else some false else some false else some false
def c_fl_FnActs : Ctr := ctrT [(false, (.sl .u8))] [(false, .bool, 0)] (fun x => fl_FnActs x.1)
theorem ok_fl_FnActs : enters Tryd.prog 4 /\ CtrOK Tryd.prog 4 c_fl_FnActs := fnP 46 [(11, .p c_fi_FormatAct), (13, .p c_fl_big), (14, .p c_fs_DrawAct), (15, .p c_fi_ParseAct), (16, .p c_fl_sameAct)] [] Tryd.func4 ⟨ok_fi_FormatAct, ok_fl_big, ok_fs_DrawAct, ok_fi_ParseAct, ok_fl_sameAct, trivial⟩ blks_none fun x => by kernel_rfl
end Go.Proofs.YtaepnacbmeajoaaDoor
