/- What is known of an argument that can be read as data, kind by kind. -/
import Derived.Test.YtmffpkippmkjbaaGreatDoorBase
import Derived.Test.YtmffpkippmkjbaaGreatDoorRows
import Derived.ProofKit
import Derived.OpenShut
import Derived.ShutString
import Derived.ChangeOld
namespace Go.Proofs.YtmffpkippmkjbaaGreatDoor
open Go.ChangeShapes Go.WideShapes Go.ChangeAt Go.RowKit
open Go.ChangeMaps (open_string)
set_option maxRecDepth 100000
def afs(_:World)(v:Value):Prop:=∃ x:Int,v = .int .i64 x/\-9223372036854775808<=x/\x<=9223372036854775807
def aft(_:World)(v:Value):Prop:=∃ s:ByteArray,v = .string s/\s.size<=9223372036854775807
section
variable {H:Type} {enc:TypeId×Value->H} {W:World} {base:Nat} {v:Value} {d:DataW H} {p:List MemPlace}
theorem ar3(hv:Value.okWide Tryz.prog W .any base 3 v)(h:DataW.Trod enc Tryz.prog W 0 (fun _=>true) true 3 v d p):afs W v:=by
 obtain⟨x,rfl,rfl,rfl,wx⟩:=open_int Tryz.underlying3 hv h
 have:=bounds_i64 wx
 exact⟨x,rfl,by omega,by omega⟩
theorem ar4(hv:Value.okWide Tryz.prog W .any base 9 v)(h:DataW.Trod enc Tryz.prog W 0 (fun _=>true) true 9 v d p):aft W v:=by
 obtain⟨s,rfl,rfl,rfl,ws⟩:=open_string Tryz.underlying9 hv h
 unfold maxLen at ws
 exact⟨s,rfl,by omega⟩
end
end Go.Proofs.YtmffpkippmkjbaaGreatDoor
