/- What is known of an argument that can be read as data, kind by kind. -/
import Derived.Test.YtjldnlbiefpekaaDoorBase
import Derived.Test.YtjldnlbiefpekaaDoorRows
import Derived.ProofKit
import Derived.OpenShut
import Derived.ShutString
import Derived.ChangeOld
namespace Go.Proofs.YtjldnlbiefpekaaDoor
open Go.ChangeShapes Go.WideShapes Go.ChangeAt Go.RowKit
open Go.ChangeMaps (open_string)
set_option maxRecDepth 100000
def J7(_:World)(v:Value):Prop:=∃ s:ByteArray,v = .string s/\s.size<=9223372036854775807
section
variable {H:Type} {enc:TypeId×Value->H} {W:World} {base:Nat} {v:Value} {d:DataW H} {p:List MemPlace}
theorem RZ(hv:Value.okWide Tryd.prog W .any base 9 v)(h:DataW.Trod enc Tryd.prog W 0 (fun _=>true) true 9 v d p):J7 W v:=by
 obtain⟨s,rfl,rfl,rfl,ws⟩:=open_string Tryd.underlying9 hv h
 unfold maxLen at ws
 exact⟨s,rfl,by omega⟩
end
end Go.Proofs.YtjldnlbiefpekaaDoor
