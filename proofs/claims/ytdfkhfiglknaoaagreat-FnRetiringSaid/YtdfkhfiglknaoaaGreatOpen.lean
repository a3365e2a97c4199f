/- What is known of an argument that can be read as data, kind by kind. -/
import Derived.Test.YtdfkhfiglknaoaaGreatBase
import Derived.Test.YtdfkhfiglknaoaaGreatRows
import Derived.ProofKit
import Derived.OpenShut
import Derived.ShutString
import Derived.ChangeOld
namespace Go.Proofs.YtdfkhfiglknaoaaGreat
open Go.ChangeShapes Go.WideShapes Go.ChangeAt Go.RowKit
open Go.ChangeMaps (open_string)
set_option maxRecDepth 100000
section
variable {H:Type} {enc:TypeId×Value->H} {W:World} {base:Nat} {v:Value} {d:DataW H} {p:List MemPlace}
end
end Go.Proofs.YtdfkhfiglknaoaaGreat
