/- What is known of an argument that can be read as data, kind by kind. -/
import Derived.Test.YtnilicojgkhpnaaGreatBase
import Derived.Test.YtnilicojgkhpnaaGreatRows
import Derived.ProofKit
import Derived.OpenShut
import Derived.ShutString
import Derived.ChangeOld
namespace Go.Proofs.YtnilicojgkhpnaaGreat
set_option linter.defProp false
open Go.ChangeShapes Go.WideShapes Go.ChangeAt Go.RowKit
open Go.ChangeMaps (open_string)
set_option maxRecDepth 100000
def abd(_:World)(v:Value):Prop:=∃x:Int,v = .int .i64 x/\-9223372036854775808<=x/\x<=9223372036854775807
section
variable {H:Type} {enc:TypeId×Value->H} {W:World} {base:Nat} {v:Value} {d:DataW H} {p:List MemPlace}
def anh(C:Value.okWide Tryz.prog W .any base 3 v)(h:DataW.Trod enc Tryz.prog W 0 (λ_=>true) true 3 v d p):abd W v:=by
 obtain⟨x,rfl,rfl,rfl,D⟩:=open_int Tryz.underlying3 C h;have:=bounds_i64 D;exact⟨x,rfl,by omega,by omega⟩
end
end Go.Proofs.YtnilicojgkhpnaaGreat
