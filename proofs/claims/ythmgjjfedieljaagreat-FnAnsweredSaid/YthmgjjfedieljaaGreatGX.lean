/-
  Functions that proofs compare with, as plain functions. Nothing here is a claim.
-/
import Derived.Test.YthmgjjfedieljaaGreatVZ
import Derived.Test.YthmgjjfedieljaaGreatRep
import Derived.Test.YthmgjjfedieljaaGreatG1
import Derived.Test.YthmgjjfedieljaaGreatG2
import Derived.Test.YthmgjjfedieljaaGreatG3
import Derived.Test.YthmgjjfedieljaaGreatG4
import Derived.Test.YthmgjjfedieljaaGreatG5
namespace Go.Proofs.YthmgjjfedieljaaGreat
open Go.RowKit
set_option linter.unusedVariables false
set_option maxRecDepth 100000
end Go.Proofs.YthmgjjfedieljaaGreat
