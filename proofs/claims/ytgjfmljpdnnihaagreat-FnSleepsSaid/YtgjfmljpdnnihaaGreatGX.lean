/-
  Functions that proofs compare with, as plain functions. Nothing here is a claim.
-/
import Derived.Test.YtgjfmljpdnnihaaGreatVZ
import Derived.Test.YtgjfmljpdnnihaaGreatRep
import Derived.Test.YtgjfmljpdnnihaaGreatG1
import Derived.Test.YtgjfmljpdnnihaaGreatG2
import Derived.Test.YtgjfmljpdnnihaaGreatG3
import Derived.Test.YtgjfmljpdnnihaaGreatG4
import Derived.Test.YtgjfmljpdnnihaaGreatG5
namespace Go.Proofs.YtgjfmljpdnnihaaGreat
open Go.RowKit
set_option linter.unusedVariables false
set_option maxRecDepth 100000
end Go.Proofs.YtgjfmljpdnnihaaGreat
