/-
  Functions that proofs compare with, as plain functions. Nothing here is a claim.
-/
import Derived.Test.YtdfkhfiglknaoaaGreatVZ
import Derived.Test.YtdfkhfiglknaoaaGreatRep
import Derived.Test.YtdfkhfiglknaoaaGreatG1
import Derived.Test.YtdfkhfiglknaoaaGreatG2
import Derived.Test.YtdfkhfiglknaoaaGreatG3
import Derived.Test.YtdfkhfiglknaoaaGreatG4
import Derived.Test.YtdfkhfiglknaoaaGreatG5
import Derived.Test.YtdfkhfiglknaoaaGreatG6
import Derived.Test.YtdfkhfiglknaoaaGreatG7
import Derived.Test.YtdfkhfiglknaoaaGreatG8
import Derived.Test.YtdfkhfiglknaoaaGreatG9
namespace Go.Proofs.YtdfkhfiglknaoaaGreat
open Go.RowKit
set_option linter.unusedVariables false
set_option maxRecDepth 100000
end Go.Proofs.YtdfkhfiglknaoaaGreat
