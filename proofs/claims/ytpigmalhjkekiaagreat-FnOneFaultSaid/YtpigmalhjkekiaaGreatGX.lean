/-
  Functions that proofs compare with, as plain functions. Nothing here is a claim.
-/
import Derived.Test.YtpigmalhjkekiaaGreatVZ
import Derived.Test.YtpigmalhjkekiaaGreatRep
import Derived.Test.YtpigmalhjkekiaaGreatG1
import Derived.Test.YtpigmalhjkekiaaGreatG2
import Derived.Test.YtpigmalhjkekiaaGreatG3
import Derived.Test.YtpigmalhjkekiaaGreatG4
import Derived.Test.YtpigmalhjkekiaaGreatG5
import Derived.Test.YtpigmalhjkekiaaGreatG6
import Derived.Test.YtpigmalhjkekiaaGreatG7
namespace Go.Proofs.YtpigmalhjkekiaaGreat
open Go.RowKit
set_option linter.unusedVariables false
set_option maxRecDepth 100000
end Go.Proofs.YtpigmalhjkekiaaGreat
